import PyProof.Rows.All
import Wide.All
import OpenK.AllK
import Wide.FinOn
import HandS.ForMost
import HandS.ForExc
import HandS.Walk
import HandS.IsInst
import HandS.Strs
import HandS.SetFor
import HandS.TupAny
import HandS.TryMany
import HandS.Zip
import HandS.Conv
import HandS.RaiseMore
import HandS.OwnEq
import HandS.Style
import HandS.ExcInit
import HandS.ExcField
import HandS.ExcIs
import HandS.More
import KE.KExcIs
import KE.GoesMore
import HandS.Small
import KE.KIsAll
import HandS.SortOrd
import HandS.TupSets
import KE.KSortTup
import HandS.ExcCtx
import HandS.StrMore
import HandS.Star
import HandS.SortInts
import HandS.RepeatKit
import PySem.Challenge.RW_nearlots_k85_whole_deeds_said
set_option Elab.async false
set_option linter.all false
set_option maxRecDepth 100000
set_option maxHeartbeats 2000000
namespace NL
open PySem PySem.Spec PyProof.Rows L2

/-! ### data: what a value tells, tuples and lists that stand still by what is in them, what may change by its number in the store -/
inductive Da where
  | non | bl (b : Bool) | int (i : Int) | str (x : Str) | tup (l : List Da) | lst (l : List Da) | cell (j : Nat) | exc (a : Addr) (dx : Option Addr) (c : Str) (d : Da) | src (l : List Da)
/-- what may change -/
inductive Cell where
  | lst (l : List Da)
  | obj (c : Str) (fs : List (Str × Da))
/-- the world of a run: where the cells are, and what stands still -/
structure Wd where
  ι : List Addr
  F : Hp
/-- the constants of a law's proof -/
structure Gc where
  P : Program
  w : World
  K : PySem.W.Frag
  cls : Str → Addr
  xf : Str → Option Str

/-- an exception's dict, as its class has it: none, or one field -/
def XDict (G : Gc) (W : Wd) (dx : Option Addr) (c : Str) (d : Da) (u : V) : Prop := match G.xf c with
  | none => dx = none ∧ d = .non
  | some f => ∃ b, dx = some b ∧ W.F b = some (.xd [(f, u)])
mutual
def Rep (G : Gc) (W : Wd) : Da → V → Prop
  | .non, v => v = .non
  | .bl b, v => v = .bl b
  | .int i, v => v = .int i
  | .str x, v => v = .str x
  | .tup l, v => ∃ a vs, v = .ref a ∧ SqT G.K W.F a vs ∧ Reps G W l vs
  | .lst l, v => ∃ a vs, v = .ref a ∧ W.F a = some (.lst vs) ∧ Reps G W l vs
  | .cell j, v => ∃ a, W.ι[j]? = some a ∧ v = .ref a
  | .exc a dx c d, v => v = .ref a ∧ ∃ u, XDict G W dx c d u ∧ Rep G W d u
  | .src l, v => ∃ a vs, v = .ref a ∧ SqL G.K W.F a vs ∧ Reps G W l vs
def Reps (G : Gc) (W : Wd) : List Da → List V → Prop
  | [], vs => vs = []
  | d :: ds, vs => ∃ v r, vs = v :: r ∧ Rep G W d v ∧ Reps G W ds r
end

/-- a later world -/
structure Wd.le (W W' : Wd) : Prop where
  i : ∀ (j : Nat) (a : Addr), W.ι[j]? = some a → W'.ι[j]? = some a
  F : ∀ a o, W.F a = some o → W'.F a = some o
theorem Wd.le.refl (W : Wd) : W.le W := ⟨fun _ _ h => h, fun _ _ h => h⟩
theorem Wd.le.trans {W W1 W2 : Wd} (a : W.le W1) (b : W1.le W2) : W.le W2 := ⟨fun j x h => b.i j x (a.i j x h), fun x o h => b.F x o (a.F x o h)⟩

theorem SqL.mono {K : PySem.W.Frag} {H H' : Hp} {a : Addr} {xs : List V} (h : SqL K H a xs) (e : ∀ a o, H a = some o → H' a = some o) : SqL K H' a xs := by
  match h with
  | .inl (.inl q) => exact .inl (.inl (e _ _ q))
  | .inl (.inr ⟨o, q⟩) => exact .inl (.inr ⟨o, e _ _ q⟩)
  | .inr q => exact .inr q
theorem SqT.mono {K : PySem.W.Frag} {H H' : Hp} {a : Addr} {xs : List V} (h : SqT K H a xs) (e : ∀ a o, H a = some o → H' a = some o) : SqT K H' a xs := by
  match h with
  | .inl (.inl q) => exact .inl (.inl (e _ _ q))
  | .inl (.inr ⟨o, q⟩) => exact .inl (.inr ⟨o, e _ _ q⟩)
  | .inr q => exact .inr q

theorem XDict.mono {G : Gc} {W W' : Wd} {dx : Option Addr} {c : Str} {d : Da} {u : V} (e : W.le W') (h : XDict G W dx c d u) : XDict G W' dx c d u := by
  unfold XDict at h ⊢
  split
  · rename_i q; rw [q] at h; exact h
  · rename_i f q
    rw [q] at h
    obtain ⟨b, h1, h2⟩ := h
    exact ⟨b, h1, e.F _ _ h2⟩
mutual
theorem Rep.mono {G : Gc} {W W' : Wd} (e : W.le W') : ∀ {d : Da} {v : V}, Rep G W d v → Rep G W' d v
  | .non, _, h => by simpa [Rep] using h
  | .bl _, _, h => by simpa [Rep] using h
  | .int _, _, h => by simpa [Rep] using h
  | .str _, _, h => by simpa [Rep] using h
  | .tup l, v, h => by
    rw [Rep] at h ⊢
    obtain ⟨a, vs, h1, h2, h3⟩ := h
    exact ⟨a, vs, h1, SqT.mono h2 e.F, Reps.mono e h3⟩
  | .lst l, v, h => by
    rw [Rep] at h ⊢
    obtain ⟨a, vs, h1, h2, h3⟩ := h
    exact ⟨a, vs, h1, e.F _ _ h2, Reps.mono e h3⟩
  | .cell j, v, h => by
    rw [Rep] at h ⊢
    obtain ⟨a, h1, h2⟩ := h
    exact ⟨a, e.i j a h1, h2⟩
  | .exc a dx c d, v, h => by
    rw [Rep] at h ⊢
    obtain ⟨h1, u, h2, h3⟩ := h
    exact ⟨h1, u, h2.mono e, Rep.mono e h3⟩
  | .src l, v, h => by
    rw [Rep] at h ⊢
    obtain ⟨a, vs, h1, h2, h3⟩ := h
    exact ⟨a, vs, h1, SqL.mono h2 e.F, Reps.mono e h3⟩
theorem Reps.mono {G : Gc} {W W' : Wd} (e : W.le W') : ∀ {l : List Da} {vs : List V}, Reps G W l vs → Reps G W' l vs
  | [], _, h => by simpa [Reps] using h
  | d :: ds, vs, h => by
    rw [Reps] at h ⊢
    obtain ⟨v, r, h1, h2, h3⟩ := h
    exact ⟨v, r, h1, Rep.mono e h2, Reps.mono e h3⟩
end
theorem Reps.nil {G : Gc} {W : Wd} : Reps G W [] [] := by rw [Reps]
theorem Reps.cons {G : Gc} {W : Wd} {d : Da} {v : V} {ds : List Da} {vs : List V} (h : Rep G W d v) (r : Reps G W ds vs) : Reps G W (d :: ds) (v :: vs) := by
  rw [Reps]; exact ⟨v, vs, rfl, h, r⟩
theorem Reps.inv_nil {G : Gc} {W : Wd} {vs : List V} (h : Reps G W [] vs) : vs = [] := by simpa [Reps] using h
theorem Reps.inv_cons {G : Gc} {W : Wd} {d : Da} {ds : List Da} {vs : List V} (h : Reps G W (d :: ds) vs) : ∃ v r, vs = v :: r ∧ Rep G W d v ∧ Reps G W ds r := by
  rw [Reps] at h; exact h
theorem Reps.length {G : Gc} {W : Wd} : ∀ {l : List Da} {vs : List V}, Reps G W l vs → l.length = vs.length
  | [], _, h => by rw [h.inv_nil]; rfl
  | d :: ds, vs, h => by
    obtain ⟨v, r, rfl, _, h3⟩ := h.inv_cons
    simp [h3.length]
theorem Reps.append {G : Gc} {W : Wd} : ∀ {l m : List Da} {vs us : List V}, Reps G W l vs → Reps G W m us → Reps G W (l ++ m) (vs ++ us)
  | [], m, vs, us, h, k => by rw [h.inv_nil]; exact k
  | d :: ds, m, vs, us, h, k => by
    obtain ⟨v, r, rfl, h2, h3⟩ := h.inv_cons
    exact .cons h2 (h3.append k)
theorem Reps.get {G : Gc} {W : Wd} : ∀ {l : List Da} {vs : List V}, Reps G W l vs → ∀ {i : Nat} {d : Da}, l[i]? = some d → ∃ v, vs[i]? = some v ∧ Rep G W d v
  | [], _, h, i, d, e => by simp at e
  | d :: ds, vs, h, i, d', e => by
    obtain ⟨v, r, rfl, h2, h3⟩ := h.inv_cons
    cases i with
    | zero => simp at e; subst e; exact ⟨v, rfl, h2⟩
    | succ i => exact h3.get (i := i) (by simpa using e)
theorem Reps.getV {G : Gc} {W : Wd} {l : List Da} {vs : List V} (h : Reps G W l vs) {i : Nat} {v : V} (e : vs[i]? = some v) : ∃ d, l[i]? = some d ∧ Rep G W d v := by
  have hl := h.length
  have hi : i < vs.length := (List.getElem?_eq_some_iff.mp e).1
  have hi2 : i < l.length := by omega
  obtain ⟨u, hu, r⟩ := h.get (i := i) (d := l[i]) (by simp [hi2])
  rw [e] at hu; cases hu
  exact ⟨l[i], by simp [hi2], r⟩
theorem Reps.set {G : Gc} {W : Wd} : ∀ {l : List Da} {vs : List V} {d : Da} {v : V}, Reps G W l vs → Rep G W d v → ∀ i : Nat, Reps G W (l.set i d) (vs.set i v)
  | [], vs, _, _, h, _, i => by rw [h.inv_nil]; exact .nil
  | x :: xs, vs, d, v, h, k, i => by
    obtain ⟨u, r, rfl, h2, h3⟩ := h.inv_cons
    cases i with
    | zero => exact .cons k h3
    | succ i => exact .cons h2 (h3.set k i)
theorem Reps.take {G : Gc} {W : Wd} : ∀ {l : List Da} {vs : List V}, Reps G W l vs → ∀ n : Nat, Reps G W (l.take n) (vs.take n)
  | [], vs, h, n => by rw [h.inv_nil]; simpa using Reps.nil
  | x :: xs, vs, h, n => by
    obtain ⟨u, r, rfl, h2, h3⟩ := h.inv_cons
    cases n with
    | zero => exact .nil
    | succ n => exact .cons h2 (h3.take n)
theorem Reps.drop {G : Gc} {W : Wd} : ∀ {l : List Da} {vs : List V}, Reps G W l vs → ∀ n : Nat, Reps G W (l.drop n) (vs.drop n)
  | [], vs, h, n => by rw [h.inv_nil]; simpa using Reps.nil
  | x :: xs, vs, h, n => by
    obtain ⟨u, r, rfl, h2, h3⟩ := h.inv_cons
    cases n with
    | zero => exact .cons h2 h3
    | succ n => exact h3.drop n
theorem Reps.reverse {G : Gc} {W : Wd} : ∀ {l : List Da} {vs : List V}, Reps G W l vs → Reps G W l.reverse vs.reverse
  | [], vs, h => by rw [h.inv_nil]; simpa using Reps.nil
  | x :: xs, vs, h => by
    obtain ⟨u, r, rfl, h2, h3⟩ := h.inv_cons
    simp only [List.reverse_cons]
    exact (h3.reverse).append (.cons h2 .nil)

/-! ### fields -/
inductive RepF (G : Gc) (W : Wd) : List (Str × Da) → List (Str × V) → Prop
  | nil : RepF G W [] []
  | cons {f : Str} {d : Da} {v : V} {ds : List (Str × Da)} {vs : List (Str × V)} (h : Rep G W d v) (r : RepF G W ds vs) : RepF G W ((f, d) :: ds) ((f, v) :: vs)
theorem RepF.mono {G : Gc} {W W' : Wd} (e : W.le W') {ds : List (Str × Da)} {vs : List (Str × V)} (h : RepF G W ds vs) : RepF G W' ds vs := by
  induction h with
  | nil => exact .nil
  | cons h _ ih => exact .cons (h.mono e) ih
theorem RepF.length {G : Gc} {W : Wd} {ds : List (Str × Da)} {vs : List (Str × V)} (h : RepF G W ds vs) : ds.length = vs.length := by
  induction h with
  | nil => rfl
  | cons _ _ ih => simp [ih]
theorem RepF.lookup {G : Gc} {W : Wd} {ds : List (Str × Da)} {vs : List (Str × V)} (h : RepF G W ds vs) {f : Str} {d : Da} (e : ds.lookup f = some d) : ∃ v, vs.lookup f = some v ∧ Rep G W d v := by
  induction h with
  | nil => cases e
  | @cons g d' v ds vs h _ ih =>
    rw [List.lookup_cons] at e ⊢
    cases q : f == g with
    | true => rw [q] at e; cases e; exact ⟨v, rfl, h⟩
    | false => rw [q] at e; exact ih e
theorem RepF.lookup_none {G : Gc} {W : Wd} {ds : List (Str × Da)} {vs : List (Str × V)} (h : RepF G W ds vs) {f : Str} (e : ds.lookup f = none) : vs.lookup f = none := by
  induction h with
  | nil => rfl
  | @cons g d' v ds vs h _ ih =>
    rw [List.lookup_cons] at e ⊢
    cases q : f == g with
    | true => rw [q] at e; cases e
    | false => rw [q] at e; exact ih e
/-- a field stored, as putF stores it -/
def putD (f : Str) (d : Da) : List (Str × Da) → List (Str × Da)
  | [] => [(f, d)]
  | (g, e) :: r => if g = f then (g, d) :: r else (g, e) :: putD f d r
theorem RepF.put {G : Gc} {W : Wd} {ds : List (Str × Da)} {vs : List (Str × V)} (h : RepF G W ds vs) {f : Str} {d : Da} {v : V} (r : Rep G W d v) : RepF G W (putD f d ds) (putF f v vs) := by
  induction h with
  | nil => exact .cons r .nil
  | @cons g d' v' ds vs h t ih =>
    unfold putD putF
    by_cases e : g = f
    · rw [if_pos e, if_pos e]; exact .cons r t
    · rw [if_neg e, if_neg e]; exact .cons h ih

/-! ### the store in the heap -/
def CellAt (G : Gc) (W : Wd) (H : Hp) (a : Addr) : Cell → Prop
  | .lst l => ∃ vs, H a = some (.lst vs) ∧ Reps G W l vs
  | .obj c fs => ∃ dx vs, H a = some (.ins (G.cls c) dx vs) ∧ RepF G W fs vs
structure SR (G : Gc) (W : Wd) (H : Hp) (S : List Cell) : Prop where
  sub : ∀ a o, W.F a = some o → H a = some o
  nd : W.ι.Nodup
  len : W.ι.length = S.length
  cell : ∀ (j : Nat) (c : Cell), S[j]? = some c → ∃ a, W.ι[j]? = some a ∧ CellAt G W H a c
  out : ∀ a ∈ W.ι, W.F a = none
/-- from the world W with the heap H to the world W' with the heap H': nothing that stood still has changed, what is new is new -/
structure Ext (W : Wd) (H : Hp) (W' : Wd) (H' : Hp) : Prop where
  le : W.le W'
  new : ∀ a, a ∈ W'.ι → a ∈ W.ι ∨ H a = none
  Fn : ∀ a o, W'.F a = some o → W.F a = some o ∨ H a = none
  keep : ∀ a o, H a = some o → a ∉ W.ι → H' a = some o
  dom : ∀ a, H' a = none → H a = none
theorem Ext.refl (W : Wd) (H : Hp) : Ext W H W H := ⟨.refl W, fun _ h => .inl h, fun _ _ h => .inl h, fun _ _ h _ => h, fun _ h => h⟩
theorem Ext.trans {W W1 W2 : Wd} {H H1 H2 : Hp} (x : Ext W H W1 H1) (y : Ext W1 H1 W2 H2) : Ext W H W2 H2 where
  le := x.le.trans y.le
  new := fun a h => by
    rcases y.new a h with h | h
    · exact x.new a h
    · exact .inr (x.dom a h)
  Fn := fun a o h => by
    rcases y.Fn a o h with h | h
    · exact x.Fn a o h
    · exact .inr (x.dom a h)
  keep := fun a o h n => by
    refine y.keep a o (x.keep a o h n) fun m => ?_
    rcases x.new a m with q | q
    · exact n q
    · rw [h] at q; cases q
  dom := fun a h => x.dom a (y.dom a h)

theorem CellAt.tracked {G : Gc} {W : Wd} {H : Hp} {a : Addr} {c : Cell} (h : CellAt G W H a c) : H a ≠ none := by
  cases c with
  | lst l => obtain ⟨vs, h, _⟩ := h; rw [h]; simp
  | obj c fs => obtain ⟨dx, vs, h, _⟩ := h; rw [h]; simp
theorem CellAt.mono {G : Gc} {W W' : Wd} {H H' : Hp} {a : Addr} {c : Cell} (e : W.le W') (h : CellAt G W H a c) (k : H' a = H a) : CellAt G W' H' a c := by
  cases c with
  | lst l => obtain ⟨vs, h, r⟩ := h; exact ⟨vs, k.trans h, r.mono e⟩
  | obj c fs => obtain ⟨dx, vs, h, r⟩ := h; exact ⟨dx, vs, k.trans h, r.mono e⟩
theorem SR.tracked {G : Gc} {W : Wd} {H : Hp} {S : List Cell} (s : SR G W H S) {a : Addr} (h : a ∈ W.ι) : H a ≠ none := by
  obtain ⟨j, hj, e⟩ := List.mem_iff_getElem.mp h
  have hj2 : j < S.length := by rw [← s.len]; exact hj
  obtain ⟨b, hb, c⟩ := s.cell j S[j] (by simp [hj2])
  have : W.ι[j]? = some a := by simp [hj, e]
  rw [this] at hb; cases hb
  exact c.tracked
theorem SR.notin {G : Gc} {W : Wd} {H : Hp} {S : List Cell} (s : SR G W H S) {a : Addr} (h : H a = none) : a ∉ W.ι := fun m => s.tracked m h
theorem SR.Fnone {G : Gc} {W : Wd} {H : Hp} {S : List Cell} (s : SR G W H S) {a : Addr} (h : H a = none) : W.F a = none := by
  cases q : W.F a with
  | none => rfl
  | some o => have := s.sub a o q; rw [h] at this; cases this

/-- a new object that stands still -/
def Wd.frz (W : Wd) (p : Addr) (o : HO) : Wd := ⟨W.ι, upd W.F p o⟩
theorem Ext.frz {G : Gc} {W : Wd} {H : Hp} {S : List Cell} (s : SR G W H S) {p : Addr} {o : HO} (hp : H p = none) : Ext W H (W.frz p o) (upd H p o) ∧ SR G (W.frz p o) (upd H p o) S := by
  have fp := s.Fnone hp
  have le : W.le (W.frz p o) := ⟨fun _ _ h => h, fun a u h => by
    show upd W.F p o a = some u
    rw [upd_ne (ne_of_none h fp)]; exact h⟩
  refine ⟨⟨le, fun a h => .inl h, fun a u h => ?_, fun a u h _ => by rw [upd_ne (ne_of_none h hp)]; exact h, fun a h => ?_⟩, ⟨fun a u h => ?_, s.nd, s.len, fun j c h => ?_, fun a h => ?_⟩⟩
  · by_cases e : a = p
    · subst e; exact .inr hp
    · have h : upd W.F p o a = some u := h
      rw [upd_ne e] at h; exact .inl h
  · by_cases e : a = p
    · subst e; exact hp
    · rw [upd_ne e] at h; exact h
  · have h : upd W.F p o a = some u := h
    by_cases e : a = p
    · subst e; rw [upd_same] at h ⊢; exact h
    · rw [upd_ne e] at h ⊢; exact s.sub a u h
  · obtain ⟨a, ha, q⟩ := s.cell j c h
    have hne : a ≠ p := fun e => s.notin hp (e ▸ List.mem_of_getElem? ha)
    exact ⟨a, ha, q.mono le (upd_ne hne)⟩
  · have hne : a ≠ p := fun e => s.notin hp (e ▸ h)
    show upd W.F p o a = none
    rw [upd_ne hne]; exact s.out a h
/-- an object that is there, told by nobody, stands still from now on -/
theorem Ext.still {G : Gc} {W : Wd} {H : Hp} {S : List Cell} (s : SR G W H S) {p : Addr} {o : HO} {H0 : Hp} {W0 : Wd} (x : Ext W0 H0 W H) (h0 : H0 p = none) (hp : H p = some o) (hn : p ∉ W.ι) (hf : W.F p = none) :
    Ext W0 H0 (W.frz p o) H ∧ SR G (W.frz p o) H S := by
  have le : W.le (W.frz p o) := ⟨fun _ _ h => h, fun a u h => by
    show upd W.F p o a = some u
    rw [upd_ne (ne_of_none h hf)]; exact h⟩
  refine ⟨⟨x.le.trans le, x.new, fun a u h => ?_, x.keep, x.dom⟩, ⟨fun a u h => ?_, s.nd, s.len, fun j c h => ?_, fun a h => ?_⟩⟩
  · by_cases e : a = p
    · subst e; exact .inr h0
    · have h : upd W.F p o a = some u := h
      rw [upd_ne e] at h; exact x.Fn a u h
  · have h : upd W.F p o a = some u := h
    by_cases e : a = p
    · subst e; rw [upd_same] at h; cases h; exact hp
    · rw [upd_ne e] at h; exact s.sub a u h
  · obtain ⟨a, ha, q⟩ := s.cell j c h
    exact ⟨a, ha, q.mono le rfl⟩
  · have hne : a ≠ p := fun e => hn (e ▸ h)
    show upd W.F p o a = none
    rw [upd_ne hne]; exact s.out a h
/-- .. or is a cell from now on -/
def Wd.cel (W : Wd) (p : Addr) : Wd := ⟨W.ι ++ [p], W.F⟩
theorem Wd.le_cel (W : Wd) (p : Addr) : W.le (W.cel p) := ⟨fun j a h => by
    show (W.ι ++ [p])[j]? = some a
    rw [List.getElem?_append_left (List.getElem?_eq_some_iff.mp h).1]; exact h, fun _ _ h => h⟩
theorem Ext.cel {G : Gc} {W : Wd} {H : Hp} {S : List Cell} (s : SR G W H S) {p : Addr} {c : Cell} {H0 : Hp} {W0 : Wd} (x : Ext W0 H0 W H) (h0 : H0 p = none) (hp : CellAt G W H p c) (hn : p ∉ W.ι) (hf : W.F p = none) :
    Ext W0 H0 (W.cel p) H ∧ SR G (W.cel p) H (S ++ [c]) := by
  refine ⟨⟨x.le.trans (W.le_cel p), fun a h => ?_, x.Fn, x.keep, x.dom⟩, ⟨s.sub, ?_, ?_, fun j d h => ?_, fun a h => ?_⟩⟩
  · have h : a ∈ W.ι ++ [p] := h
    rcases List.mem_append.1 h with h | h
    · exact x.new a h
    · rw [List.mem_singleton.mp h]; exact .inr h0
  · show (W.ι ++ [p]).Nodup
    rw [List.nodup_append]
    exact ⟨s.nd, by simp, fun a ha b hb e => hn (by rw [List.mem_singleton.mp hb] at e; exact e ▸ ha)⟩
  · show (W.ι ++ [p]).length = _
    rw [List.length_append, List.length_append, s.len]; rfl
  · by_cases hj : j < S.length
    · rw [List.getElem?_append_left hj] at h
      obtain ⟨a, ha, q⟩ := s.cell j d h
      exact ⟨a, (W.le_cel p).i j a ha, q.mono (W.le_cel p) rfl⟩
    · rw [List.getElem?_append_right (by omega)] at h
      have e : j - S.length = 0 := by
        have := (List.getElem?_eq_some_iff.mp h).1
        simp at this; omega
      rw [e] at h
      simp at h; subst h
      refine ⟨p, ?_, hp.mono (W.le_cel p) rfl⟩
      show (W.ι ++ [p])[j]? = some p
      rw [List.getElem?_append_right (by rw [s.len]; omega), s.len, e]; rfl
  · have h : a ∈ W.ι ++ [p] := h
    show W.F a = none
    rcases List.mem_append.1 h with h | h
    · exact s.out a h
    · rw [List.mem_singleton.mp h]; exact hf
/-- a cell is written -/
theorem SR.write {G : Gc} {W : Wd} {H : Hp} {S : List Cell} (s : SR G W H S) {j : Nat} {p : Addr} {o : HO} {c : Cell} (hj : W.ι[j]? = some p) (hp : CellAt G W (upd H p o) p c) : SR G W (upd H p o) (S.set j c) ∧ Ext W H W (upd H p o) := by
  have hm : p ∈ W.ι := List.mem_of_getElem? hj
  have hlt : j < S.length := by rw [← s.len]; exact (List.getElem?_eq_some_iff.mp hj).1
  refine ⟨⟨fun a u h => ?_, s.nd, by rw [List.length_set]; exact s.len, fun i d h => ?_, s.out⟩, ⟨.refl W, fun a h => .inl h, fun a u h => .inl h, fun a u h n => ?_, fun a h => ?_⟩⟩
  · have hne : a ≠ p := fun e => by rw [e, s.out p hm] at h; cases h
    rw [upd_ne hne]; exact s.sub a u h
  · by_cases e : i = j
    · subst e
      rw [List.getElem?_set_self hlt] at h; cases h
      exact ⟨p, hj, hp⟩
    · rw [List.getElem?_set_ne (Ne.symm e)] at h
      obtain ⟨a, ha, q⟩ := s.cell i d h
      have hne : a ≠ p := fun z => e (nd_ix s.nd ha (z ▸ hj))
      exact ⟨a, ha, q.mono (.refl W) (upd_ne hne)⟩
  · have hne : a ≠ p := fun e => n (e ▸ hm)
    rw [upd_ne hne]; exact h
  · by_cases e : a = p
    · subst e; rw [upd_same] at h; cases h
    · rw [upd_ne e] at h; exact h

/-! ### slots -/
structure RepE (G : Gc) (W : Wd) (σ : L2.St) (ρ : List (Option Da)) : Prop where
  len : σ.length = ρ.length
  at' : ∀ (i : Nat) (d : Da), ρ[i]? = some (some d) → ∃ v, σ[i]? = some (some v) ∧ Rep G W d v
theorem RepE.mono {G : Gc} {W W' : Wd} {σ : L2.St} {ρ : List (Option Da)} (e : W.le W') (h : RepE G W σ ρ) : RepE G W' σ ρ := ⟨h.len, fun i d q => let ⟨v, a, b⟩ := h.at' i d q; ⟨v, a, b.mono e⟩⟩
theorem RepE.set {G : Gc} {W : Wd} {σ : L2.St} {ρ : List (Option Da)} (h : RepE G W σ ρ) {i : Nat} {d : Da} {v : V} (r : Rep G W d v) : RepE G W (σ.set i (some v)) (ρ.set i (some d)) := by
  refine ⟨by rw [List.length_set, List.length_set]; exact h.len, fun j e q => ?_⟩
  by_cases hj : j = i
  · subst hj
    have hlt : j < ρ.length := by
      have := (List.getElem?_eq_some_iff.mp q).1
      rwa [List.length_set] at this
    rw [List.getElem?_set_self hlt] at q; cases q
    exact ⟨v, by rw [List.getElem?_set_self (by rw [h.len]; exact hlt)], r⟩
  · rw [List.getElem?_set_ne (Ne.symm hj)] at q ⊢
    exact h.at' j e q
theorem RepE.none {G : Gc} {W : Wd} {σ : L2.St} {ρ : List (Option Da)} (h : RepE G W σ ρ) (i : Nat) : RepE G W (σ.set i Option.none) (ρ.set i Option.none) := by
  refine ⟨by rw [List.length_set, List.length_set]; exact h.len, fun j e q => ?_⟩
  by_cases hj : j = i
  · subst hj
    by_cases hlt : j < ρ.length
    · rw [List.getElem?_set_self hlt] at q; cases q
    · rw [List.getElem?_eq_none (by rw [List.length_set]; omega)] at q; cases q
  · rw [List.getElem?_set_ne (Ne.symm hj)] at q ⊢
    exact h.at' j e q
end NL

set_option Elab.async false
set_option linter.all false
set_option maxRecDepth 100000
set_option maxHeartbeats 2000000
namespace NL
open PySem PySem.Spec PyProof.Rows L2

abbrev En := List (Option Da)
abbrev Store := List Cell
/-- what an expression gives -/
inductive Res (α : Type) where
  | ok (a : α) (S : Store) | exc (c : Str) (d : Da) (S : Store) | bad
abbrev M (α : Type) := En → Store → Res α
def Res.bind {α β : Type} (r : Res α) (k : α → Store → Res β) : Res β := match r with
  | .ok a S => k a S
  | .exc c d S => .exc c d S
  | .bad => .bad
def ofO {α : Type} (o : Option α) (S : Store) : Res α := match o with
  | some a => .ok a S
  | none => .bad
/-- an exception of the class c, with its one field where it has one -/
def XRep (G : Gc) (W : Wd) (c : Str) (d : Da) (cls : Value) (dx : Option Addr) : Prop := cls = .ref (G.cls c) ∧ ∃ u, XDict G W dx c d u ∧ Rep G W d u
theorem XRep.mono {G : Gc} {W W' : Wd} {c : Str} {d : Da} {cls : Value} {dx : Option Addr} (e : W.le W') (h : XRep G W c d cls dx) : XRep G W' c d cls dx := by
  obtain ⟨h1, u, h2, h3⟩ := h
  exact ⟨h1, u, h2.mono e, h3.mono e⟩

/-- what is wanted behind: of the value (related by R), of an exception -/
def Aft {α β : Type} (R : Wd → α → β → Prop) (G : Gc) (Wx : WX) (σ : L2.St) (W : Wd) (H : Hp) (r : Res α) (Q : β → Hp → Prop) : Prop := match r with
  | .ok a S => ∀ b W' H', Ext W H W' H' → SR G W' H' S → R W' a b → Q b H'
  | .exc c d S => ∀ cls dx W' H', Ext W H W' H' → SR G W' H' S → XRep G W' c d cls dx → Wx cls dx σ H'
  | .bad => False
section
variable {α β γ δ : Type} {R : Wd → α → β → Prop} {R' : Wd → γ → δ → Prop} {G : Gc} {Wx : WX} {σ : L2.St} {W : Wd} {H : Hp} {S : Store}
theorem Aft.later {r : Res α} {Q : β → Hp → Prop} {W' : Wd} {H' : Hp} (h : Aft R G Wx σ W H r Q) (x : Ext W H W' H') : Aft R G Wx σ W' H' r Q := by
  cases r with
  | ok a S => exact fun b W2 H2 x2 => h b W2 H2 (x.trans x2)
  | exc c d S => exact fun cls dx W2 H2 x2 => h cls dx W2 H2 (x.trans x2)
  | bad => exact h
theorem Aft.bind {r : Res α} {k : α → Store → Res γ} {Q : δ → Hp → Prop} {Q' : β → Hp → Prop} (h : Aft R' G Wx σ W H (r.bind k) Q)
    (step : ∀ a S b W' H', Ext W H W' H' → SR G W' H' S → R W' a b → Aft R' G Wx σ W' H' (k a S) Q → Q' b H') : Aft R G Wx σ W H r Q' := by
  cases r with
  | ok a S => exact fun b W' H' x s q => step a S b W' H' x s q (h.later x)
  | exc c d S => exact h
  | bad => exact h
theorem Aft.mono {r : Res α} {Q Q' : β → Hp → Prop} (h : Aft R G Wx σ W H r Q) (k : ∀ b H', Q b H' → Q' b H') : Aft R G Wx σ W H r Q' := by
  cases r with
  | ok a S => exact fun b W' H' x s q => k b H' (h b W' H' x s q)
  | exc c d S => exact h
  | bad => exact h
/-- here and now -/
theorem Aft.here {a : α} {b : β} {Q : β → Hp → Prop} (h : Aft R G Wx σ W H (.ok a S) Q) (s : SR G W H S) (r : R W a b) : Q b H := h b W H (.refl W H) s r
end

abbrev RV (G : Gc) : Wd → Da → V → Prop := fun W d v => Rep G W d v
abbrev RVs (G : Gc) : Wd → List Da → List V → Prop := fun W d v => Reps G W d v
abbrev RB : Wd → Bool → Bool → Prop := fun _ a b => a = b
/-- the reading of f -/
def tR {α β : Type} (R : Wd → α → β → Prop) (G : Gc) (Wx : WX) (f : M α) : L2.St → Hp → (β → Hp → Prop) → Prop := fun σ H Q =>
  ∃ W S ρ, SR G W H S ∧ RepE G W σ ρ ∧ Aft R G Wx σ W H (f ρ S) Q
abbrev tM (G : Gc) (Wx : WX) (f : M Da) : TE := tR (RV G) G Wx f
abbrev tMs (G : Gc) (Wx : WX) (f : M (List Da)) : TA := tR (RVs G) G Wx f
abbrev tMb (G : Gc) (Wx : WX) (f : M Bool) : TT := tR RB G Wx f

/-! ### weakening -/
theorem _root_.L2.PE.imp {X : Cx} {e : Expr} {t t' : TE} (h : PE X e t) (k : ∀ σ H Q, t' σ H Q → t σ H Q) : PE X e t' := ⟨fun pins s σ H Q I q => h.run pins s σ H Q I (k σ H Q q)⟩
theorem _root_.L2.PT.imp {X : Cx} {e : Expr} {t t' : TT} (h : PT X e t) (k : ∀ σ H Q, t' σ H Q → t σ H Q) : PT X e t' := ⟨fun pins s σ H Q I q => h.run pins s σ H Q I (k σ H Q q)⟩
theorem _root_.L2.PW.imp {X : Cx} {e : Expr} {t t' : TT} (h : PW X e t) (k : ∀ σ H Q, t' σ H Q → t σ H Q) : PW X e t' := ⟨fun wh pins s σ H Q I q => h.run wh pins s σ H Q I (k σ H Q q)⟩
theorem _root_.L2.PA.imp {X : Cx} {es : List Expr} {t t' : TA} (h : PA X es t) (k : ∀ σ H Q, t' σ H Q → t σ H Q) : PA X es t' := ⟨fun pos pins s σ H Q I q => h.run pos pins s σ H Q I (k σ H Q q)⟩
theorem _root_.L2.PS.imp {X : Cx} {st : Stmt} {t t' : TS} (h : PS X st t) (k : ∀ D σ H, t' D σ H → t D σ H) : PS X st t' := ⟨fun pins s σ H D I q => h.run pins s σ H D I (k D σ H q)⟩
theorem _root_.L2.PSs.imp {X : Cx} {st : List Stmt} {t t' : TS} (h : PSs X st t) (k : ∀ D σ H, t' D σ H → t D σ H) : PSs X st t' := ⟨fun pins s σ H D I q => h.run pins s σ H D I (k D σ H q)⟩

/-! ### expressions -/
def varM (i : Nat) : M Da := fun ρ S => match ρ[i]? with
  | some (some d) => .ok d S
  | _ => .bad
def cM (d : Da) : M Da := fun _ S => .ok d S
def nilM : M (List Da) := fun _ S => .ok [] S
def consM (f : M Da) (g : M (List Da)) : M (List Da) := fun ρ S => (f ρ S).bind fun a S1 => (g ρ S1).bind fun l S2 => .ok (a :: l) S2
def opM (op : Da → Da → Store → Option Da) (f g : M Da) : M Da := fun ρ S => (f ρ S).bind fun a S1 => (g ρ S1).bind fun b S2 => ofO (op a b S2) S2
def unM (op : Da → Store → Option Da) (f : M Da) : M Da := fun ρ S => (f ρ S).bind fun a S1 => ofO (op a S1) S1
/-- the test of a value that is a truth -/
def tstM (f : M Da) : M Bool := fun ρ S => (f ρ S).bind fun a S1 => match a with
  | .bl b => .ok b S1
  | _ => .bad
def notT (f : M Bool) : M Bool := fun ρ S => (f ρ S).bind fun b S1 => .ok (!b) S1
def andT (f g : M Bool) : M Bool := fun ρ S => (f ρ S).bind fun b S1 => if b then g ρ S1 else .ok false S1
def orT (f g : M Bool) : M Bool := fun ρ S => (f ρ S).bind fun b S1 => if b then .ok true S1 else g ρ S1
def notM (f : M Da) : M Da := fun ρ S => (tstM f ρ S).bind fun b S1 => .ok (.bl (!b)) S1
def andM (f g : M Da) : M Da := fun ρ S => (tstM f ρ S).bind fun b S1 => if b then g ρ S1 else .ok (.bl false) S1
def orM (f g : M Da) : M Da := fun ρ S => (tstM f ρ S).bind fun b S1 => if b then .ok (.bl true) S1 else g ρ S1
def ifM (c : M Bool) (f g : M Da) : M Da := fun ρ S => (c ρ S).bind fun b S1 => if b then f ρ S1 else g ρ S1
def big : Nat := 16777216
theorem big_eq : big = sizeLine := by rw [sizeLine_eq]; rfl
def dispM (k : List Da → Da) (f : M (List Da)) : M Da := fun ρ S => (f ρ S).bind fun l S1 => if l.length ≤ big then .ok (k l) S1 else .bad
abbrev tupM := dispM Da.tup
abbrev lstM := dispM Da.lst

section
variable {X : Cx} {G : Gc} {Wx : WX} {a b c e : Expr} {es rest : List Expr} {f g h : M Da} {pos : Pos}

theorem pd_var (i : Nat) {x : Str} (hN : X.N[i]? = some x := by rfl) (hv : Vis X.env.scope x := by first | exact Or.inl rfl | exact Or.inr (Or.inl rfl) | exact Or.inr (Or.inr rfl)) (hd : (x == ("__debug__" : Str)) = false := by decide)
    (hcd : (x == ("__classdict__" : Str)) = false := by decide) : PE X (.Name x pos) (tM G Wx (varM i)) :=
  (pe_var hN hv hd hcd).imp fun σ H Q ⟨W, S, ρ, s, r, q⟩ => by
    unfold varM at q
    cases z : ρ[i]? with
    | none => rw [z] at q; exact q.elim
    | some o =>
      rw [z] at q
      cases o with
      | none => exact q.elim
      | some d =>
        obtain ⟨v, hv, rv⟩ := r.at' i d z
        exact ⟨v, hv, q.here s rv⟩
theorem tR_c {α β : Type} {R : Wd → α → β → Prop} {d : α} {v : β} {σ : L2.St} {H : Hp} {Q : β → Hp → Prop} (h : tR R G Wx (fun _ S => .ok d S) σ H Q) (r : ∀ W, R W d v) : Q v H := by
  obtain ⟨W, S, ρ, s, _, q⟩ := h
  exact q.here s (r W)
theorem pd_int {i : Int} {j} : PE X (.Constant (.int i) j pos) (tM G Wx (cM (.int i))) := pe_int.imp fun σ H Q h => tR_c (R := RV G) h fun W => by simp [Rep]
theorem pd_bl {i : Bool} {j} : PE X (.Constant (.bool i) j pos) (tM G Wx (cM (.bl i))) := pe_bl.imp fun σ H Q h => tR_c (R := RV G) h fun W => by simp [Rep]
theorem pd_non {j} : PE X (.Constant .none j pos) (tM G Wx (cM .non)) := pe_non.imp fun σ H Q h => tR_c (R := RV G) h fun W => by simp [Rep]
theorem pd_str {i : Str} {j} : PE X (.Constant (.str i) j pos) (tM G Wx (cM (.str i))) := pe_str.imp fun σ H Q h => tR_c (R := RV G) h fun W => by simp [Rep]

/-! arguments, displays -/
theorem pda_nil : PA X [] (tMs G Wx nilM) := pa_nil.imp fun σ H Q h => tR_c (R := RVs G) h fun W => .nil
theorem pda_cons {t : M (List Da)} (he : PE X e (tM G Wx f)) (hr : PA X es (tMs G Wx t)) (hs : starEach (e :: es) X.env = (false, eval e X.env) :: starEach es X.env := by rfl) : PA X (e :: es) (tMs G Wx (consM f t)) :=
  (pa_cons he hr hs).imp fun σ H Q ⟨W, S, ρ, s, r, q⟩ => ⟨W, S, ρ, s, r, q.bind fun a S1 v W1 H1 x1 s1 q1 k1 => ⟨W1, S1, ρ, s1, r.mono x1.le, k1.bind fun l S2 vs W2 H2 x2 s2 q2 k2 => k2.here s2 (.cons (q1.mono x2.le) q2)⟩⟩
theorem RV.tup {W : Wd} {p : Addr} {l : List Da} {vs : List V} (h : W.F p = some (.tup vs)) (r : Reps G W l vs) : Rep G W (.tup l) (.ref p) := by
  rw [Rep]; exact ⟨p, vs, rfl, .of h, r⟩
theorem RV.lst {W : Wd} {p : Addr} {l : List Da} {vs : List V} (h : W.F p = some (.lst vs)) (r : Reps G W l vs) : Rep G W (.lst l) (.ref p) := by
  rw [Rep]; exact ⟨p, vs, rfl, h, r⟩
theorem frz_same {W : Wd} {p : Addr} {o : HO} : (W.frz p o).F p = some o := upd_same
/-- a new tuple comes -/
theorem Aft.newT {σ : L2.St} {W : Wd} {H : Hp} {S : Store} {l : List Da} {vs : List V} {Q : VK} (h : Aft (RV G) G Wx σ W H (.ok (.tup l) S) Q) (s : SR G W H S) (r : Reps G W l vs) {p : Addr} (hp : H p = none) : Q (.ref p) (upd H p (.tup vs)) := by
  obtain ⟨x, s'⟩ := Ext.frz s (o := .tup vs) hp
  exact h _ _ _ x s' (RV.tup frz_same (r.mono x.le))
theorem Aft.newL {σ : L2.St} {W : Wd} {H : Hp} {S : Store} {l : List Da} {vs : List V} {Q : VK} (h : Aft (RV G) G Wx σ W H (.ok (.lst l) S) Q) (s : SR G W H S) (r : Reps G W l vs) {p : Addr} (hp : H p = none) : Q (.ref p) (upd H p (.lst vs)) := by
  obtain ⟨x, s'⟩ := Ext.frz s (o := .lst vs) hp
  exact h _ _ _ x s' (RV.lst frz_same (r.mono x.le))
theorem pd_tup {t : M (List Da)} {x1} (ha : PA X es (tMs G Wx t)) : PE X (.Tuple es x1 pos) (tM G Wx (tupM t)) :=
  (pe_tup ha).imp fun σ H Q ⟨W, S, ρ, s, r, q⟩ => ⟨W, S, ρ, s, r, q.bind fun l S1 vs W1 H1 x1 s1 q1 k1 => by
    by_cases hl : l.length ≤ big
    · rw [if_pos hl] at k1
      exact ⟨by rw [← q1.length, ← big_eq]; exact hl, fun p hp => k1.newT s1 q1 hp⟩
    · rw [if_neg hl] at k1; exact k1.elim⟩
theorem pd_lst {t : M (List Da)} (ha : PA X es (tMs G Wx t)) : PE X (.List es pos) (tM G Wx (lstM t)) :=
  (pe_lst ha).imp fun σ H Q ⟨W, S, ρ, s, r, q⟩ => ⟨W, S, ρ, s, r, q.bind fun l S1 vs W1 H1 x1 s1 q1 k1 => by
    by_cases hl : l.length ≤ big
    · rw [if_pos hl] at k1
      exact ⟨by rw [← q1.length, ← big_eq]; exact hl, fun p hp => k1.newL s1 q1 hp⟩
    · rw [if_neg hl] at k1; exact k1.elim⟩

/-! operators by values -/
/-- what an operator leaves: no exception, the store as it was, at most new things that stand still -/
def AftO (G : Gc) (W : Wd) (H : Hp) (S : Store) (r : Option Da) (Q : VK) : Prop := match r with
  | some d => ∀ v W' H', Ext W H W' H' → SR G W' H' S → Rep G W' d v → Q v H'
  | none => False
def rd2 (G : Gc) (op : Da → Da → Store → Option Da) : R2 := fun x y H Q => ∃ W S a b, SR G W H S ∧ Rep G W a x ∧ Rep G W b y ∧ AftO G W H S (op a b S) Q
def rd1 (G : Gc) (op : Da → Store → Option Da) : V → Hp → VK → Prop := fun x H Q => ∃ W S a, SR G W H S ∧ Rep G W a x ∧ AftO G W H S (op a S) Q
def rdn (G : Gc) (op : List Da → Store → Option Da) : List V → Hp → VK → Prop := fun xs H Q => ∃ W S l, SR G W H S ∧ Reps G W l xs ∧ AftO G W H S (op l S) Q
theorem Aft.toO {σ : L2.St} {W : Wd} {H : Hp} {S : Store} {o : Option Da} {Q : VK} (h : Aft (RV G) G Wx σ W H (ofO o S) Q) : AftO G W H S o Q := by
  cases o with
  | none => exact h
  | some d => exact h
theorem AftO.here {W : Wd} {H : Hp} {S : Store} {d : Da} {v : V} {Q : VK} (h : AftO G W H S (some d) Q) (s : SR G W H S) (r : Rep G W d v) : Q v H := h v W H (.refl W H) s r
theorem AftO.newT {W : Wd} {H : Hp} {S : Store} {l : List Da} {vs : List V} {Q : VK} (h : AftO G W H S (some (.tup l)) Q) (s : SR G W H S) (r : Reps G W l vs) {p : Addr} (hp : H p = none) : Q (.ref p) (upd H p (.tup vs)) := by
  obtain ⟨x, s'⟩ := Ext.frz s (o := .tup vs) hp
  exact h _ _ _ x s' (RV.tup frz_same (r.mono x.le))
theorem AftO.newL {W : Wd} {H : Hp} {S : Store} {l : List Da} {vs : List V} {Q : VK} (h : AftO G W H S (some (.lst l)) Q) (s : SR G W H S) (r : Reps G W l vs) {p : Addr} (hp : H p = none) : Q (.ref p) (upd H p (.lst vs)) := by
  obtain ⟨x, s'⟩ := Ext.frz s (o := .lst vs) hp
  exact h _ _ _ x s' (RV.lst frz_same (r.mono x.le))
theorem tOp_imp {op : Da → Da → Store → Option Da} {σ : L2.St} {H : Hp} {Q : VK} (k : tM G Wx (opM op f g) σ H Q) : tOp (rd2 G op) (tM G Wx f) (tM G Wx g) σ H Q := by
  obtain ⟨W, S, ρ, s, r, q⟩ := k
  exact ⟨W, S, ρ, s, r, q.bind fun a S1 x W1 H1 x1 s1 q1 k1 => ⟨W1, S1, ρ, s1, r.mono x1.le, k1.bind fun b S2 y W2 H2 x2 s2 q2 k2 => ⟨W2, S2, a, b, s2, q1.mono x2.le, q2, k2.toO⟩⟩⟩
theorem pd_op {o : Operator} {op : Da → Da → Store → Option Da} (ho : OpR X (binaryOp o) (rd2 G op)) (ha : PE X a (tM G Wx f)) (hb : PE X b (tM G Wx g)) : PE X (.BinOp a o b pos) (tM G Wx (opM op f g)) :=
  (pe_op ho ha hb).imp fun _ _ _ k => tOp_imp k
theorem pd_cmp {o : CmpOp} {op : Da → Da → Store → Option Da} (ho : OpR X (compareOp o) (rd2 G op)) (ha : PE X a (tM G Wx f)) (hb : PE X b (tM G Wx g)) (hm : behindInMarks o b = false := by first | exact nobehind _ (by decide) (by decide) | rfl) : PE X (.Compare a [o] [b] pos) (tM G Wx (opM op f g)) :=
  (pe_cmpR ho ha hb hm).imp fun _ _ _ k => tOp_imp k
theorem pd_ix {op : Da → Da → Store → Option Da} (ho : IxR X (rd2 G op)) (ha : PE X a (tM G Wx f)) (hb : PE X b (tM G Wx g)) (hs : PlainIx b := by exact fun _ _ => rfl) : PE X (.Subscript a b pos) (tM G Wx (opM op f g)) :=
  (pe_ix ho ha hb hs).imp fun _ _ _ k => tOp_imp k
theorem pd_un {o : UnaryOp} {op : Da → Store → Option Da} (ho : UnR X (unaryOp o) (rd1 G op)) (ha : PE X a (tM G Wx f)) : PE X (.UnaryOp o a pos) (tM G Wx (unM op f)) :=
  (pe_un ho ha).imp fun _ _ _ ⟨W, S, ρ, s, r, q⟩ => ⟨W, S, ρ, s, r, q.bind fun a S1 x W1 H1 x1 s1 q1 k1 => ⟨W1, S1, a, s1, q1, k1.toO⟩⟩
/-- a built-in's call -/
def callM (op : List Da → Store → Option Da) (t : M (List Da)) : M Da := fun ρ S => (t ρ S).bind fun l S1 => ofO (op l S1) S1
theorem tCB_imp {op : List Da → Store → Option Da} {t : M (List Da)} {σ : L2.St} {H : Hp} {Q : VK} (k : tM G Wx (callM op t) σ H Q) : tCB (rdn G op) (tMs G Wx t) σ H Q := by
  obtain ⟨W, S, ρ, s, r, q⟩ := k
  exact ⟨W, S, ρ, s, r, q.bind fun l S1 vs W1 H1 x1 s1 q1 k1 => ⟨W1, S1, l, s1, q1, k1.toO⟩⟩
theorem pd_callB {x : Str} {id : String} {p : Pos} {t : M (List Da)} {op : List Da → Store → Option Da} (hc : CallR X (.builtin id) (rdn G op)) (hm : X.mg x = none) (ha : PA X (e :: es) (tMs G Wx t)) (hg : Gl X x := by rfl) (hv : bootBuiltins x = some (.builtin id) := by decide +kernel) (hn : x ≠ "__name__" := by decide) (hdb : (x == ("__debug__" : Str)) = false := by decide)
    (he : starEach (e :: es) X.env = (false, eval e X.env) :: starEach es X.env := by rfl) (hpl : (backTo pos (starEach es X.env)).any (·.1) = false := by rfl) : PE X (.Call (.Name x p) (e :: es) [] pos) (tM G Wx (callM op t)) :=
  (pe_callB hc hg hm hv ha hn hdb he hpl).imp fun _ _ _ k => tCB_imp k
theorem pd_callT {x : Str} {T : String} {p : Pos} {t : M (List Da)} {op : List Da → Store → Option Da} (hc : CallR X (.type T) (rdn G op)) (hm : X.mg x = none) (ha : PA X (e :: es) (tMs G Wx t)) (hg : Gl X x := by rfl) (hv : bootBuiltins x = some (.type T) := by decide +kernel) (hn : x ≠ "__name__" := by decide) (hdb : (x == ("__debug__" : Str)) = false := by decide)
    (he : starEach (e :: es) X.env = (false, eval e X.env) :: starEach es X.env := by rfl) (hpl : (backTo pos (starEach es X.env)).any (·.1) = false := by rfl) : PE X (.Call (.Name x p) (e :: es) [] pos) (tM G Wx (callM op t)) :=
  (pe_callTy hc hg hm hv ha hn hdb he hpl).imp fun _ _ _ k => tCB_imp k

/-! tests -/
theorem Rep.bl_inv {W : Wd} {v : V} {b : Bool} (h : Rep G W (.bl b) v) : v = .bl b := by simpa [Rep] using h
theorem tst_imp {σ : L2.St} {H : Hp} {Q : Bool → Hp → Prop} (k : tMb G Wx (tstM f) σ H Q) : tM G Wx f σ H fun v H1 => ∃ d, v = .bl d ∧ Q d H1 := by
  obtain ⟨W, S, ρ, s, r, q⟩ := k
  refine ⟨W, S, ρ, s, r, q.bind fun a S1 v W1 H1 x1 s1 q1 k1 => ?_⟩
  cases a with
  | bl b => exact ⟨b, q1.bl_inv, k1.here s1 rfl⟩
  | _ => exact k1.elim
theorem ptd_val {c : Expr} (hc : PE X c (tM G Wx f)) (he : ∀ whole, isTrue c X.env whole = (do let v ← whole; standAt c.pos; holding [v] (truthy v)) := by intro _; rfl) : PT X c (tMb G Wx (tstM f)) :=
  (pt_val hc he).imp fun _ _ _ k => tst_imp k
theorem ptd_cmp {o : CmpOp} {op : Da → Da → Store → Option Da} (ho : OpR X (compareOp o) (rd2 G op)) (ha : PE X a (tM G Wx f)) (hb : PE X b (tM G Wx g)) (hm : behindInMarks o b = false := by first | exact nobehind _ (by decide) (by decide) | rfl) : PT X (.Compare a [o] [b] pos) (tMb G Wx (tstM (opM op f g))) :=
  (pt_cmpR ho ha hb hm).imp fun _ _ _ k => tOp_imp (tst_imp k)
end
end NL

set_option Elab.async false
set_option linter.all false
set_option maxRecDepth 100000
set_option maxHeartbeats 2000000
namespace NL
open PySem PySem.Spec PyProof.Rows L2

section
variable {X : Cx} {G : Gc} {Wx : WX} {a b c e : Expr} {es rest : List Expr} {f g h : M Da} {ct dt : M Bool} {pos : Pos}
/-! ### more tests -/
theorem ptd_not (ha : PT X a (tMb G Wx ct)) : PT X (.UnaryOp .Not a pos) (tMb G Wx (notT ct)) :=
  (pt_not ha).imp fun σ H Q ⟨W, S, ρ, s, r, q⟩ => ⟨W, S, ρ, s, r, q.bind fun x S1 y W1 H1 x1 s1 q1 k1 => by subst q1; exact k1.here s1 rfl⟩
theorem pwd_and1 (ha : PT X a (tMb G Wx ct)) : PW X (.BoolOp .And [a] pos) (tMb G Wx ct) := pw_and1 ha
theorem pwd_or1 (ha : PT X a (tMb G Wx ct)) : PW X (.BoolOp .Or [a] pos) (tMb G Wx ct) := pw_or1 ha
theorem pwd_and (ha : PT X a (tMb G Wx ct)) (hb : PW X (.BoolOp .And (b :: rest) pos) (tMb G Wx dt)) : PW X (.BoolOp .And (a :: b :: rest) pos) (tMb G Wx (andT ct dt)) :=
  (pw_and ha hb).imp fun σ H Q ⟨W, S, ρ, s, r, q⟩ => ⟨W, S, ρ, s, r, q.bind fun x S1 y W1 H1 x1 s1 q1 k1 => by
    subst q1
    cases x with
    | true => exact ⟨W1, S1, ρ, s1, r.mono x1.le, k1⟩
    | false => exact k1.here s1 rfl⟩
theorem pwd_or (ha : PT X a (tMb G Wx ct)) (hb : PW X (.BoolOp .Or (b :: rest) pos) (tMb G Wx dt)) : PW X (.BoolOp .Or (a :: b :: rest) pos) (tMb G Wx (orT ct dt)) :=
  (pw_or ha hb).imp fun σ H Q ⟨W, S, ρ, s, r, q⟩ => ⟨W, S, ρ, s, r, q.bind fun x S1 y W1 H1 x1 s1 q1 k1 => by
    subst q1
    cases x with
    | true => exact k1.here s1 rfl
    | false => exact ⟨W1, S1, ρ, s1, r.mono x1.le, k1⟩⟩
theorem ptd_of (h : PW X a (tMb G Wx ct)) : PT X a (tMb G Wx ct) := h.pt
/-! .. as values -/
theorem Res.bind_assoc {α β γ : Type} (r : Res α) (k : α → Store → Res β) (l : β → Store → Res γ) : (r.bind k).bind l = r.bind fun a S => (k a S).bind l := by cases r <;> rfl
theorem bind_tst {α : Type} {k : Bool → Store → Res α} {ρ : En} {S : Store} : (tstM f ρ S).bind k = (f ρ S).bind fun a S1 => match a with
    | .bl b => k b S1
    | _ => .bad := by
  unfold tstM
  rw [Res.bind_assoc]
  congr 1
  funext a S1
  cases a <;> rfl
theorem pd_not (ha : PE X a (tM G Wx f)) : PE X (.UnaryOp .Not a pos) (tM G Wx (notM f)) :=
  (pe_not ha).imp fun σ H Q ⟨W, S, ρ, s, r, q⟩ => ⟨W, S, ρ, s, r, by
    unfold notM at q
    rw [bind_tst] at q
    refine q.bind fun x S1 y W1 H1 x1 s1 q1 k1 => ?_
    cases x with
    | bl b => exact ⟨b, q1.bl_inv, k1.here s1 (by simp [Rep])⟩
    | _ => exact k1.elim⟩
theorem pd_one {op} (ha : PE X a (tM G Wx f)) : PE X (.BoolOp op [a] pos) (tM G Wx f) := pe_one ha
theorem pd_and (ha : PE X a (tM G Wx f)) (hb : PE X (.BoolOp .And (b :: rest) pos) (tM G Wx g)) : PE X (.BoolOp .And (a :: b :: rest) pos) (tM G Wx (andM f g)) :=
  (pe_and ha hb).imp fun σ H Q ⟨W, S, ρ, s, r, q⟩ => ⟨W, S, ρ, s, r, by
    unfold andM at q
    rw [bind_tst] at q
    refine q.bind fun x S1 y W1 H1 x1 s1 q1 k1 => ?_
    cases x with
    | bl b =>
      refine ⟨b, q1.bl_inv, ?_⟩
      cases b with
      | true => exact ⟨W1, S1, ρ, s1, r.mono x1.le, k1⟩
      | false => exact k1.here s1 (by simp [Rep])
    | _ => exact k1.elim⟩
theorem pd_or (ha : PE X a (tM G Wx f)) (hb : PE X (.BoolOp .Or (b :: rest) pos) (tM G Wx g)) : PE X (.BoolOp .Or (a :: b :: rest) pos) (tM G Wx (orM f g)) :=
  (pe_or ha hb).imp fun σ H Q ⟨W, S, ρ, s, r, q⟩ => ⟨W, S, ρ, s, r, by
    unfold orM at q
    rw [bind_tst] at q
    refine q.bind fun x S1 y W1 H1 x1 s1 q1 k1 => ?_
    cases x with
    | bl b =>
      refine ⟨b, q1.bl_inv, ?_⟩
      cases b with
      | true => exact k1.here s1 (by simp [Rep])
      | false => exact ⟨W1, S1, ρ, s1, r.mono x1.le, k1⟩
    | _ => exact k1.elim⟩
theorem pd_if {c : Expr} (hc : PT X c (tMb G Wx ct)) (ha : PE X a (tM G Wx f)) (hb : PE X b (tM G Wx g)) : PE X (.IfExp c a b pos) (tM G Wx (ifM ct f g)) :=
  (pe_ifExp hc ha hb).imp fun σ H Q ⟨W, S, ρ, s, r, q⟩ => ⟨W, S, ρ, s, r, q.bind fun x S1 y W1 H1 x1 s1 q1 k1 => by
    subst q1
    cases x with
    | true => exact ⟨W1, S1, ρ, s1, r.mono x1.le, k1⟩
    | false => exact ⟨W1, S1, ρ, s1, r.mono x1.le, k1⟩⟩
/-! a < b < c -/
def chainM (op op' : Da → Da → Store → Option Da) (f g h : M Da) : M Da := fun ρ S => (f ρ S).bind fun a S1 => (g ρ S1).bind fun b S2 => (ofO (op a b S2) S2).bind fun d S3 => match d with
  | .bl true => (h ρ S3).bind fun c S4 => ofO (op' b c S4) S4
  | .bl false => .ok (.bl false) S3
  | _ => .bad
theorem Aft.bindO {γ δ : Type} {R' : Wd → γ → δ → Prop} {σ : L2.St} {W : Wd} {H : Hp} {S : Store} {o : Option Da} {k : Da → Store → Res γ} {Q : δ → Hp → Prop} {Q' : VK} (q : Aft R' G Wx σ W H ((ofO o S).bind k) Q)
    (step : ∀ a v W' H', Ext W H W' H' → SR G W' H' S → Rep G W' a v → Aft R' G Wx σ W' H' (k a S) Q → Q' v H') : AftO G W H S o Q' := by
  cases o with
  | none => exact q
  | some d => exact fun v W' H' x s r => step d v W' H' x s r (q.later x)
theorem tChain_imp {op op' : Da → Da → Store → Option Da} {σ : L2.St} {H : Hp} {Q : VK} (k : tM G Wx (chainM op op' f g h) σ H Q) : tChain (rd2 G op) (rd2 G op') (tM G Wx f) (tM G Wx g) (tM G Wx h) σ H Q := by
  obtain ⟨W, S, ρ, s, r, q⟩ := k
  refine ⟨W, S, ρ, s, r, q.bind fun a S1 x W1 H1 x1 s1 q1 k1 => ⟨W1, S1, ρ, s1, r.mono x1.le, k1.bind fun b S2 y W2 H2 x2 s2 q2 k2 => ⟨W2, S2, a, b, s2, q1.mono x2.le, q2, ?_⟩⟩⟩
  refine k2.bindO fun d v W3 H3 x3 s3 q3 k3 => ?_
  cases d with
  | bl d =>
    refine ⟨d, q3.bl_inv, ?_⟩
    cases d with
    | true => exact ⟨W3, S2, ρ, s3, r.mono (x1.le.trans (x2.le.trans x3.le)), k3.bind fun c S4 z W4 H4 x4 s4 q4 k4 => ⟨W4, S4, b, c, s4, q2.mono (x3.le.trans x4.le), q4, k4.toO⟩⟩
    | false => exact k3.here s3 (by simp [Rep])
  | _ => exact k3.elim
theorem pd_chain {o o' : CmpOp} {op op' : Da → Da → Store → Option Da} (ho : OpR X (compareOp o) (rd2 G op)) (ho' : OpR X (compareOp o') (rd2 G op')) (ha : PE X a (tM G Wx f)) (hb : PE X b (tM G Wx g)) (hc : PE X c (tM G Wx h))
    (hm : lastMarks [o, o'] [b, c] = false := by with_unfolding_all rfl) : PE X (.Compare a [o, o'] [b, c] pos) (tM G Wx (chainM op op' f g h)) := (pe_chain ho ho' ha hb hc hm).imp fun _ _ _ k => tChain_imp k
theorem ptd_chain {o o' : CmpOp} {op op' : Da → Da → Store → Option Da} (ho : OpR X (compareOp o) (rd2 G op)) (ho' : OpR X (compareOp o') (rd2 G op')) (ha : PE X a (tM G Wx f)) (hb : PE X b (tM G Wx g)) (hc : PE X c (tM G Wx h))
    (hm : lastMarks [o, o'] [b, c] = false := by with_unfolding_all rfl) : PT X (.Compare a [o, o'] [b, c] pos) (tMb G Wx (tstM (chainM op op' f g h))) := (pt_chain ho ho' ha hb hc hm).imp fun _ _ _ k => tChain_imp (tst_imp k)
end

/-! ### statements -/
inductive RS where
  | nx (ρ : En) (S : Store) | rt (d : Da) (S : Store) | bk (ρ : En) (S : Store) | ct (ρ : En) (S : Store) | exc (c : Str) (d : Da) (ρ : En) (S : Store) | bad
abbrev MS := En → Store → RS
def AftS (G : Gc) (Wx : WX) (W : Wd) (H : Hp) (r : RS) (D : Ends) : Prop := match r with
  | .nx ρ S => ∀ σ W' H', Ext W H W' H' → SR G W' H' S → RepE G W' σ ρ → D.nx σ H'
  | .rt d S => ∀ v W' H', Ext W H W' H' → SR G W' H' S → Rep G W' d v → D.rt v H'
  | .bk ρ S => ∀ σ W' H', Ext W H W' H' → SR G W' H' S → RepE G W' σ ρ → D.bk σ H'
  | .ct ρ S => ∀ σ W' H', Ext W H W' H' → SR G W' H' S → RepE G W' σ ρ → D.ct σ H'
  | .exc c d ρ S => ∀ cls dx σ W' H', Ext W H W' H' → SR G W' H' S → RepE G W' σ ρ → XRep G W' c d cls dx → Wx cls dx σ H'
  | .bad => False
def tS (G : Gc) (Wx : WX) (g : MS) : TS := fun D σ H => ∃ W S ρ, SR G W H S ∧ RepE G W σ ρ ∧ AftS G Wx W H (g ρ S) D
theorem AftS.later {G : Gc} {Wx : WX} {W W' : Wd} {H H' : Hp} {r : RS} {D : Ends} (h : AftS G Wx W H r D) (x : Ext W H W' H') : AftS G Wx W' H' r D := by
  cases r with
  | nx ρ S => exact fun σ W2 H2 x2 => h σ W2 H2 (x.trans x2)
  | rt d S => exact fun σ W2 H2 x2 => h σ W2 H2 (x.trans x2)
  | bk ρ S => exact fun σ W2 H2 x2 => h σ W2 H2 (x.trans x2)
  | ct ρ S => exact fun σ W2 H2 x2 => h σ W2 H2 (x.trans x2)
  | exc c d ρ S => exact fun cls dx σ W2 H2 x2 => h cls dx σ W2 H2 (x.trans x2)
  | bad => exact h
/-- an expression, then a statement's end -/
def Res.thenS {α : Type} (ρ : En) (r : Res α) (k : α → Store → RS) : RS := match r with
  | .ok a S => k a S
  | .exc c d S => .exc c d ρ S
  | .bad => .bad
theorem AftS.bind {α β : Type} {R : Wd → α → β → Prop} {G : Gc} {Wx : WX} {σ : L2.St} {ρ : En} {W : Wd} {H : Hp} {r : Res α} {k : α → Store → RS} {D : Ends} {Q' : β → Hp → Prop} (h : AftS G Wx W H (r.thenS ρ k) D) (re : RepE G W σ ρ)
    (step : ∀ a S b W' H', Ext W H W' H' → SR G W' H' S → R W' a b → AftS G Wx W' H' (k a S) D → Q' b H') : Aft R G Wx σ W H r Q' := by
  cases r with
  | ok a S => exact fun b W' H' x s q => step a S b W' H' x s q (h.later x)
  | exc c d S => exact fun cls dx W' H' x s q => h cls dx σ W' H' x s (re.mono x.le) q
  | bad => exact h
def RS.seq (r : RS) (k : En → Store → RS) : RS := match r with
  | .nx ρ S => k ρ S
  | .rt d S => .rt d S
  | .bk ρ S => .bk ρ S
  | .ct ρ S => .ct ρ S
  | .exc c d ρ S => .exc c d ρ S
  | .bad => .bad
theorem AftS.seq {G : Gc} {Wx : WX} {W : Wd} {H : Hp} {r : RS} {k : MS} {D : Ends} (h : AftS G Wx W H (r.seq k) D) : AftS G Wx W H r { D with nx := tS G Wx k D } := by
  cases r with
  | nx ρ S => exact fun σ W' H' x s e => ⟨W', S, ρ, s, e, h.later x⟩
  | rt d S => exact h
  | bk ρ S => exact h
  | ct ρ S => exact h
  | exc c d ρ S => exact h
  | bad => exact h
theorem AftS.nx {G : Gc} {Wx : WX} {σ : L2.St} {W : Wd} {H : Hp} {ρ : En} {S : Store} {D : Ends} (h : AftS G Wx W H (.nx ρ S) D) (s : SR G W H S) (e : RepE G W σ ρ) : D.nx σ H := h σ W H (.refl W H) s e
theorem AftS.rt {G : Gc} {Wx : WX} {W : Wd} {H : Hp} {d : Da} {v : V} {S : Store} {D : Ends} (h : AftS G Wx W H (.rt d S) D) (s : SR G W H S) (r : Rep G W d v) : D.rt v H := h v W H (.refl W H) s r

def skipS : MS := fun ρ S => .nx ρ S
def seqS (f g : MS) : MS := fun ρ S => (f ρ S).seq g
def setS (i : Nat) (f : M Da) : MS := fun ρ S => (f ρ S).thenS ρ fun d S1 => .nx (ρ.set i (some d)) S1
def retS (f : M Da) : MS := fun ρ S => (f ρ S).thenS ρ fun d S1 => .rt d S1
def retN : MS := fun _ S => .rt .non S
def dropS (f : M Da) : MS := fun ρ S => (f ρ S).thenS ρ fun _ S1 => .nx ρ S1
def ifS (c : M Bool) (f g : MS) : MS := fun ρ S => (c ρ S).thenS ρ fun b S1 => if b then f ρ S1 else g ρ S1
def neverS : MS := fun _ _ => .bad
def breakS : MS := fun ρ S => .bk ρ S
def contS : MS := fun ρ S => .ct ρ S
section
variable {X : Cx} {G : Gc} {Wx : WX} {st : Stmt} {rest : List Stmt} {e : Expr} {f g : MS} {m : M Da} {ct : M Bool} {pos : Pos}
theorem psd_nil : PSs X [] (tS G Wx skipS) := pss_nil.imp fun D σ H ⟨W, S, ρ, s, r, q⟩ => q.nx s r
theorem psd_cons (h1 : PS X st (tS G Wx f)) (h2 : PSs X rest (tS G Wx g)) : PSs X (st :: rest) (tS G Wx (seqS f g)) :=
  (pss_cons h1 h2).imp fun D σ H ⟨W, S, ρ, s, r, q⟩ => ⟨W, S, ρ, s, r, q.seq⟩
theorem psd_one (h1 : PS X st (tS G Wx f)) : PSs X [st] (tS G Wx f) := pss_one h1
theorem psd_pass : PS X (.Pass pos) (tS G Wx skipS) := ps_pass.imp fun D σ H ⟨W, S, ρ, s, r, q⟩ => q.nx s r
theorem psd_break : PS X (.Break pos) (tS G Wx breakS) := ps_break.imp fun D σ H ⟨W, S, ρ, s, r, q⟩ => q σ W H (.refl W H) s r
theorem psd_continue : PS X (.Continue pos) (tS G Wx contS) := ps_continue.imp fun D σ H ⟨W, S, ρ, s, r, q⟩ => q σ W H (.refl W H) s r
theorem psd_never : PS X st (tS G Wx neverS) := ps_never.imp fun D σ H ⟨W, S, ρ, s, r, q⟩ => q
theorem pssd_never {sts : List Stmt} : PSs X sts (tS G Wx neverS) := pss_never.imp fun D σ H ⟨W, S, ρ, s, r, q⟩ => q
theorem psd_ret (he : PE X e (tM G Wx m)) : PS X (.Return (some e) pos) (tS G Wx (retS m)) :=
  (ps_ret he).imp fun D σ H ⟨W, S, ρ, s, r, q⟩ => ⟨W, S, ρ, s, r, q.bind r fun d S1 v W1 H1 x1 s1 q1 k1 => k1.rt s1 q1⟩
theorem psd_retN : PS X (.Return none pos) (tS G Wx retN) := ps_retN.imp fun D σ H ⟨W, S, ρ, s, r, q⟩ => q.rt s (by simp [Rep])
theorem psd_expr (he : PE X e (tM G Wx m)) (hs : swapsWith e none pos.line X.env = pure false := by rfl) : PS X (.Expr e pos) (tS G Wx (dropS m)) :=
  (ps_expr he hs).imp fun D σ H ⟨W, S, ρ, s, r, q⟩ => ⟨W, S, ρ, s, r, q.bind r fun d S1 v W1 H1 x1 s1 q1 k1 => k1.nx s1 (r.mono x1.le)⟩
theorem psd_if {c : Expr} {a b : List Stmt} (hc : PT X c (tMb G Wx ct)) (ha : PSs X a (tS G Wx f)) (hb : PSs X b (tS G Wx g)) : PS X (.If c a b pos) (tS G Wx (ifS ct f g)) :=
  (ps_if hc ha hb).imp fun D σ H ⟨W, S, ρ, s, r, q⟩ => ⟨W, S, ρ, s, r, q.bind r fun d S1 v W1 H1 x1 s1 q1 k1 => by
    subst q1
    cases d with
    | true => exact ⟨W1, S1, ρ, s1, r.mono x1.le, k1⟩
    | false => exact ⟨W1, S1, ρ, s1, r.mono x1.le, k1⟩⟩
theorem psd_set {i : Nat} {x : Str} {pos' : Pos} (hN : X.N.Nodup) (he : PE X e (tM G Wx m)) (hi : X.N[i]? = some x := by rfl) (hx : Loc X.env.scope x := by first | exact Or.inl rfl | exact Or.inr rfl) (hs : swapsWith e (some (.Name x pos')) pos.line X.env = pure false := by rfl)
    (hf : X.fn x = true ∨ X.env.scope.names.lookup x = some .local := by first | exact .inl rfl | exact .inr rfl | assumption) : PS X (.Assign [.Name x pos'] e pos) (tS G Wx (setS i m)) :=
  (ps_set hN hi hx he hs hf).imp fun D σ H ⟨W, S, ρ, s, r, q⟩ => ⟨W, S, ρ, s, r, q.bind r fun d S1 v W1 H1 x1 s1 q1 k1 => k1.nx s1 ((r.mono x1.le).set q1)⟩
end

/-! ### targets -/
inductive Tg where
  | one (i : Nat) | many (is : List Nat)
def setAll : En → List (Nat × Da) → En
  | ρ, [] => ρ
  | ρ, (i, d) :: r => setAll (ρ.set i (some d)) r
def bindT : Tg → Da → En → Option En
  | .one i, d, ρ => some (ρ.set i (some d))
  | .many is, .tup l, ρ => if l.length = is.length then some (setAll ρ (is.zip l)) else none
  | .many _, _, _ => none
def Tg.slots : Tg → List Nat
  | .one i => [i]
  | .many is => is
/-- as σ but at the slots is -/
def But (is : List Nat) (σ σ' : L2.St) : Prop := σ'.length = σ.length ∧ ∀ k, k ∉ is → σ'[k]? = σ[k]?
def gT (G : Gc) (t : Tg) : TG := fun v σ H Q => ∃ W S ρ d ρ', SR G W H S ∧ RepE G W σ ρ ∧ Rep G W d v ∧ bindT t d ρ = some ρ' ∧ ∀ σ', RepE G W σ' ρ' → But t.slots σ σ' → Q σ' H
def gTs (G : Gc) (is : List Nat) : TGs := fun vs σ H Q => ∃ W S ρ ds, SR G W H S ∧ RepE G W σ ρ ∧ Reps G W ds vs ∧ ds.length = is.length ∧ ∀ σ', RepE G W σ' (setAll ρ (is.zip ds)) → But is σ σ' → Q σ' H
theorem _root_.L2.PG.imp {X : Cx} {e : Expr} {t t' : TG} (h : PG X e t) (k : ∀ v σ H Q, t' v σ H Q → t v σ H Q) : PG X e t' := ⟨fun pins s σ H v u Q I r q => h.run pins s σ H v u Q I r (k v σ H Q q)⟩
theorem _root_.L2.PGs.imp {X : Cx} {e : List Expr} {t t' : TGs} (h : PGs X e t) (k : ∀ v σ H Q, t' v σ H Q → t v σ H Q) : PGs X e t' := ⟨fun pins s σ H v u Q I r q => h.run pins s σ H v u Q I r (k v σ H Q q)⟩
theorem But.set {i : Nat} {σ : L2.St} {v : Option V} : But [i] σ (σ.set i v) := ⟨List.length_set .., fun k hk => List.getElem?_set_ne fun e => hk (by simp [e])⟩
section
variable {X : Cx} {G : Gc} {e : Expr} {es : List Expr} {pos : Pos}
theorem pgd_name {i : Nat} {x : Str} (hN : X.N.Nodup) (hi : X.N[i]? = some x := by rfl) (hx : Loc X.env.scope x := by first | exact Or.inl rfl | exact Or.inr rfl) (hf : X.fn x = true ∨ X.env.scope.names.lookup x = some .local := by first | exact .inl rfl | exact .inr rfl | assumption) : PG X (.Name x pos) (gT G (.one i)) :=
  (pg_name hN hi hx hf).imp fun v σ H Q ⟨W, S, ρ, d, ρ', s, r, q, e, k⟩ => by
    cases e
    exact k _ (r.set q) But.set
theorem pgd_nil : PGs X [] (gTs G []) := pgs_nil.imp fun vs σ H Q ⟨W, S, ρ, ds, s, r, q, e, k⟩ => by
  have e0 : ds = [] := List.length_eq_zero_iff.mp e
  subst e0
  exact ⟨q.inv_nil, k σ r ⟨rfl, fun _ _ => rfl⟩⟩
theorem pgd_cons {i : Nat} {is : List Nat} (h1 : PG X e (gT G (.one i))) (h2 : PGs X es (gTs G is)) (hs : (assignEach (e :: es) X.env).map (·.2) = assign e X.env :: (assignEach es X.env).map (·.2) := by rfl) : PGs X (e :: es) (gTs G (i :: is)) :=
  (pgs_cons h1 h2 hs).imp fun vs σ H Q ⟨W, S, ρ, ds, s, r, q, e, k⟩ => by
    cases ds with
    | nil => simp at e
    | cons d ds =>
      obtain ⟨v, vr, rfl, q1, q2⟩ := q.inv_cons
      refine ⟨v, vr, rfl, W, S, ρ, d, _, s, r, q1, rfl, fun σ' r' b' => ⟨W, S, _, ds, s, r', q2, by simpa using e, fun σ2 r2 b2 => k σ2 r2 ⟨b2.1.trans b'.1, fun j hj => ?_⟩⟩⟩
      rw [b2.2 j fun m => hj (List.mem_cons_of_mem _ m), b'.2 j fun m => hj ?_]
      have m : j ∈ [i] := m
      rw [List.mem_singleton.mp m]; exact List.mem_cons_self
theorem Rep.tup_inv {W : Wd} {l : List Da} {v : V} (h : Rep G W (.tup l) v) : ∃ a vs, v = .ref a ∧ SqT G.K W.F a vs ∧ Reps G W l vs := by rw [Rep] at h; exact h
theorem Rep.lst_inv {W : Wd} {l : List Da} {v : V} (h : Rep G W (.lst l) v) : ∃ a vs, v = .ref a ∧ SqL G.K W.F a vs ∧ Reps G W l vs := by
  rw [Rep] at h
  obtain ⟨a, vs, h1, h2, h3⟩ := h
  exact ⟨a, vs, h1, .of h2, h3⟩
theorem Rep.lst_at {W : Wd} {l : List Da} {v : V} (h : Rep G W (.lst l) v) : ∃ a vs, v = .ref a ∧ W.F a = some (.lst vs) ∧ Reps G W l vs := by rw [Rep] at h; exact h
theorem Rep.src_inv {W : Wd} {l : List Da} {v : V} (h : Rep G W (.src l) v) : ∃ a vs, v = .ref a ∧ SqL G.K W.F a vs ∧ Reps G W l vs := by rw [Rep] at h; exact h
theorem SR.sqT {W : Wd} {H : Hp} {S : Store} {K : PySem.W.Frag} {a : Addr} {vs : List V} (s : SR G W H S) (h : SqT K W.F a vs) : SqT K H a vs := SqT.mono h s.sub
theorem SR.sqL {W : Wd} {H : Hp} {S : Store} {K : PySem.W.Frag} {a : Addr} {vs : List V} (s : SR G W H S) (h : SqL K W.F a vs) : SqL K H a vs := SqL.mono h s.sub
theorem pgd_tup {k n : Nat} {is : List Nat} (hK : G.K = X.K) (hc : X.calm = true) (h : PGs X es (gTs G is)) (hi : is.length = n := by rfl) (hn : (assignEach es X.env).length = n := by rfl) (hst : (assignEach es X.env).findIdx? (·.1) = none := by rfl) :
    PG X (.Tuple es k pos) (gT G (.many is)) :=
  (pg_tup hc h hn hst).imp fun v σ H Q ⟨W, S, ρ, d, ρ', s, r, q, e, kk⟩ => by
    cases d with
    | tup l =>
      have e : (if l.length = is.length then some (setAll ρ (is.zip l)) else none) = some ρ' := e
      by_cases hl : l.length = is.length
      · rw [if_pos hl] at e; cases e
        obtain ⟨a, vs, rfl, ht, rs⟩ := q.tup_inv
        exact ⟨a, vs, rfl, by rw [← hK]; exact s.sqT ht, by rw [← rs.length, hl, hi], W, S, ρ, l, s, r, rs, hl, kk⟩
      · rw [if_neg hl] at e; cases e
    | _ => cases e
end
end NL

set_option Elab.async false
set_option linter.all false
set_option maxRecDepth 100000
set_option maxHeartbeats 2000000
namespace NL
open PySem PySem.Spec PyProof.Rows L2

/-! ### what is walked: it gives the data ds, one by one, in any world behind W0 -/
structure ItD (G : Gc) (W0 : Wd) (J : It) (ds : List Da) : Prop where
  go : ∀ i W H S, i < ds.length → W0.le W → SR G W H S → J.go i H
  stop : ∀ W H S, W0.le W → SR G W H S → J.stop ds.length H
  yld : ∀ i W H S x H', i < ds.length → W0.le W → SR G W H S → J.yld i H x H' → ∃ d W', ds[i]? = some d ∧ Ext W H W' H' ∧ SR G W' H' S ∧ Rep G W' d x
def AftI (G : Gc) (Wx : WX) (σ : L2.St) (W : Wd) (H : Hp) (r : Res (List Da)) (R : It → Hp → Prop) : Prop := match r with
  | .ok ds S' => ∀ J W' H', Ext W H W' H' → SR G W' H' S' → ItD G W' J ds → R J H'
  | .exc c d S' => ∀ cls dx W' H', Ext W H W' H' → SR G W' H' S' → XRep G W' c d cls dx → Wx cls dx σ H'
  | .bad => False
theorem AftI.later {G : Gc} {Wx : WX} {σ : L2.St} {W W' : Wd} {H H' : Hp} {r : Res (List Da)} {R : It → Hp → Prop} (h : AftI G Wx σ W H r R) (x : Ext W H W' H') : AftI G Wx σ W' H' r R := by
  cases r with
  | ok a S => exact fun b W2 H2 x2 => h b W2 H2 (x.trans x2)
  | exc c d S => exact fun cls dx W2 H2 x2 => h cls dx W2 H2 (x.trans x2)
  | bad => exact h
theorem AftI.bind {α β : Type} {R' : Wd → α → β → Prop} {G : Gc} {Wx : WX} {σ : L2.St} {W : Wd} {H : Hp} {r : Res α} {k : α → Store → Res (List Da)} {R : It → Hp → Prop} {Q' : β → Hp → Prop} (h : AftI G Wx σ W H (r.bind k) R)
    (step : ∀ a S b W' H', Ext W H W' H' → SR G W' H' S → R' W' a b → AftI G Wx σ W' H' (k a S) R → Q' b H') : Aft R' G Wx σ W H r Q' := by
  cases r with
  | ok a S => exact fun b W' H' x s q => step a S b W' H' x s q (h.later x)
  | exc c d S => exact h
  | bad => exact h
theorem AftI.here {G : Gc} {Wx : WX} {σ : L2.St} {W : Wd} {H : Hp} {S : Store} {ds : List Da} {J : It} {R : It → Hp → Prop} (h : AftI G Wx σ W H (.ok ds S) R) (s : SR G W H S) (i : ItD G W J ds) : R J H := h J W H (.refl W H) s i
def tI (G : Gc) (Wx : WX) (f : M (List Da)) : TI := fun σ H R => ∃ W S ρ, SR G W H S ∧ RepE G W σ ρ ∧ AftI G Wx σ W H (f ρ S) R
theorem _root_.L2.PI.imp {X : Cx} {tg e : Expr} {t t' : TI} (h : PI X tg e t) (k : ∀ σ H Q, t' σ H Q → t σ H Q) : PI X tg e t' := ⟨fun pins s σ H R I q => h.run pins s σ H R I (k σ H R q)⟩

/-- the items of a list (of either sort), of a tuple -/
def asL (S : Store) : Da → Option (List Da)
  | .lst l => some l
  | .src l => some l
  | .cell j => match S[j]? with
    | some (.lst l) => some l
    | _ => none
  | _ => none
def itL (f : M Da) : M (List Da) := fun ρ S => (f ρ S).bind fun d S1 => match d with
  | .lst l => .ok l S1
  | .src l => .ok l S1
  | _ => .bad
def itT (f : M Da) : M (List Da) := fun ρ S => (f ρ S).bind fun d S1 => match d with
  | .tup l => .ok l S1
  | _ => .bad
section
variable {X : Cx} {G : Gc} {Wx : WX} {e tg : Expr} {m : M Da}
theorem itd_seq {W0 : Wd} {J : It} {n : Nat} {Gd : Hp → Prop} {l : List Da} {vs : List V} (w : Walk J vs.length Gd (YAt vs)) (rs : Reps G W0 l vs) (hg : ∀ W H S, W0.le W → SR G W H S → Gd H) : ItD G W0 J l := by
  have e := rs.length
  refine ⟨fun i W H S hi le s => w.goes i H (by omega) (hg W H S le s), fun W H S le s => by rw [e]; exact w.stops H (hg W H S le s), fun i W H S x H' hi le s y => ?_⟩
  obtain ⟨rfl, hx⟩ := w.yields i H x H' (by omega) (hg W H S le s) y
  obtain ⟨d, hd, r⟩ := rs.getV hx
  exact ⟨d, W, hd, .refl W _, s, r.mono le⟩
theorem pid_list (he : PE X e (tM G Wx m)) (hK : G.K = X.K := by rfl) : PI X tg e (tI G Wx (itL m)) :=
  (pi_list he).imp fun σ H R ⟨W, S, ρ, s, r, q⟩ => ⟨W, S, ρ, s, r, q.bind fun d S1 v W1 H1 x1 s1 q1 k1 => by
    cases d with
    | lst l =>
      obtain ⟨a, vs, rfl, hl, rs⟩ := q1.lst_inv
      rw [hK] at hl
      exact ⟨a, rfl, ⟨vs, s1.sqL hl⟩, k1.here s1 (itd_seq (n := 0) (walk_list (a := a) (xs := vs)) rs fun W2 H2 S2 le s2 => s2.sqL (SqL.mono hl le.F))⟩
    | src l =>
      obtain ⟨a, vs, rfl, hl, rs⟩ := q1.src_inv
      rw [hK] at hl
      exact ⟨a, rfl, ⟨vs, s1.sqL hl⟩, k1.here s1 (itd_seq (n := 0) (walk_list (a := a) (xs := vs)) rs fun W2 H2 S2 le s2 => s2.sqL (SqL.mono hl le.F))⟩
    | _ => exact k1.elim⟩
theorem pid_tup (he : PE X e (tM G Wx m)) (hK : G.K = X.K := by rfl) : PI X tg e (tI G Wx (itT m)) :=
  (pi_tup he).imp fun σ H R ⟨W, S, ρ, s, r, q⟩ => ⟨W, S, ρ, s, r, q.bind fun d S1 v W1 H1 x1 s1 q1 k1 => by
    cases d with
    | tup l =>
      obtain ⟨a, vs, rfl, hl, rs⟩ := q1.tup_inv
      rw [hK] at hl
      exact ⟨a, rfl, ⟨vs, s1.sqT hl⟩, k1.here s1 (itd_seq (n := 0) (walk_tup (a := a) (xs := vs)) rs fun W2 H2 S2 le s2 => s2.sqT (SqT.mono hl le.F))⟩
    | _ => exact k1.elim⟩
/-- range(n), range(a, b) -/
def rngL (lo : Int) (n : Nat) : List Da := (List.range n).map fun i => Da.int (lo + (i : Nat))
def rngB : Int := 4611686018427387904
theorem rngB_eq : rngB = 2 ^ 62 := by decide
def itR1 (f : M Da) : M (List Da) := fun ρ S => (f ρ S).bind fun d S1 => match d with
  | .int j => if -rngB ≤ j ∧ j < rngB then .ok (rngL 0 j.toNat) S1 else .bad
  | _ => .bad
def itR2 (f g : M Da) : M (List Da) := fun ρ S => (f ρ S).bind fun d S1 => (g ρ S1).bind fun d' S2 => match d, d' with
  | .int i, .int j => if -rngB ≤ i ∧ i < rngB ∧ -rngB ≤ j ∧ j < rngB then .ok (rngL i (j - i).toNat) S2 else .bad
  | _, _ => .bad
theorem Rep.int_inv {W : Wd} {v : V} {i : Int} (h : Rep G W (.int i) v) : v = .int i := by simpa [Rep] using h
theorem Rep.str_inv {W : Wd} {v : V} {i : Str} (h : Rep G W (.str i) v) : v = .str i := by simpa [Rep] using h
theorem Rep.non_inv {W : Wd} {v : V} (h : Rep G W .non v) : v = .non := by simpa [Rep] using h
theorem Rep.cell_inv {W : Wd} {v : V} {j : Nat} (h : Rep G W (.cell j) v) : ∃ a, W.ι[j]? = some a ∧ v = .ref a := by rw [Rep] at h; exact h
theorem itd_range {W0 : Wd} {lo : Int} {n : Nat} : ItD G W0 (Itr lo n) (rngL lo n) := by
  have e : (rngL lo n).length = n := by unfold rngL; rw [List.length_map, List.length_range]
  refine ⟨fun i W H S hi le s => walk_range.goes i H (by omega) trivial, fun W H S le s => by rw [e]; exact walk_range.stops H trivial, fun i W H S x H' hi le s y => ?_⟩
  obtain ⟨rfl, rfl⟩ := walk_range.yields i H x H' (by omega) trivial y
  refine ⟨.int (lo + (i : Nat)), W, ?_, .refl W _, s, by simp [Rep]⟩
  unfold rngL
  rw [List.getElem?_map, List.getElem?_range (by omega)]
  rfl
theorem pid_range1 {a : Expr} {f : M Da} {p pos : Pos} (hm : X.mg "range" = none) (ha : PE X a (tM G Wx f)) (hg : Gl X "range" := by rfl) (hs : starEach [a] X.env = [(false, eval a X.env)] := by rfl) : PI X tg (.Call (.Name "range" p) [a] [] pos) (tI G Wx (itR1 f)) :=
  (pi_range1 hg hm (pa_cons ha pa_nil hs) hs).imp fun σ H R ⟨W, S, ρ, s, r, q⟩ => ⟨W, S, ρ, s, r, q.bind fun d S1 v W1 H1 x1 s1 q1 k1 => by
    cases d with
    | int j =>
      rw [q1.int_inv]
      by_cases h : -rngB ≤ j ∧ j < rngB
      · have k1 : AftI G Wx σ W1 H1 (if -rngB ≤ j ∧ j < rngB then .ok (rngL 0 j.toNat) S1 else .bad) R := k1
        rw [if_pos h] at k1
        rw [rngB_eq] at h
        exact ⟨j, rfl, h.1, h.2, k1.here s1 itd_range⟩
      · have k1 : AftI G Wx σ W1 H1 (if -rngB ≤ j ∧ j < rngB then .ok (rngL 0 j.toNat) S1 else .bad) R := k1
        rw [if_neg h] at k1; exact k1.elim
    | _ => exact k1.elim⟩
theorem pid_range2 {a b : Expr} {f g : M Da} {p pos : Pos} (hm : X.mg "range" = none) (ha : PE X a (tM G Wx f)) (hb : PE X b (tM G Wx g)) (hg : Gl X "range" := by rfl) (hs : starEach [a, b] X.env = [(false, eval a X.env), (false, eval b X.env)] := by rfl) (hs2 : starEach [b] X.env = [(false, eval b X.env)] := by rfl) :
    PI X tg (.Call (.Name "range" p) [a, b] [] pos) (tI G Wx (itR2 f g)) :=
  (pi_range2 hg hm (pa_cons ha (pa_cons hb pa_nil hs2) (by rw [hs, hs2])) hs hs2).imp fun σ H R ⟨W, S, ρ, s, r, q⟩ => ⟨W, S, ρ, s, r, q.bind fun d S1 v W1 H1 x1 s1 q1 k1 => ⟨W1, S1, ρ, s1, r.mono x1.le, k1.bind fun d' S2 v' W2 H2 x2 s2 q2 k2 => by
    cases d with
    | int i =>
      cases d' with
      | int j =>
        rw [q1.int_inv, q2.int_inv]
        have k2 : AftI G Wx σ W2 H2 (if -rngB ≤ i ∧ i < rngB ∧ -rngB ≤ j ∧ j < rngB then .ok (rngL i (j - i).toNat) S2 else .bad) R := k2
        by_cases h : -rngB ≤ i ∧ i < rngB ∧ -rngB ≤ j ∧ j < rngB
        · rw [if_pos h] at k2
          rw [rngB_eq] at h
          exact ⟨i, j, rfl, h, k2.here s2 itd_range⟩
        · rw [if_neg h] at k2; exact k2.elim
      | _ => exact k2.elim
    | _ => exact k2.elim⟩⟩
/-- a text, sign by sign -/
def itS (f : M Da) : M (List Da) := fun ρ S => (f ρ S).bind fun d S1 => match d with
  | .str x => .ok (x.cps.toList.map fun c => Da.str ⟨#[c]⟩) S1
  | _ => .bad
theorem itd_str {W0 : Wd} {z : Str} : ItD G W0 (Its z) (z.cps.toList.map fun c => Da.str ⟨#[c]⟩) := by
  have e : (z.cps.toList.map fun c => Da.str ⟨#[c]⟩).length = z.cps.size := by rw [List.length_map, Array.length_toList]
  refine ⟨fun i W H S hi le s => walk_str.goes i H (by omega) trivial, fun W H S le s => by rw [e]; exact walk_str.stops H trivial, fun i W H S x H' hi le s y => ?_⟩
  obtain ⟨rfl, c, hc, rfl⟩ := walk_str.yields i H x H' (by omega) trivial y
  exact ⟨.str ⟨#[c]⟩, W, by rw [List.getElem?_map, Array.getElem?_toList, hc]; rfl, .refl W _, s, by simp [Rep]⟩
theorem pid_str (he : PE X e (tM G Wx m)) : PI X tg e (tI G Wx (itS m)) :=
  (pi_str he).imp fun σ H R ⟨W, S, ρ, s, r, q⟩ => ⟨W, S, ρ, s, r, q.bind fun d S1 v W1 H1 x1 s1 q1 k1 => by
    cases d with
    | str z => exact ⟨z, q1.str_inv, k1.here s1 itd_str⟩
    | _ => exact k1.elim⟩
end

/-! ### for -/
def forL (tg : Tg) (body : MS) : List Da → MS
  | [], ρ, S => .nx ρ S
  | d :: ds, ρ, S => match bindT tg d ρ with
    | none => .bad
    | some ρ1 => match body ρ1 S with
      | .nx ρ2 S2 => forL tg body ds ρ2 S2
      | .ct ρ2 S2 => forL tg body ds ρ2 S2
      | .bk ρ2 S2 => .nx ρ2 S2
      | .rt d S2 => .rt d S2
      | .exc c d ρ2 S2 => .exc c d ρ2 S2
      | .bad => .bad
def forS (tg : Tg) (src : M (List Da)) (body : MS) : MS := fun ρ S => (src ρ S).thenS ρ fun ds S1 => forL tg body ds ρ S1
theorem AftI.ofS {G : Gc} {Wx : WX} {σ : L2.St} {ρ : En} {W : Wd} {H : Hp} {r : Res (List Da)} {k : List Da → Store → RS} {D : Ends} {R : It → Hp → Prop} (h : AftS G Wx W H (r.thenS ρ k) D) (re : RepE G W σ ρ)
    (step : ∀ ds S J W' H', Ext W H W' H' → SR G W' H' S → ItD G W' J ds → AftS G Wx W' H' (k ds S) D → R J H') : AftI G Wx σ W H r R := by
  cases r with
  | ok a S => exact fun b W' H' x s q => step a S b W' H' x s q (h.later x)
  | exc c d S => exact fun cls dx W' H' x s q => h cls dx σ W' H' x s (re.mono x.le) q
  | bad => exact h
section
variable {X : Cx} {G : Gc} {Wx : WX} {st : Stmt} {rest : List Stmt} {e tg iter : Expr} {g : MS} {m : M Da} {src : M (List Da)} {ct : M Bool} {pos : Pos} {t : Tg}
theorem psd_for {body : List Stmt} (hp : PassesOwn (model X.prog X.w) X.A X.env X.xe) (hc : X.calm = true) (hi : PI X tg iter (tI G Wx src)) (hg : PG X tg (gT G t)) (hb : PSs X body (tS G Wx g))
    (hs : ∀ x, foldedSetIterable iter X.env x = pure x := by intro _; rfl) : PS X (.For tg iter body [] pos) (tS G Wx (forS t src g)) :=
  (ps_for hp hc hi hg hb hs).imp fun D σ H ⟨W, S, ρ, s, r, q⟩ => ⟨W, S, ρ, s, r, AftI.ofS q r fun ds S1 J W1 H1 x1 s1 it k1 => by
    refine ⟨fun i n σ H => n = ds.length - i ∧ i ≤ ds.length ∧ ∃ W S ρ, W1.le W ∧ SR G W H S ∧ RepE G W σ ρ ∧ AftS G Wx W H (forL t g (ds.drop i) ρ S) D,
      ⟨ds.length, by simp, Nat.zero_le _, W1, S1, ρ, .refl W1, s1, r.mono x1.le, k1⟩, ?_⟩
    rintro i n σ2 H2 ⟨rfl, hi, W2, S2, ρ2, le, s2, r2, k2⟩
    by_cases hlt : i < ds.length
    · refine .inr ⟨it.go i W2 H2 S2 hlt le s2, fun σ H => ∃ W S ρ, W1.le W ∧ SR G W H S ∧ RepE G W σ ρ ∧ AftS G Wx W H (forL t g (ds.drop (i + 1)) ρ S) D, fun σ' H' h => ⟨ds.length - (i + 1), by omega, rfl, hlt, h⟩, fun x H' y => ?_⟩
      obtain ⟨d, W3, hd, x3, s3, q3⟩ := it.yld i W2 H2 S2 x H' hlt le s2 y
      have ed : ds.drop i = d :: ds.drop (i + 1) := by
        obtain ⟨h1, h2⟩ := List.getElem?_eq_some_iff.mp hd
        rw [← h2]; exact List.drop_eq_getElem_cons h1
      rw [ed] at k2
      unfold forL at k2
      cases hb : bindT t d ρ2 with
      | none => rw [hb] at k2; exact k2.elim
      | some ρ3 =>
        rw [hb] at k2
        refine ⟨W3, S2, ρ2, d, ρ3, s3, r2.mono x3.le, q3, hb, fun σ' r3 _ => ⟨W3, S2, ρ3, s3, r3, ?_⟩⟩
        have k3 := k2.later x3
        have le3 := le.trans x3.le
        revert k3
        show AftS G Wx W3 H' (match g ρ3 S2 with
          | .nx ρ2 S2 => forL t g (ds.drop (i + 1)) ρ2 S2
          | .ct ρ2 S2 => forL t g (ds.drop (i + 1)) ρ2 S2
          | .bk ρ2 S2 => .nx ρ2 S2
          | .rt d S2 => .rt d S2
          | .exc c d ρ2 S2 => .exc c d ρ2 S2
          | .bad => .bad) D → _
        cases g ρ3 S2 with
        | nx ρ4 S4 => exact fun k3 σ4 W4 H4 x4 s4 r4 => ⟨W4, S4, ρ4, le3.trans x4.le, s4, r4, k3.later x4⟩
        | ct ρ4 S4 => exact fun k3 σ4 W4 H4 x4 s4 r4 => ⟨W4, S4, ρ4, le3.trans x4.le, s4, r4, k3.later x4⟩
        | bk ρ4 S4 => exact fun k3 σ4 W4 H4 x4 s4 r4 => k3 σ4 W4 H4 x4 s4 r4
        | rt d S4 => exact fun k3 => k3
        | exc c d ρ4 S4 => exact fun k3 => k3
        | bad => exact fun k3 => k3
    · have e : i = ds.length := by omega
      subst e
      rw [List.drop_length] at k2
      exact .inl ⟨it.stop W2 H2 S2 le s2, k2.nx s2 r2⟩⟩
/-! ### while -/
def whileL (c : M Bool) (b : MS) : Nat → MS
  | 0, _, _ => .bad
  | n + 1, ρ, S => (c ρ S).thenS ρ fun t S1 => if t then (match b ρ S1 with
      | .nx ρ2 S2 => whileL c b n ρ2 S2
      | .ct ρ2 S2 => whileL c b n ρ2 S2
      | .bk ρ2 S2 => .nx ρ2 S2
      | .rt d S2 => .rt d S2
      | .exc c d ρ2 S2 => .exc c d ρ2 S2
      | .bad => .bad) else .nx ρ S1
theorem psd_while {c : Expr} {body : List Stmt} (n : Nat) (hp : PassesOwn (model X.prog X.w) X.A X.env X.xe) (hc : PT X c (tMb G Wx ct)) (hb : PSs X body (tS G Wx g)) : PS X (.While c body [] pos) (tS G Wx (whileL ct g n)) :=
  (ps_while hp hc hb).imp fun D σ H ⟨W, S, ρ, s, r, q⟩ => by
    refine ⟨fun n σ H => ∃ W S ρ, SR G W H S ∧ RepE G W σ ρ ∧ AftS G Wx W H (whileL ct g n ρ S) D, ⟨n, W, S, ρ, s, r, q⟩, ?_⟩
    rintro m σ2 H2 ⟨W2, S2, ρ2, s2, r2, k2⟩
    cases m with
    | zero => exact k2.elim
    | succ m =>
      refine ⟨W2, S2, ρ2, s2, r2, AftS.bind k2 r2 fun t S3 b W3 H3 x3 s3 q3 k3 => ?_⟩
      subst q3
      cases t with
      | false => exact k3.nx s3 (r2.mono x3.le)
      | true =>
        refine ⟨fun σ H => ∃ W S ρ, SR G W H S ∧ RepE G W σ ρ ∧ AftS G Wx W H (whileL ct g m ρ S) D, fun σ' H' h => ⟨m, Nat.lt_succ_self m, h⟩, W3, S3, ρ2, s3, r2.mono x3.le, ?_⟩
        revert k3
        show AftS G Wx W3 H3 (match g ρ2 S3 with
          | .nx ρ2 S2 => whileL ct g m ρ2 S2
          | .ct ρ2 S2 => whileL ct g m ρ2 S2
          | .bk ρ2 S2 => .nx ρ2 S2
          | .rt d S2 => .rt d S2
          | .exc c d ρ2 S2 => .exc c d ρ2 S2
          | .bad => .bad) D → _
        cases g ρ2 S3 with
        | nx ρ4 S4 => exact fun k3 σ4 W4 H4 x4 s4 r4 => ⟨W4, S4, ρ4, s4, r4, k3.later x4⟩
        | ct ρ4 S4 => exact fun k3 σ4 W4 H4 x4 s4 r4 => ⟨W4, S4, ρ4, s4, r4, k3.later x4⟩
        | bk ρ4 S4 => exact fun k3 σ4 W4 H4 x4 s4 r4 => k3 σ4 W4 H4 x4 s4 r4
        | rt d S4 => exact fun k3 => k3
        | exc c d ρ4 S4 => exact fun k3 => k3
        | bad => exact fun k3 => k3
end
end NL

set_option Elab.async false
set_option linter.all false
set_option maxRecDepth 100000
set_option maxHeartbeats 2000000
namespace NL
open PySem PySem.Spec PyProof.Rows L2

/-! ### a list just made, known to nobody -/
def AftF (G : Gc) (Wx : WX) (σ : L2.St) (W : Wd) (H : Hp) (r : Res (List Da)) (Q : VK) : Prop := match r with
  | .ok l S => ∀ p vs W' H', Ext W H W' H' → SR G W' H' S → Reps G W' l vs → H' p = some (.lst vs) → p ∉ W'.ι → W'.F p = none → H p = none → Q (.ref p) H'
  | .exc c d S => ∀ cls dx W' H', Ext W H W' H' → SR G W' H' S → XRep G W' c d cls dx → Wx cls dx σ H'
  | .bad => False
def tF (G : Gc) (Wx : WX) (f : M (List Da)) : TE := fun σ H Q => ∃ W S ρ, SR G W H S ∧ RepE G W σ ρ ∧ AftF G Wx σ W H (f ρ S) Q
def frzM (f : M (List Da)) : M Da := fun ρ S => (f ρ S).bind fun l S1 => .ok (.lst l) S1
def celM (f : M (List Da)) : M Da := fun ρ S => (f ρ S).bind fun l S1 => .ok (.cell S1.length) (S1 ++ [.lst l])
theorem AftF.later {G : Gc} {Wx : WX} {σ : L2.St} {W W' : Wd} {H H' : Hp} {r : Res (List Da)} {Q : VK} (h : AftF G Wx σ W H r Q) (x : Ext W H W' H') : AftF G Wx σ W' H' r Q := by
  cases r with
  | ok a S => exact fun p vs W2 H2 x2 s r h1 h2 h3 h4 => h p vs W2 H2 (x.trans x2) s r h1 h2 h3 (x.dom _ h4)
  | exc c d S => exact fun cls dx W2 H2 x2 => h cls dx W2 H2 (x.trans x2)
  | bad => exact h
theorem Wd.le_frz (W : Wd) {p : Addr} {o : HO} (h : W.F p = none) : W.le (W.frz p o) := ⟨fun _ _ h => h, fun a u q => by
    show upd W.F p o a = some u
    rw [upd_ne (ne_of_none q h)]; exact q⟩
theorem frz_imp {G : Gc} {Wx : WX} {f : M (List Da)} {σ : L2.St} {H : Hp} {Q : VK} (k : tM G Wx (frzM f) σ H Q) : tF G Wx f σ H Q := by
  obtain ⟨W, S, ρ, s, r, q⟩ := k
  refine ⟨W, S, ρ, s, r, ?_⟩
  unfold frzM at q
  revert q
  cases f ρ S with
  | ok l S1 =>
    intro q p vs W1 H1 x1 s1 r1 h1 h2 h3 h4
    obtain ⟨x2, s2⟩ := Ext.still s1 x1 h4 h1 h2 h3
    exact q (.ref p) _ H1 x2 s2 (RV.lst frz_same (r1.mono (W1.le_frz h3)))
  | exc c d S1 => exact fun q => q
  | bad => exact fun q => q
theorem cel_imp {G : Gc} {Wx : WX} {f : M (List Da)} {σ : L2.St} {H : Hp} {Q : VK} (k : tM G Wx (celM f) σ H Q) : tF G Wx f σ H Q := by
  obtain ⟨W, S, ρ, s, r, q⟩ := k
  refine ⟨W, S, ρ, s, r, ?_⟩
  unfold celM at q
  revert q
  cases f ρ S with
  | ok l S1 =>
    intro q p vs W1 H1 x1 s1 r1 h1 h2 h3 h4
    obtain ⟨x2, s2⟩ := Ext.cel (c := .lst l) s1 x1 h4 ⟨vs, h1, r1⟩ h2 h3
    refine q (.ref p) _ H1 x2 s2 ?_
    show Rep G (W1.cel p) (.cell S1.length) (.ref p)
    rw [Rep]
    refine ⟨p, ?_, rfl⟩
    show (W1.ι ++ [p])[S1.length]? = some p
    rw [← s1.len, List.getElem?_append_right (Nat.le_refl _), Nat.sub_self]; rfl
  | exc c d S1 => exact fun q => q
  | bad => exact fun q => q
theorem pd_frz {X : Cx} {G : Gc} {Wx : WX} {e : Expr} {f : M (List Da)} (h : PE X e (tF G Wx f)) : PE X e (tM G Wx (frzM f)) := h.imp fun _ _ _ k => frz_imp k
theorem pd_cel {X : Cx} {G : Gc} {Wx : WX} {e : Expr} {f : M (List Da)} (h : PE X e (tF G Wx f)) : PE X e (tM G Wx (celM f)) := h.imp fun _ _ _ k => cel_imp k
/-- a list made at p, in a world that does not know it -/
theorem Ext.add {G : Gc} {W : Wd} {H : Hp} {S : Store} (s : SR G W H S) {p : Addr} {o : HO} (hp : H p = none) : Ext W H W (upd H p o) ∧ SR G W (upd H p o) S := by
  have fp := s.Fnone hp
  refine ⟨⟨.refl W, fun a h => .inl h, fun a u h => .inl h, fun a u h _ => by rw [upd_ne (ne_of_none h hp)]; exact h, fun a h => ?_⟩, ⟨fun a u h => ?_, s.nd, s.len, fun j c h => ?_, s.out⟩⟩
  · by_cases e : a = p
    · subst e; exact hp
    · rw [upd_ne e] at h; exact h
  · rw [upd_ne (ne_of_none h fp)]; exact s.sub a u h
  · obtain ⟨a, ha, q⟩ := s.cell j c h
    have hne : a ≠ p := fun e => s.notin hp (e ▸ List.mem_of_getElem? ha)
    exact ⟨a, ha, q.mono (.refl W) (upd_ne hne)⟩
/-- .. and changed there -/
theorem Ext.alter {G : Gc} {W0 W : Wd} {H0 H : Hp} {S : Store} (x : Ext W0 H0 W H) (s : SR G W H S) {p : Addr} {o : HO} (h0 : H0 p = none) (hn : p ∉ W.ι) (hf : W.F p = none) : Ext W0 H0 W (upd H p o) ∧ SR G W (upd H p o) S := by
  refine ⟨⟨x.le, x.new, x.Fn, fun a u h n => ?_, fun a h => ?_⟩, ⟨fun a u h => ?_, s.nd, s.len, fun j c h => ?_, s.out⟩⟩
  · rw [upd_ne (ne_of_none h h0)]; exact x.keep a u h n
  · by_cases e : a = p
    · subst e; exact h0
    · rw [upd_ne e] at h; exact x.dom a h
  · rw [upd_ne (ne_of_none h hf)]; exact s.sub a u h
  · obtain ⟨a, ha, q⟩ := s.cell j c h
    have hne : a ≠ p := fun e => hn (e ▸ List.mem_of_getElem? ha)
    exact ⟨a, ha, q.mono (.refl W) (upd_ne hne)⟩
/-- what nobody knew nobody knows later -/
theorem Ext.unknown {W W' : Wd} {H H' : Hp} (x : Ext W H W' H') {p : Addr} {o : HO} (hp : H p = some o) (hn : p ∉ W.ι) (hf : W.F p = none) : H' p = some o ∧ p ∉ W'.ι ∧ W'.F p = none := by
  refine ⟨x.keep p o hp hn, fun m => ?_, ?_⟩
  · rcases x.new p m with h | h
    · exact hn h
    · rw [hp] at h; cases h
  · cases q : W'.F p with
    | none => rfl
    | some u =>
      rcases x.Fn p u q with h | h
      · rw [hf] at h; cases h
      · rw [hp] at h; cases h
def listM (t : M (List Da)) : M (List Da) := fun ρ S => (t ρ S).bind fun l S1 => if l.length ≤ big then .ok l S1 else .bad
/-- [a, b, ..] -/
theorem pdf_lst {X : Cx} {G : Gc} {Wx : WX} {es : List Expr} {pos : Pos} {t : M (List Da)} (ha : PA X es (tMs G Wx t)) : PE X (.List es pos) (tF G Wx (listM t)) :=
  (pe_lst ha).imp fun σ H Q ⟨W, S, ρ, s, r, q⟩ => ⟨W, S, ρ, s, r, by
    unfold listM at q
    revert q
    cases t ρ S with
    | ok l S1 =>
      intro q vs W1 H1 x1 s1 q1
      have q : AftF G Wx σ W H (if l.length ≤ big then .ok l S1 else .bad) Q := q
      by_cases hl : l.length ≤ big
      · rw [if_pos hl] at q
        refine ⟨by rw [← q1.length, ← big_eq]; exact hl, fun p hp => ?_⟩
        obtain ⟨x2, s2⟩ := Ext.add s1 (o := .lst vs) hp
        exact q p vs W1 _ (x1.trans x2) s2 q1 upd_same (s1.notin hp) (s1.Fnone hp) (x1.dom p hp)
      · rw [if_neg hl] at q; exact q.elim
    | exc c d S1 => exact fun q => q
    | bad => exact fun q => q⟩

/-! ### list comprehensions -/
def wipeD (ρ : En) : List Nat → En
  | [] => ρ
  | v :: vs => (wipeD ρ vs).set v none
theorem RepE.wipe {G : Gc} {W : Wd} {σ : L2.St} {ρ : En} (h : RepE G W σ ρ) : ∀ vs : List Nat, RepE G W (L2.wipe σ vs) (wipeD ρ vs)
  | [] => h
  | v :: vs => (RepE.wipe h vs).none v
theorem wipe_get (σ : L2.St) (k : Nat) : ∀ vs : List Nat, (L2.wipe σ vs)[k]? = if k ∈ vs then (if k < σ.length then some none else none) else σ[k]?
  | [] => by simp [L2.wipe]
  | v :: vs => by
    unfold L2.wipe
    by_cases e : v = k
    · subst e
      rw [List.getElem?_set_self']
      by_cases hl : v < σ.length
      · have : (L2.wipe σ vs)[v]? = some ((L2.wipe σ vs)[v]'(by rw [wipe_length]; exact hl)) := by simp [wipe_length, hl]
        rw [this]; simp [hl]
      · have : (L2.wipe σ vs)[v]? = none := List.getElem?_eq_none (by rw [wipe_length]; omega)
        rw [this]; simp [hl]
    · rw [List.getElem?_set_ne e, wipe_get σ k vs]
      simp [Ne.symm e]
theorem wipe_but {σ σ2 : L2.St} {is vs : List Nat} (b : But is (L2.wipe σ vs) σ2) (h : ∀ i ∈ is, i ∈ vs) : L2.wipe σ2 vs = L2.wipe σ vs := by
  apply List.ext_getElem?
  intro k
  have hl : σ2.length = σ.length := b.1.trans (wipe_length σ vs)
  rw [wipe_get, wipe_get, hl]
  by_cases m : k ∈ vs
  · rw [if_pos m, if_pos m]
  · rw [if_neg m, if_neg m, b.2 k fun z => m (h k z), wipe_get, if_neg m]

abbrev WN : WX := fun _ _ _ _ => False
def lcL (tg : Tg) (cond : M Bool) (elt : M Da) (ρ : En) : List Da → Store → Option (List Da × Store)
  | [], S => some ([], S)
  | d :: ds, S => match bindT tg d ρ with
    | none => none
    | some ρ1 => match cond ρ1 S with
      | .ok true S1 => match elt ρ1 S1 with
        | .ok y S2 => match lcL tg cond elt ρ ds S2 with
          | some (l, S3) => some (y :: l, S3)
          | none => none
        | _ => none
      | .ok false S1 => lcL tg cond elt ρ ds S1
      | _ => none
def optR {α : Type} : Option (α × Store) → Res α
  | some (a, S) => .ok a S
  | none => .bad
def lcM (own : List Nat) (tg : Tg) (src : M (List Da)) (cond : M Bool) (elt : M Da) : M (List Da) := fun ρ S => (src ρ S).bind fun ds S1 => if ds.length ≤ big then optR (lcL tg cond elt (wipeD ρ own) ds S1) else .bad
def yesM : M Bool := fun _ S => .ok true S
theorem ptsd_nil {X : Cx} {G : Gc} {Wx : WX} : PTs X [] (tMb G Wx yesM) := ⟨fun pins s σ H Q I ⟨W, S, ρ, s1, r, q⟩ => pts_nil.run pins s σ H Q I (q.here s1 rfl)⟩
theorem ptsd_one {X : Cx} {G : Gc} {Wx : WX} {c : Expr} {t : M Bool} (h : PT X c (tMb G Wx t)) : PTs X [c] (tMb G Wx t) := pts_one h
theorem AftI.bindF {G : Gc} {Wx : WX} {σ : L2.St} {W : Wd} {H : Hp} {r : Res (List Da)} {k : List Da → Store → Res (List Da)} {Q : VK} {R : It → Hp → Prop} (h : AftF G Wx σ W H (r.bind k) Q)
    (step : ∀ ds S J W' H', Ext W H W' H' → SR G W' H' S → ItD G W' J ds → AftF G Wx σ W' H' (k ds S) Q → R J H') : AftI G Wx σ W H r R := by
  cases r with
  | ok a S => exact fun b W' H' x s q => step a S b W' H' x s q (h.later x)
  | exc c d S => exact h
  | bad => exact h
theorem lc_imp {G : Gc} {Wx : WX} {own : List Nat} {tg : Tg} {src : M (List Da)} {cond : M Bool} {elt : M Da} (hsl : ∀ i ∈ tg.slots, i ∈ own) {σ : L2.St} {H : Hp} {Q : VK} (k : tF G Wx (lcM own tg src cond elt) σ H Q) :
    tLc (tI G Wx src) (gT G tg) (tMb G WN cond) (tM G WN elt) own σ H Q := by
  obtain ⟨W, S, ρ, s, r, q⟩ := k
  refine ⟨W, S, ρ, s, r, AftI.bindF q fun ds S1 J W1 H1 x1 s1 it k1 => ?_⟩
  by_cases hl : ds.length ≤ big
  · rw [if_pos hl] at k1
    cases hR : lcL tg cond elt (wipeD ρ own) ds S1 with
    | none => rw [hR] at k1; exact k1.elim
    | some LS =>
      obtain ⟨L, SL⟩ := LS
      rw [hR] at k1
      have k1 : ∀ p vs W' H', Ext W1 H1 W' H' → SR G W' H' SL → Reps G W' L vs → H' p = some (.lst vs) → p ∉ W'.ι → W'.F p = none → H1 p = none → Q (.ref p) H' := k1
      intro D hD
      have rw1 : RepE G W1 (L2.wipe σ own) (wipeD ρ own) := (r.mono x1.le).wipe own
      refine ⟨fun i n H2 => n = ds.length - i ∧ i ≤ ds.length ∧ ∃ W2 S2 acc vs l, Ext W1 H1 W2 H2 ∧ SR G W2 H2 S2 ∧ H2 D = some (.lst vs) ∧ Reps G W2 acc vs ∧ D ∉ W2.ι ∧ W2.F D = none ∧ acc.length ≤ i ∧
        lcL tg cond elt (wipeD ρ own) (ds.drop i) S2 = some (l, SL) ∧ L = acc ++ l, ⟨ds.length, by simp, Nat.zero_le _, ?_⟩, ?_⟩
      · obtain ⟨x2, s2⟩ := Ext.add s1 (o := .lst []) hD
        exact ⟨W1, S1, [], [], L, x2, s2, upd_same, .nil, s1.notin hD, s1.Fnone hD, Nat.le_refl _, hR, rfl⟩
      rintro i n H2 ⟨rfl, hi, W2, S2, acc, vs, l, x2, s2, hd, rs, hn, hf, hac, hq, hL⟩
      by_cases hlt : i < ds.length
      · refine .inr ⟨it.go i W2 H2 S2 hlt x2.le s2, fun H3 => ∃ W3 S3 acc vs l, Ext W1 H1 W3 H3 ∧ SR G W3 H3 S3 ∧ H3 D = some (.lst vs) ∧ Reps G W3 acc vs ∧ D ∉ W3.ι ∧ W3.F D = none ∧ acc.length ≤ i + 1 ∧
          lcL tg cond elt (wipeD ρ own) (ds.drop (i + 1)) S3 = some (l, SL) ∧ L = acc ++ l, fun H' h => ⟨ds.length - (i + 1), by omega, rfl, hlt, h⟩, fun x H3 y => ?_⟩
        obtain ⟨d, W3, hdd, x3, s3, q3⟩ := it.yld i W2 H2 S2 x H3 hlt x2.le s2 y
        have ed : ds.drop i = d :: ds.drop (i + 1) := by
          obtain ⟨h1, h2⟩ := List.getElem?_eq_some_iff.mp hdd
          rw [← h2]; exact List.drop_eq_getElem_cons h1
        rw [ed] at hq
        unfold lcL at hq
        cases hb : bindT tg d (wipeD ρ own) with
        | none => rw [hb] at hq; cases hq
        | some ρ1 =>
          rw [hb] at hq
          obtain ⟨hd3, hn3, hf3⟩ := x3.unknown hd hn hf
          refine ⟨W3, S2, wipeD ρ own, d, ρ1, s3, rw1.mono (x2.le.trans x3.le), q3, hb, fun σ2 r2 but => ⟨wipe_but but hsl, W3, S2, ρ1, s3, r2, ?_⟩⟩
          have x23 := x2.trans x3
          cases hc : cond ρ1 S2 with
          | exc c d0 S0 => simp only [hc] at hq; cases hq
          | bad => simp only [hc] at hq; cases hq
          | ok b S4 =>
            intro b' W4 H4 x4 s4 eb
            have eb : b = b' := eb
            subst eb
            obtain ⟨hd4, hn4, hf4⟩ := x4.unknown hd3 hn3 hf3
            cases b with
            | false =>
              simp only [hc] at hq
              rw [if_neg (by decide)]
              exact ⟨W4, S4, acc, vs, l, x23.trans x4, s4, hd4, rs.mono (x3.le.trans x4.le), hn4, hf4, by omega, hq, hL⟩
            | true =>
              simp only [hc] at hq
              simp only [if_true]
              refine ⟨W4, S4, ρ1, s4, r2.mono x4.le, ?_⟩
              cases he : elt ρ1 S4 with
              | exc c d0 S0 => simp only [he] at hq; cases hq
              | bad => simp only [he] at hq; cases hq
              | ok y5 S5 =>
                intro v W5 H5 x5 s5 q5
                obtain ⟨hd5, hn5, hf5⟩ := x5.unknown hd4 hn4 hf4
                simp only [he] at hq
                cases hr : lcL tg cond elt (wipeD ρ own) (ds.drop (i + 1)) S5 with
                | none => simp only [hr] at hq; cases hq
                | some lS =>
                  obtain ⟨l6, S6⟩ := lS
                  simp only [hr] at hq
                  cases hq
                  have x15 := (x23.trans x4).trans x5
                  have rs5 : Reps G W5 acc vs := rs.mono ((x3.le.trans x4.le).trans x5.le)
                  obtain ⟨x6, s6⟩ := Ext.alter x15 s5 (o := .lst (vs ++ [v])) hD hn5 hf5
                  refine ⟨vs, hd5, ?_, W5, S5, acc ++ [y5], vs ++ [v], l6, x6, s6, upd_same, rs5.append (.cons q5 .nil), hn5, hf5, by rw [List.length_append]; simp; omega, hr, by rw [hL, List.append_assoc]; rfl⟩
                  rw [← rs5.length, ← big_eq]; omega
      · have e : i = ds.length := by omega
        subst e
        rw [List.drop_length] at hq
        have hq : some (([] : List Da), S2) = some (l, SL) := hq
        have st := it.stop W2 H2 S2 x2.le s2
        cases hq
        rw [List.append_nil] at hL
        subst hL
        exact .inl ⟨st, k1 D vs W2 H2 x2 s2 rs hd hn hf hD⟩
  · rw [if_neg hl] at k1; exact k1.elim
section
variable {X : Cx} {G : Gc} {Wx : WX}
theorem pd_lc {elt tg iter : Expr} {ifs : List Expr} {scope : Scope} {own : List (Str × Nat)} {pos : Pos} {src : M (List Da)} {t : Tg} {ct : M Bool} {m : M Da} (hc : X.calm = true) (hN : X.N.Nodup) (hi : PI X tg iter (tI G Wx src)) (ok : BlkOk X.N X.env.scope scope own)
    (hg : ∀ (s : Shared) (H : Hp) (C : Addr) (cl : List (Str × Addr)) (fp : List Addr), PG (X.blk s H scope (compEnvC scope cl C X.env) fp) tg (gT G t)) (ht : ∀ (s : Shared) (H : Hp) (C : Addr) (cl : List (Str × Addr)) (fp : List Addr), PTs (X.blk s H scope (compEnvC scope cl C X.env) fp) ifs (tMb G WN ct))
    (he : ∀ (s : Shared) (H : Hp) (C : Addr) (cl : List (Str × Addr)) (fp : List Addr), PE (X.blk s H scope (compEnvC scope cl C X.env) fp) elt (tM G WN m)) (hsl : ∀ i ∈ t.slots, i ∈ own.map (·.2) := by decide) (hs : ∀ x, foldedSetIterable iter X.env x = pure x := by intro _; rfl) :
    PE X (.ListComp elt [⟨tg, iter, ifs, 0⟩] scope pos) (tF G Wx (lcM (own.map (·.2)) t src ct m)) := (pe_lc hc hN hi ok hg ht he hs).imp fun _ _ _ k => lc_imp hsl k
/-- y = [..] on one line, y a local; the list stands still from then on -/
theorem psd_lc {i : Nat} {y : Str} {py : Pos} {elt tg iter : Expr} {ifs : List Expr} {scope : Scope} {own : List (Str × Nat)} {pos spos : Pos} {src : M (List Da)} {t : Tg} {ct : M Bool} {m : M Da} (hc : X.calm = true) (hN : X.N.Nodup)
    (hi : PI X tg iter (tI G Wx src)) (ok : BlkOk X.N X.env.scope scope own)
    (hg : ∀ (s : Shared) (H : Hp) (C : Addr) (cl : List (Str × Addr)) (fp : List Addr), PG (X.blk s H scope (compEnvC scope cl C X.env) fp) tg (gT G t)) (ht : ∀ (s : Shared) (H : Hp) (C : Addr) (cl : List (Str × Addr)) (fp : List Addr), PTs (X.blk s H scope (compEnvC scope cl C X.env) fp) ifs (tMb G WN ct))
    (he : ∀ (s : Shared) (H : Hp) (C : Addr) (cl : List (Str × Addr)) (fp : List Addr), PE (X.blk s H scope (compEnvC scope cl C X.env) fp) elt (tM G WN m)) (hsl : ∀ i ∈ t.slots, i ∈ own.map (·.2) := by decide)
    (hy : X.N[i]? = some y := by rfl) (hyl : X.env.scope.names.lookup y = some .local := by rfl) (hsw : swapsWith (.ListComp elt [⟨tg, iter, ifs, 0⟩] scope pos) (some (.Name y py)) spos.line X.env = pure true := by exact sw_true rfl rfl rfl (by decide +kernel)) (hs : ∀ x, foldedSetIterable iter X.env x = pure x := by intro _; rfl) :
    PS X (.Assign [.Name y py] (.ListComp elt [⟨tg, iter, ifs, 0⟩] scope pos) spos) (tS G Wx (setS i (frzM (lcM (own.map (·.2)) t src ct m)))) :=
  (ps_setLc hc hN hy hyl hsw hi ok hg ht he hs).imp fun D σ H ⟨W, S, ρ, s, r, q⟩ => lc_imp hsl (frz_imp ⟨W, S, ρ, s, r, q.bind r fun d S1 v W1 H1 x1 s1 q1 k1 => k1.nx s1 ((r.mono x1.le).set q1)⟩)
theorem psd_lcC {i : Nat} {y : Str} {py : Pos} {elt tg iter : Expr} {ifs : List Expr} {scope : Scope} {own : List (Str × Nat)} {pos spos : Pos} {src : M (List Da)} {t : Tg} {ct : M Bool} {m : M Da} (hc : X.calm = true) (hN : X.N.Nodup)
    (hi : PI X tg iter (tI G Wx src)) (ok : BlkOk X.N X.env.scope scope own)
    (hg : ∀ (s : Shared) (H : Hp) (C : Addr) (cl : List (Str × Addr)) (fp : List Addr), PG (X.blk s H scope (compEnvC scope cl C X.env) fp) tg (gT G t)) (ht : ∀ (s : Shared) (H : Hp) (C : Addr) (cl : List (Str × Addr)) (fp : List Addr), PTs (X.blk s H scope (compEnvC scope cl C X.env) fp) ifs (tMb G WN ct))
    (he : ∀ (s : Shared) (H : Hp) (C : Addr) (cl : List (Str × Addr)) (fp : List Addr), PE (X.blk s H scope (compEnvC scope cl C X.env) fp) elt (tM G WN m)) (hsl : ∀ i ∈ t.slots, i ∈ own.map (·.2) := by decide)
    (hy : X.N[i]? = some y := by rfl) (hyl : X.env.scope.names.lookup y = some .local := by rfl) (hsw : swapsWith (.ListComp elt [⟨tg, iter, ifs, 0⟩] scope pos) (some (.Name y py)) spos.line X.env = pure true := by exact sw_true rfl rfl rfl (by decide +kernel)) (hs : ∀ x, foldedSetIterable iter X.env x = pure x := by intro _; rfl) :
    PS X (.Assign [.Name y py] (.ListComp elt [⟨tg, iter, ifs, 0⟩] scope pos) spos) (tS G Wx (setS i (celM (lcM (own.map (·.2)) t src ct m)))) :=
  (ps_setLc hc hN hy hyl hsw hi ok hg ht he hs).imp fun D σ H ⟨W, S, ρ, s, r, q⟩ => lc_imp hsl (cel_imp ⟨W, S, ρ, s, r, q.bind r fun d S1 v W1 H1 x1 s1 q1 k1 => k1.nx s1 ((r.mono x1.le).set q1)⟩)
end
end NL

set_option Elab.async false
set_option linter.all false
set_option maxRecDepth 100000
set_option maxHeartbeats 2000000
namespace NL
open PySem PySem.Spec PyProof.Rows L2

/-! ### room, and no repr under way -/
structure RoomG (k : Nat) (A : Around) : Prop where
  rm : Room k A
  gd : A.guards = some []
theorem RoomG.mono {j k : Nat} {A : Around} (r : RoomG k A) (h : j ≤ k) : RoomG j A := ⟨r.rm.mono h, r.gd⟩
theorem RoomG.into {k : Nat} {A : Around} (r : RoomG (k + 1) A) (env : Env) : RoomG k (A.deeper env) := ⟨r.rm.deeper env, r.gd⟩
theorem RoomG.makingK {k : Nat} {A : Around} (r : RoomG (k + 1) A) (C : Addr) (us : List Value) (kw : List (Str × Value)) : RoomG k (A.under (.builtin "type.__call__" ⟨.ref C :: us, kw⟩)) :=
  ⟨r.rm.make C us kw, by
    have g : (Code.builtin "type.__call__" ⟨.ref C :: us, kw⟩).guards = [] := by
      unfold Code.guards
      rw [if_neg]
      have : (Code.builtin "type.__call__" ⟨.ref C :: us, kw⟩).isGuard = false := rfl
      rw [this]; decide
    show pushGuards (Code.builtin "type.__call__" ⟨.ref C :: us, kw⟩).guards A.guards = some []
    rw [g, r.gd]; rfl⟩
theorem RoomG.making {k : Nat} {A : Around} (r : RoomG (k + 1) A) (C : Addr) (us : List Value) : RoomG k (A.under (.builtin "type.__call__" ⟨.ref C :: us, []⟩)) :=
  ⟨r.rm.make C us [], by
    have g : (Code.builtin "type.__call__" ⟨.ref C :: us, []⟩).guards = [] := by
      unfold Code.guards
      rw [if_neg]
      have : (Code.builtin "type.__call__" ⟨.ref C :: us, []⟩).isGuard = false := rfl
      rw [this]; decide
    show pushGuards (Code.builtin "type.__call__" ⟨.ref C :: us, []⟩).guards A.guards = some []
    rw [g, r.gd]; rfl⟩
/-- a def keeps the promise sp wherever there is room and no repr is under way -/
structure FnG (P : Program) (w : World) (K : PySem.W.Frag) (mg : Str → Option Value) (base : Heap) (k : Nat) (f : Addr) (fd : FuncData) (ps : List Str) (sp : Sp) : Prop where
  len : ∀ (vs : List V) (H : Hp) (Q : VK) (E : XK), sp vs H Q E → vs.length = ps.length
  run : ∀ {A : Around} {outer : List Env} {s : Shared} {H : Hp} {args : Args} {us : List Value} {vs : List V} {Q : VK} {E : XK}, RoomG k A → Env0 P w K mg base A outer s H → BindsTo s fd args (ps.zip us) → Vals vs us → sp vs H Q E →
    codeAny (model P w) A (.call (.ref f) args) (CR (L2.CX P w) outer P w H s Q E) s
theorem FnG.ofOk {P : Program} {w : World} {K : PySem.W.Frag} {mg : Str → Option Value} {base : Heap} {k : Nat} {f : Addr} {fd : FuncData} {ps : List Str} {sp : Sp} (F : FnOk P w K mg base (L2.CX P w) k f fd ps sp) : FnG P w K mg base k f fd ps sp :=
  ⟨F.len, fun r e b v h => F.run _ _ _ _ _ _ _ _ _ r.rm e b v h⟩
theorem FnG.weak {P : Program} {w : World} {K : PySem.W.Frag} {mg : Str → Option Value} {base : Heap} {k : Nat} {f : Addr} {fd : FuncData} {ps : List Str} {sp sp' : Sp} (F : FnG P w K mg base k f fd ps sp) (h : ∀ vs H Q E, sp' vs H Q E → sp vs H Q E) : FnG P w K mg base k f fd ps sp' :=
  ⟨fun vs H Q E q => F.len vs H Q E (h _ _ _ _ q), fun r e b v q => F.run r e b v (h _ _ _ _ q)⟩
/-- behind the body: what a def's call gives back -/
theorem back_of {P : Program} {w : World} {K : PySem.W.Frag} {mg : Str → Option Value} {base : Heap} {N : List Str} {qual : Str} {sc : Scope} {f : Addr} {cd : Value} {A : Around} {outer : List Env} {s s2 : Shared} {H : Hp} {E : XK} {Q : VK} {fl : Flow}
    (h : SP (cxOf (L2.CX P w) P w K mg base N qual sc f cd A outer s H E) [] { nx := fun _ H' => Q .non H', rt := Q } fl s2) : ∃ u, (fl = .ret u ∨ (fl = .next ∧ u = .none)) ∧ CE outer P w H s Q u s2 := by
  cases fl with
  | next => obtain ⟨σ, H', J, q⟩ := h; exact ⟨.none, .inr ⟨rfl, rfl⟩, .non, H', J.os, J.bare, J.base, J.hok, rfl, q⟩
  | ret u => obtain ⟨v, σ, H', J, r, q⟩ := h; exact ⟨u, .inl rfl, v, H', J.os, J.bare, J.base, J.hok, r, q⟩
  | brk => obtain ⟨_, _, _, q⟩ := h; exact q.elim
  | cont => obtain ⟨_, _, _, q⟩ := h; exact q.elim
/-- a def by its body's term -/
theorem fng {P : Program} {w : World} {K : PySem.W.Frag} {mg : Str → Option Value} {base : Heap} {x qual : Str} {st : Stmt} {f : Addr} {fd : FuncData} {N ps : List Str} {k : Nat} {sp : Sp} (F : Fun K x qual st f fd) (S : FnScope N ps (defScope st)) (len : ∀ vs H Q E, sp vs H Q E → vs.length = ps.length)
    (hb : ∀ (cdv : Value) (A : Around) (outer : List Env) (s : Shared) (H : Hp) (vs : List V) (Q : VK) (E : XK), RoomG k (A.deeper (envOfC qual (defScope st) s.heap.objs.size f cdv)) → sp vs H Q E →
      ∃ t, PSs (cxOf (L2.CX P w) P w K mg base N qual (defScope st) f cdv A outer s H E) (defBody st) t ∧ t { nx := fun _ H' => Q .non H', rt := Q } (L2.start N vs) H) : FnG P w K mg base (k + 1) f fd ps sp := by
  obtain ⟨oc, od, kV, doc, pm, an, cdv, ct, osl, e, lk, hcd⟩ := F.ex
  subst e
  refine ⟨len, fun {A outer s H args us vs Q E} hr e0 hbind r hsp => ?_⟩
  have inK : K.In s.heap := e0.mod.kin.keeps fun b o z => (e0.bs b o z).1
  refine codeAny_call_function hr.rm.depth (inK _ _ lk) rfl S.co S.gen rfl (PySem.W.codeRec_of inK hcd) (hbind _ _ _ _ (wpAny_newFunctionEnv_cells S.kind (fun y hy => ?_) fun env he s1 new => ?_))
  · rcases S.par y.1 (List.of_mem_zip hy).1 with q | q
    · exact .inl q
    · exact Or.inr ⟨q, PySem.W.cellsFrom_some _ _ _ (Or.inl q)⟩
  · subst he
    obtain ⟨t, ht, hq⟩ := hb cdv A outer s H vs Q E (hr.into _) hsp
    refine ⟨(e0.mod.nolimit.keeps fun b o z => (e0.bs b o z).1).keeps new.toInCall.keep, codeAny_func (wpAny_mono (ht.run [] s1 (L2.start N vs) H _ (inv_start S hr.rm.hd e0 (len _ _ _ _ hsp) r new) hq) (fun fl s2 hs => ?_) fun e s2 z => z)⟩
    obtain ⟨u, hu, c⟩ := back_of hs
    rcases hu with rfl | ⟨rfl, rfl⟩ <;> exact c
/-! ### calls of defs and methods, what they may raise wished for at the caller's slots -/
abbrev Arg1 (X : Cx) (e : Expr) (es : List Expr) : Prop := starEach (e :: es) X.env = (false, eval e X.env) :: starEach es X.env
abbrev NoSt (X : Cx) (pos : Pos) (es : List Expr) : Prop := (backTo pos (starEach es X.env)).any (·.1) = false
abbrev MethEq (X : Cx) (o : Expr) (m : Str) (apos pos : Pos) (es : List Expr) (pl : Sem Bool) : Prop :=
  eval (.Call (.Attribute o m apos) es [] pos) X.env = (do let ov ← eval o X.env; standAt apos.atName; let (f, first) ← holding [ov] (getMethod ov m pl); callWith pos f first (backTo pos (starEach es X.env)) (backToKw pos (keywordEach [] X.env)))
section
variable {X : Cx} {k : Nat} {f C : Addr} {fd : FuncData} {ps : List Str} {sp : Sp} {E : L2.St → XK} {x m : Str} {p pos apos : Pos} {e o : Expr} {es : List Expr} {ta : TE} {t : TA}
/-- what a call of f may end in -/
theorem ran {pins : List (Addr × Obj)} {σ : L2.St} {H : Hp} {s : Shared} {Q : VK} {us : List Value} {vs : List V} (F : FnG X.prog X.w X.K X.mg X.base k f fd ps sp) (hr : RoomG k X.A) (hb : Binds X.K fd ps []) (hx : PassesAt (L2.CX X.prog X.w) X σ (E σ))
    (I : Inv X pins σ H s) (r : Vals vs us) (h : sp vs H Q (E σ)) :
    wpAny (model X.prog X.w) X.A
      (call (.ref f) us) (EP X pins σ Q) X.xe s := by
  have b := hb s us I.kIn (by rw [List.append_nil, ← r.length]; exact F.len _ _ _ _ h)
  rw [List.append_nil] at b
  refine wpAny_call (codeAny_mono (F.run hr I.env0 b r h) ?_)
  rintro (er | fl) s2 hq
  · exact hx pins H s er s2 I hq
  · cases fl with
    | ret u => exact I.after hq
    | _ => exact hq.elim
theorem peg_call (F : FnG X.prog X.w X.K X.mg X.base k f fd ps sp) (hr : RoomG k X.A) (hg : Gl X x) (hm : X.mg x = some (.ref f)) (hk : PySem.W.keepIn X.K (.ref f) = true) (hb : Binds X.K fd ps []) (hx : ∀ σ, PassesAt (L2.CX X.prog X.w) X σ (E σ))
    (ha : PA X (e :: es) t) (hdb : (x == ("__debug__" : Str)) = false) (he : Arg1 X e es) (hpl : NoSt X pos es) : PE X (.Call (.Name x p) (e :: es) [] pos) (tCallS sp E t) :=
  ⟨fun pins s σ H Q I h => wpAny_Call_Name_kw (ld_glob I hg hm (PySem.W.callWith_K (h₀ := X.base) I.ok.mod.kin hk (thn (ha.run pos pins s σ H _ I h) fun _ _ ⟨_, _, J, r, q⟩ => ⟨J.kIn, ran F hr hb (hx σ) J r q⟩) he hpl) hdb)⟩
theorem peg_call0 (F : FnG X.prog X.w X.K X.mg X.base k f fd ps sp) (hr : RoomG k X.A) (hg : Gl X x) (hm : X.mg x = some (.ref f)) (hk : PySem.W.keepIn X.K (.ref f) = true) (hb : Binds X.K fd ps []) (hx : ∀ σ, PassesAt (L2.CX X.prog X.w) X σ (E σ))
    (hdb : (x == ("__debug__" : Str)) = false) : PE X (.Call (.Name x p) [] [] pos) (tCallS sp E tNil) :=
  ⟨fun pins s σ H Q I h => wpAny_Call_Name_kw (ld_glob I hg hm (PySem.W.callWith_K0 I.kIn hk (ran (us := []) F hr hb (hx σ) I .nil h)) hdb)⟩
def tMethS (C : Addr) (m : Str) (sp : Sp) (E : L2.St → XK) (ta : TE) (t : TA) : TE := fun σ H Q => ta σ H fun x H1 => ∃ a dx fs, x = .ref a ∧ H1 a = some (.ins C dx fs) ∧ fs.lookup m = none ∧
  t σ H1 fun vs H2 => sp (x :: vs) H2 Q (E σ)
theorem peg_meth {pl : Sem Bool} (he : PE X o ta) (c : Cls X.K C) (hm : Meth X.K C m f) (F : FnG X.prog X.w X.K X.mg X.base k f fd ps sp) (hr : RoomG k X.A) (hb : Binds X.K fd ps []) (hx : ∀ σ, PassesAt (L2.CX X.prog X.w) X σ (E σ)) (ha : PA X (e :: es) t)
    (hst : Arg1 X e es) (hpl : NoSt X pos es) (ht : MethEq X o m apos pos (e :: es) pl) : PE X (.Call (.Attribute o m apos) (e :: es) [] pos) (tMethS C m sp E ta t) :=
  ⟨fun pins s σ H Q I h => PySem.W.methodCall_KW (pl := pl) (thn (he.run pins s σ H _ I h) fun u s1 ⟨y, H1, J, ry, a, dx, fs, ey, ea, l, q⟩ => by
    subst ey
    cases ry
    exact getmeth_ok J ea c hm l (PySem.W.callWith_K (first := [.ref a]) (h₀ := X.base) J.ok.mod.kin hm.kp (thn (ha.run pos pins s1 σ H1 _ J q) fun us _ ⟨vs, _, J2, r, q2⟩ => ⟨J2.kIn, ran (us := .ref a :: us) (vs := .ref a :: vs) F hr hb (hx σ) J2 (.cons rfl r) q2⟩) hst hpl)) ht⟩
theorem peg_meth0 {pl : Sem Bool} (he : PE X o ta) (c : Cls X.K C) (hm : Meth X.K C m f) (F : FnG X.prog X.w X.K X.mg X.base k f fd ps sp) (hr : RoomG k X.A) (hb : Binds X.K fd ps []) (hx : ∀ σ, PassesAt (L2.CX X.prog X.w) X σ (E σ)) (ht : MethEq X o m apos pos [] pl) :
    PE X (.Call (.Attribute o m apos) [] [] pos) (tMethS C m sp E ta tNil) :=
  ⟨fun pins s σ H Q I h => PySem.W.methodCall_KW (pl := pl) (thn (he.run pins s σ H _ I h) fun u s1 ⟨y, H1, J, ry, a, dx, fs, ey, ea, l, q⟩ => by
    subst ey
    cases ry
    exact getmeth_ok J ea c hm l (PySem.W.callWith_K0 (first := [.ref a]) J.kIn hm.kp (ran (us := [.ref a]) (vs := [.ref a]) F hr hb (hx σ) J (.cons rfl .nil) q))) ht⟩
def tMakeS (C : Addr) (sp : Sp) (E : L2.St → XK) (t : TA) : TE := fun σ H Q => t σ H fun vs H1 => ∀ x dx, H1 x = none → H1 dx = none → dx ≠ x →
  sp (.ref x :: vs) (upd (upd H1 dx (.own x)) x (.ins C dx [])) (fun v H2 => v = .non ∧ Q (.ref x) H2) (E σ)
theorem peg_make (M : Mk X.K C f) (F : FnG X.prog X.w X.K X.mg X.base k f fd ps sp) (hr : RoomG (k + 1) X.A) (hg : Gl X x) (hm : X.mg x = some (.ref C)) (hb : Binds X.K fd ps []) (hx : ∀ σ, PassesAt (L2.CX X.prog X.w) X σ (E σ))
    (ha : PA X (e :: es) t) (hdb : (x == ("__debug__" : Str)) = false) (he : Arg1 X e es) (hpl : NoSt X pos es) : PE X (.Call (.Name x p) (e :: es) [] pos) (tMakeS C sp E t) :=
  ⟨fun pins s σ H Q I h => wpAny_Call_Name_kw (ld_glob I hg hm (PySem.W.callWith_K (h₀ := X.base) I.ok.mod.kin M.kp (thn (ha.run pos pins s σ H _ I h) fun us s1 ⟨vs, H1, J, r, q⟩ => ⟨J.kIn, by
    generalize hn : s1.heap.objs.size = n
    have q1 := q (n + 1) n (hn ▸ J.hok.fresh (Nat.le_succ _)) (hn ▸ J.hok.fresh (Nat.le_refl _)) (Nat.ne_of_lt (Nat.lt_succ_self _))
    subst hn
    have J2 := Inv.made (C := C) J
    have rs : Vals (V.ref (s1.heap.objs.size + 1) :: vs) (Value.ref (s1.heap.objs.size + 1) :: us) := .cons rfl r
    have b := hb _ (Value.ref (s1.heap.objs.size + 1) :: us) J2.kIn (by rw [List.append_nil, ← rs.length]; exact F.len _ _ _ _ q1)
    rw [List.append_nil] at b
    refine wpAny_call (make_map (f := f) J.kIn M.makes M.init (beq_iff_eq.mp M.fn) (codeAny_mono (F.run (hr.making C us) (J2.env0.make C us []) b rs q1) ?_))
    rintro (er | fl) s2 hq
    · exact hx σ pins _ _ er s2 J2 hq
    · cases fl with
      | ret u =>
        obtain ⟨v, H3, J3, rv, ev, q3⟩ := J2.after hq
        subst ev
        exact ⟨rv, .ref (s1.heap.objs.size + 1), H3, J3, rfl, q3⟩
      | _ => exact hq.elim⟩) he hpl) hdb)⟩
end

/-! ### a def's promise -/
abbrev Mf := List Da → Store → Res Da
def spM (G : Gc) (n : Nat) (m : Mf) : Sp := fun vs H Q E => vs.length = n ∧ ∃ W S ds, SR G W H S ∧ Reps G W ds vs ∧ Aft (RV G) G (fun cls dx _ H => E cls dx H) [] W H (m ds S) Q
def RS.res : RS → Res Da
  | .rt d S => .ok d S
  | .nx _ S => .ok .non S
  | .exc c d _ S => .exc c d S
  | _ => .bad
def defM (N : Nat) (body : MS) : Mf := fun ds S => (body (ds.map some ++ List.replicate (N - ds.length) none) S).res
theorem repE_start {G : Gc} {W : Wd} {N : List Str} {vs : List V} {ds : List Da} (h : Reps G W ds vs) : RepE G W (L2.start N vs) (ds.map some ++ List.replicate (N.length - ds.length) none) := by
  have hl := h.length
  unfold L2.start
  refine ⟨by simp [hl], fun i d e => ?_⟩
  by_cases hi : i < ds.length
  · rw [List.getElem?_append_left (by simpa using hi), List.getElem?_map] at e
    rw [List.getElem?_append_left (by simp; omega), List.getElem?_map]
    cases q : ds[i]? with
    | none => simp [q] at e
    | some d' =>
      rw [q] at e; cases e
      obtain ⟨v, hv, r⟩ := h.get q
      exact ⟨v, by rw [hv]; rfl, r⟩
  · rw [List.getElem?_append_right (by simpa using hi), List.getElem?_replicate] at e
    split at e <;> cases e
theorem def_fin {G : Gc} {N : List Str} {n : Nat} {body : MS} {vs : List V} {H : Hp} {Q : VK} {E : XK} (h : spM G n (defM N.length body) vs H Q E) : tS G (fun cls dx _ H => E cls dx H) body { nx := fun _ H' => Q .non H', rt := Q } (L2.start N vs) H := by
  obtain ⟨_, W, S, ds, s, r, q⟩ := h
  refine ⟨W, S, _, s, repE_start r, ?_⟩
  unfold defM at q
  revert q
  cases body (ds.map some ++ List.replicate (N.length - ds.length) none) S with
  | nx ρ S1 => exact fun q σ W' H' x s r => q .non W' H' x s (by simp [Rep])
  | rt d S1 => exact fun q => q
  | bk ρ S1 => exact fun q => q.elim
  | ct ρ S1 => exact fun q => q.elim
  | exc c d ρ S1 => exact fun q cls dx σ W' H' x s r => q cls dx W' H' x s
  | bad => exact fun q => q
section
variable {P : Program} {w : World} {K : PySem.W.Frag} {mg : Str → Option Value} {base : Heap} {G : Gc}
/-- a def of the text keeps its promise, by its body's term -/
theorem def_ok {x qual : Str} {st : Stmt} {f : Addr} {fd : FuncData} {N ps : List Str} {k n : Nat} {body : MS} (F : Fun K x qual st f fd) (S : FnScope N ps (defScope st)) (hn : ps.length = n)
    (hb : ∀ (cdv : Value) (A : Around) (outer : List Env) (s : Shared) (H : Hp) (E : XK), RoomG k (A.deeper (envOfC qual (defScope st) s.heap.objs.size f cdv)) →
      PSs (cxOf (L2.CX P w) P w K mg base N qual (defScope st) f cdv A outer s H E) (defBody st) (tS G (fun cls dx _ H => E cls dx H) body)) : FnG P w K mg base (k + 1) f fd ps (spM G n (defM N.length body)) :=
  fng F S (fun vs H Q E h => by rw [hn]; exact h.1) fun cdv A outer s H vs Q E hr h => ⟨_, hb cdv A outer s H E hr, def_fin h⟩
end

/-! ### calls -/
def callF (n : Nat) (m : Mf) (t : M (List Da)) : M Da := fun ρ S => (t ρ S).bind fun ds S1 => if ds.length = n then m ds S1 else .bad
def callF0 (m : Mf) : M Da := fun _ S => m [] S
theorem Aft.fn {α β : Type} {R : Wd → α → β → Prop} {G : Gc} {Wx : WX} {σ : L2.St} {W : Wd} {H : Hp} {r : Res α} {Q : β → Hp → Prop} (h : Aft R G Wx σ W H r Q) : Aft R G (fun cls dx _ H => WE Wx σ cls dx H) [] W H r Q := by
  cases r with
  | ok a S => exact h
  | exc c d S => exact h
  | bad => exact h
section
variable {X : Cx} {G : Gc} {Wx : WX} {k n : Nat} {f : Addr} {fd : FuncData} {ps : List Str} {x m c : Str} {p pos apos : Pos} {e o : Expr} {es : List Expr} {fo : M Da} {t : M (List Da)} {mf : Mf}
theorem pd_call (F : FnG X.prog X.w X.K X.mg X.base k f fd ps (spM G n mf)) (hr : RoomG k X.A) (tk : Takes X Wx) (hm : X.mg x = some (.ref f)) (hk : PySem.W.keepIn X.K (.ref f) = true) (hb : Binds X.K fd ps [])
    (ha : PA X (e :: es) (tMs G Wx t)) (hg : Gl X x := by rfl) (hdb : (x == ("__debug__" : Str)) = false := by decide) (he : Arg1 X e es := by rfl) (hpl : NoSt X pos es := by rfl) :
    PE X (.Call (.Name x p) (e :: es) [] pos) (tM G Wx (callF n mf t)) :=
  (peg_call (E := WE Wx) F hr hg hm hk hb (fun σ => passAt tk σ) ha hdb he hpl).imp fun σ H Q ⟨W, S, ρ, s, r, q⟩ => ⟨W, S, ρ, s, r, q.bind fun ds S1 vs W1 H1 x1 s1 q1 k1 => by
    by_cases hl : ds.length = n
    · rw [if_pos hl] at k1
      exact ⟨by rw [← q1.length, hl], W1, S1, ds, s1, q1, k1.fn⟩
    · rw [if_neg hl] at k1; exact k1.elim⟩
theorem pd_call0 (F : FnG X.prog X.w X.K X.mg X.base k f fd ps (spM G 0 mf)) (hr : RoomG k X.A) (tk : Takes X Wx) (hm : X.mg x = some (.ref f)) (hk : PySem.W.keepIn X.K (.ref f) = true) (hb : Binds X.K fd ps [])
    (hg : Gl X x := by rfl) (hdb : (x == ("__debug__" : Str)) = false := by decide) : PE X (.Call (.Name x p) [] [] pos) (tM G Wx (callF0 mf)) :=
  (peg_call0 (E := WE Wx) F hr hg hm hk hb (fun σ => passAt tk σ) hdb).imp fun σ H Q ⟨W, S, ρ, s, r, q⟩ => ⟨rfl, W, S, [], s, .nil, q.fn⟩
/-- an object of the class c at the cell j -/
def objAt (S : Store) (c : Str) : Da → Option (Nat × List (Str × Da))
  | .cell j => match S[j]? with
    | some (.obj c' fs) => if c' = c then some (j, fs) else none
    | _ => none
  | _ => none
theorem objAt_some {S : Store} {d : Da} {j : Nat} {fs : List (Str × Da)} (h : objAt S c d = some (j, fs)) : d = .cell j ∧ S[j]? = some (.obj c fs) := by
  unfold objAt at h
  split at h
  · rename_i i
    split at h
    · rename_i c' fs' e
      split at h
      · rename_i hc
        cases h
        exact ⟨rfl, by rw [e, hc]⟩
      · cases h
    · cases h
  · cases h
theorem SR.obj {W : Wd} {H : Hp} {S : Store} {d : Da} {v : V} {j : Nat} {fs : List (Str × Da)} (s : SR G W H S) (r : Rep G W d v) (h : objAt S c d = some (j, fs)) :
    ∃ a dx vs, v = .ref a ∧ W.ι[j]? = some a ∧ H a = some (.ins (G.cls c) dx vs) ∧ RepF G W fs vs := by
  obtain ⟨rfl, e⟩ := objAt_some h
  obtain ⟨a, ha, rfl⟩ := r.cell_inv
  obtain ⟨b, hb, dx, vs, q1, q2⟩ := s.cell j _ e
  rw [ha] at hb; cases hb
  exact ⟨a, dx, vs, rfl, ha, q1, q2⟩
def methF (c m : Str) (n : Nat) (mf : Mf) (fo : M Da) (t : M (List Da)) : M Da := fun ρ S => (fo ρ S).bind fun d S1 => match objAt S1 c d with
  | some (_, fs) => match fs.lookup m with
    | none => (t ρ S1).bind fun ds S2 => if (d :: ds).length = n then mf (d :: ds) S2 else .bad
    | some _ => .bad
  | none => .bad
theorem meth_imp {f0 : M Da} {E : L2.St → XK} {σ : L2.St} {H : Hp} {Q : VK} (k : tM G Wx (methF c m n mf fo t) σ H Q) : tMethS (G.cls c) m (spM G n mf) (WE Wx) (tM G Wx fo) (tMs G Wx t) σ H Q := by
  obtain ⟨W, S, ρ, s, r, q⟩ := k
  refine ⟨W, S, ρ, s, r, q.bind fun d S1 v W1 H1 x1 s1 q1 k1 => ?_⟩
  cases ho : objAt S1 c d with
  | none => simp only [ho] at k1; exact k1.elim
  | some jf =>
    obtain ⟨j, fs⟩ := jf
    simp only [ho] at k1
    cases hl : fs.lookup m with
    | some _ => simp only [hl] at k1; exact k1.elim
    | none =>
      simp only [hl] at k1
      obtain ⟨a, dx, vs, rfl, ha, h1, h2⟩ := s1.obj q1 ho
      refine ⟨a, dx, vs, rfl, h1, h2.lookup_none hl, W1, S1, ρ, s1, r.mono x1.le, k1.bind fun ds S2 us W2 H2 x2 s2 q2 k2 => ?_⟩
      by_cases hn : (d :: ds).length = n
      · rw [if_pos hn] at k2
        exact ⟨by rw [← hn]; simp [q2.length], W2, S2, d :: ds, s2, .cons (q1.mono x2.le) q2, k2.fn⟩
      · rw [if_neg hn] at k2; exact k2.elim
theorem pd_meth {pl : Sem Bool} (he : PE X o (tM G Wx fo)) (cl : Cls X.K (G.cls c)) (hm : Meth X.K (G.cls c) m f) (F : FnG X.prog X.w X.K X.mg X.base k f fd ps (spM G n mf)) (hr : RoomG k X.A) (tk : Takes X Wx) (hb : Binds X.K fd ps []) (ha : PA X (e :: es) (tMs G Wx t))
    (hst : Arg1 X e es := by rfl) (hpl : NoSt X pos es := by rfl)
    (ht : MethEq X o m apos pos (e :: es) pl := by rfl) :
    PE X (.Call (.Attribute o m apos) (e :: es) [] pos) (tM G Wx (methF c m n mf fo t)) :=
  (peg_meth (E := WE Wx) he cl hm F hr hb (fun σ => passAt tk σ) ha hst hpl ht).imp fun _ _ _ k => meth_imp (f0 := fo) (E := WE Wx) k
theorem pd_meth0 {pl : Sem Bool} (he : PE X o (tM G Wx fo)) (cl : Cls X.K (G.cls c)) (hm : Meth X.K (G.cls c) m f) (F : FnG X.prog X.w X.K X.mg X.base k f fd ps (spM G n mf)) (hr : RoomG k X.A) (tk : Takes X Wx) (hb : Binds X.K fd ps [])
    (ht : MethEq X o m apos pos [] pl := by rfl) :
    PE X (.Call (.Attribute o m apos) [] [] pos) (tM G Wx (methF c m n mf fo nilM)) :=
  (peg_meth0 (E := WE Wx) he cl hm F hr hb (fun σ => passAt tk σ) ht).imp fun σ H Q k => by
    obtain ⟨W, S, ρ, s, r, q⟩ := meth_imp (f0 := fo) (E := WE Wx) k
    refine ⟨W, S, ρ, s, r, q.mono fun v H1 ⟨a, dx, fs, h1, h2, h3, h4⟩ => ⟨a, dx, fs, h1, h2, h3, ?_⟩⟩
    obtain ⟨W1, S1, ρ1, s1, r1, q1⟩ := h4
    exact q1.here s1 .nil
/-- a new object -/
def makeF (c : Str) (n : Nat) (mf : Mf) (t : M (List Da)) : M Da := fun ρ S => (t ρ S).bind fun ds S1 => if ds.length + 1 = n then (mf (.cell S1.length :: ds) (S1 ++ [.obj c []])).bind fun r S2 => match r with
    | .non => .ok (.cell S1.length) S2
    | _ => .bad
  else .bad
theorem pd_make (M : Mk X.K (G.cls c) f) (F : FnG X.prog X.w X.K X.mg X.base k f fd ps (spM G n mf)) (hr : RoomG (k + 1) X.A) (tk : Takes X Wx) (hm : X.mg x = some (.ref (G.cls c))) (hb : Binds X.K fd ps [])
    (ha : PA X (e :: es) (tMs G Wx t)) (hg : Gl X x := by rfl) (hdb : (x == ("__debug__" : Str)) = false := by decide) (he : Arg1 X e es := by rfl) (hpl : NoSt X pos es := by rfl) :
    PE X (.Call (.Name x p) (e :: es) [] pos) (tM G Wx (makeF c n mf t)) :=
  (peg_make (E := WE Wx) M F hr hg hm hb (fun σ => passAt tk σ) ha hdb he hpl).imp fun σ H Q ⟨W, S, ρ, s, r, q⟩ => ⟨W, S, ρ, s, r, q.bind fun ds S1 vs W1 H1 x1 s1 q1 k1 => by
    intro x dx hx hd hne
    by_cases hl : ds.length + 1 = n
    · rw [if_pos hl] at k1
      obtain ⟨y1, t1⟩ := Ext.add s1 (o := .own x) hd
      have hx2 : upd H1 dx (.own x) x = none := by rw [upd_ne (Ne.symm hne)]; exact hx
      obtain ⟨y2, t2⟩ := Ext.add t1 (o := .ins (G.cls c) dx []) hx2
      obtain ⟨y3, t3⟩ := Ext.cel (c := .obj c []) t2 (y1.trans y2) hx ⟨dx, [], upd_same, .nil⟩ (t1.notin hx2) (t1.Fnone hx2)
      have hcell : Rep G (W1.cel x) (.cell S1.length) (.ref x) := by
        rw [Rep]
        refine ⟨x, ?_, rfl⟩
        show (W1.ι ++ [x])[S1.length]? = some x
        rw [← s1.len, List.getElem?_append_right (Nat.le_refl _), Nat.sub_self]; rfl
      refine ⟨by rw [← hl]; simp [q1.length], W1.cel x, _, .cell S1.length :: ds, t3, .cons hcell (q1.mono y3.le), ?_⟩
      have k2 := k1.later y3
      refine (Aft.bind (R := RV G) k2 fun r S2 v W2 H2 x2 s2 q2 k3 => ?_).fn
      cases r with
      | non => exact ⟨q2.non_inv, k3.here s2 (hcell.mono x2.le)⟩
      | _ => exact k3.elim
    · rw [if_neg hl] at k1; exact k1.elim⟩

/-! ### fields -/
def fldM (c f : Str) (fo : M Da) : M Da := fun ρ S => (fo ρ S).bind fun d S1 => match objAt S1 c d with
  | some (_, fs) => ofO (fs.lookup f) S1
  | none => .bad
theorem pd_fld {f : Str} (he : PE X e (tM G Wx fo)) (cl : Cls X.K (G.cls c)) (hn : NoAttr X.K (G.cls c) f) (hb : attributeBase e f X.env (eval e X.env) = eval e X.env := by rfl) : PE X (.Attribute e f pos) (tM G Wx (fldM c f fo)) :=
  (pe_fld he hb).imp fun σ H Q ⟨W, S, ρ, s, r, q⟩ => ⟨W, S, ρ, s, r, q.bind fun d S1 v W1 H1 x1 s1 q1 k1 => by
    cases ho : objAt S1 c d with
    | none => simp only [ho] at k1; exact k1.elim
    | some jf =>
      obtain ⟨j, fs⟩ := jf
      simp only [ho] at k1
      obtain ⟨a, dx, vs, rfl, ha, h1, h2⟩ := s1.obj q1 ho
      cases hl : fs.lookup f with
      | none => rw [hl] at k1; exact k1.elim
      | some d' =>
        rw [hl] at k1
        obtain ⟨v', hv, rv⟩ := h2.lookup hl
        exact ⟨a, _, dx, vs, v', rfl, h1, cl, hn, hv, k1.here s1 rv⟩⟩
def setFS (c f : Str) (fo fe : M Da) : MS := fun ρ S => (fe ρ S).thenS ρ fun y S1 => (fo ρ S1).thenS ρ fun d S2 => match objAt S2 c d with
  | some (j, fs) => if fs.length < 1000 then .nx ρ (S2.set j (.obj c (putD f y fs))) else .bad
  | none => .bad
theorem psd_fld {f : Str} {fe : M Da} {value : Expr} {pos' : Pos} (he : PE X o (tM G Wx fo)) (hv : PE X value (tM G Wx fe)) (cl : Cls X.K (G.cls c)) (hn : NoAttr X.K (G.cls c) f) (hs : swapsWith value (some (.Attribute o f pos')) pos.line X.env = pure false := by rfl) :
    PS X (.Assign [.Attribute o f pos'] value pos) (tS G Wx (setFS c f fo fe)) :=
  (ps_fld he hv hs).imp fun D σ H ⟨W, S, ρ, s, r, q⟩ => ⟨W, S, ρ, s, r, q.bind r fun y S1 v W1 H1 x1 s1 q1 k1 => ⟨W1, S1, ρ, s1, r.mono x1.le, k1.bind (r.mono x1.le) fun d S2 v2 W2 H2 x2 s2 q2 k2 => by
    cases ho : objAt S2 c d with
    | none => simp only [ho] at k2; exact k2.elim
    | some jf =>
      obtain ⟨j, fs⟩ := jf
      simp only [ho] at k2
      obtain ⟨a, dx, vs, rfl, ha, h1, h2⟩ := s2.obj q2 ho
      by_cases hl : fs.length < 1000
      · rw [if_pos hl] at k2
        obtain ⟨s3, x3⟩ := s2.write (c := .obj c (putD f y fs)) ha ⟨dx, _, upd_same, h2.put (q1.mono x2.le)⟩
        exact ⟨a, _, dx, vs, rfl, h1, cl, hn, by rw [← h2.length]; exact hl, k2 σ _ _ x3 s3 (r.mono (x1.le.trans x2.le))⟩
      · rw [if_neg hl] at k2; exact k2.elim⟩⟩
end
end NL

set_option Elab.async false
set_option linter.all false
set_option maxRecDepth 100000
set_option maxHeartbeats 4100000
namespace NL
open PySem PySem.Spec PyProof.Rows L2

/-! ### operators on data -/
section
variable {X : Cx} {G : Gc} {Wx : WX}
def ii (k : Int → Int → Option Da) : Da → Da → Store → Option Da
  | .int i, .int j, _ => k i j
  | _, _, _ => none
theorem ii_imp {C : Int → Int → Prop} [∀ i j, Decidable (C i j)] {g : Int → Int → V} {gd : Int → Int → Da} (hg : ∀ W i j, Rep G W (gd i j) (g i j)) {x y : V} {H : Hp} {Q : VK} (h : rd2 G (ii fun i j => if C i j then some (gd i j) else none) x y H Q) : rI C g x y H Q := by
  obtain ⟨W, S, a, b, s, r1, r2, q⟩ := h
  unfold ii at q
  split at q
  · rename_i i j
    dsimp only at q
    by_cases c : C i j
    · rw [if_pos c] at q
      exact ⟨i, j, r1.int_inv, r2.int_inv, c, q.here s (hg W i j)⟩
    · rw [if_neg c] at q; exact q.elim
  · exact q.elim
theorem ii0_imp {g : Int → Int → V} {gd : Int → Int → Da} (hg : ∀ W i j, Rep G W (gd i j) (g i j)) {x y : V} {H : Hp} {Q : VK} (h : rd2 G (ii fun i j => some (gd i j)) x y H Q) : rI0 g x y H Q := by
  obtain ⟨W, S, a, b, s, r1, r2, q⟩ := h
  unfold ii at q
  split at q
  · rename_i i j
    exact ⟨i, j, r1.int_inv, r2.int_inv, q.here s (hg W i j)⟩
  · exact q.elim
theorem _root_.L2.OpR.imp {f : Value → Value → Sem Value} {r r' : R2} (h : OpR X f r) (k : ∀ x y H Q, r' x y H Q → r x y H Q) : OpR X f r' := fun pins s σ H x y v u Q I rx ry q => h pins s σ H x y v u Q I rx ry (k x y H Q q)
theorem _root_.L2.CallR.imp {f : Value} {r r' : List V → Hp → VK → Prop} (h : CallR X f r) (k : ∀ xs H Q, r' xs H Q → r xs H Q) : CallR X f r' := fun pins s σ H xs us Q I rx q => h pins s σ H xs us Q I rx (k xs H Q q)
theorem _root_.L2.IxR.imp {r r' : R2} (h : IxR X r) (k : ∀ x y H Q, r' x y H Q → r x y H Q) : IxR X r' := fun va sl pins s σ H x y v u Q I rx ry q e => h va sl pins s σ H x y v u Q I rx ry (k x y H Q q) e
theorem _root_.L2.SlR.imp {r r' : V → Option Int → Option Int → Hp → VK → Prop} (h : SlR X r) (k : ∀ x lo hi H Q, r' x lo hi H Q → r x lo hi H Q) : SlR X r' := fun pins s σ H x v vl vu lo hi sl Q I rx hs pl pu q => h pins s σ H x v vl vu lo hi sl Q I rx hs pl pu (k _ _ _ _ _ q)
theorem repI (W : Wd) (i : Int) : Rep G W (.int i) (.int i) := by simp [Rep]
theorem repB (W : Wd) (i : Bool) : Rep G W (.bl i) (.bl i) := by simp [Rep]
theorem repS (W : Wd) (i : Str) : Rep G W (.str i) (.str i) := by simp [Rep]
theorem repN (W : Wd) : Rep G W .non .non := by simp [Rep]
abbrev subD := ii fun i j => some (.int (i - j))
theorem or_sub : OpR X (binaryOp .Sub) (rd2 G subD) := op_sub.imp fun _ _ _ _ h => ii0_imp (fun W i j => repI W _) h
def lim64 : Int := 18446744073709551616
theorem lim64_eq : lim64 = 2 ^ 64 := by decide
abbrev mulD := ii fun i j => if (-lim64 < i ∧ i < lim64) ∨ (-lim64 < j ∧ j < lim64) then some (.int (i * j)) else none
theorem or_mul : OpR X (binaryOp .Mult) (rd2 G mulD) := op_mul.imp fun _ _ _ _ h => by
  have h2 := ii_imp (g := fun i j => V.int (i * j)) (fun W i j => repI W _) h
  obtain ⟨i, j, e1, e2, c, q⟩ := h2
  exact ⟨i, j, e1, e2, by unfold CMul; rw [← lim64_eq]; exact c, q⟩
abbrev fdivD := ii fun i j => if 0 < j ∧ j < 1073741824 then some (.int (i / j)) else none
theorem or_fdiv : OpR X (binaryOp .FloorDiv) (rd2 G fdivD) := op_fdiv.imp fun _ _ _ _ h => by
  have h2 := ii_imp (C := fun i j => 0 < j ∧ j < 1073741824) (g := fun i j => V.int (i / j)) (fun W i j => repI W _) h
  exact h2
abbrev modD := ii fun i j => if 0 < j then some (.int (i % j)) else none
theorem or_mod : OpR X (binaryOp .Mod) (rd2 G modD) := op_mod.imp fun _ _ _ _ h => ii_imp (fun W i j => repI W _) h
abbrev powD := ii fun i j => if 0 ≤ j ∧ j ≤ 1000000 ∧ i.natAbs < 18446744073709551616 then some (.int (i ^ j.toNat)) else none
theorem or_pow : OpR X (binaryOp .Pow) (rd2 G powD) := op_pow.imp fun _ _ _ _ h => by
  have h2 := ii_imp (g := fun i j => V.int (i ^ j.toNat)) (fun W i j => repI W _) h
  obtain ⟨i, j, e1, e2, c, q⟩ := h2
  exact ⟨i, j, e1, e2, ⟨c.1, c.2.1, by have := c.2.2; omega⟩, q⟩
abbrev ltD := ii fun i j => some (.bl (decide (i < j)))
abbrev leD := ii fun i j => some (.bl (decide (i ≤ j)))
abbrev gtD := ii fun i j => some (.bl (decide (j < i)))
abbrev geD := ii fun i j => some (.bl (decide (j ≤ i)))
theorem or_lt : OpR X (compareOp .Lt) (rd2 G ltD) := op_lt.imp fun _ _ _ _ h => ii0_imp (fun W i j => repB W _) h
theorem or_le : OpR X (compareOp .LtE) (rd2 G leD) := op_le.imp fun _ _ _ _ h => ii0_imp (fun W i j => repB W _) h
theorem or_gt : OpR X (compareOp .Gt) (rd2 G gtD) := op_gt.imp fun _ _ _ _ h => ii0_imp (fun W i j => repB W _) h
theorem or_ge : OpR X (compareOp .GtE) (rd2 G geD) := op_ge.imp fun _ _ _ _ h => ii0_imp (fun W i j => repB W _) h

/-! + -/
def addD : Da → Da → Store → Option Da
  | .int i, .int j, _ => some (.int (i + j))
  | .str x, .str y, _ => if x.length + y.length ≤ big then some (.str (x ++ y)) else none
  | .tup l, .tup m, _ => if l.length + m.length ≤ big then some (.tup (l ++ m)) else none
  | _, _, _ => none
theorem or_add (hK : G.K = X.K := by rfl) : OpR X (binaryOp .Add) (rd2 G addD) := by
  intro pins s σ H x y v u Q J rx ry h
  have I := J
  obtain ⟨W, S, a, b, sr, r1, r2, q⟩ := h
  unfold addD at q
  split at q
  · rename_i i j
    exact op_add pins s σ H x y v u Q I rx ry ⟨i, j, r1.int_inv, r2.int_inv, q.here sr (repI W _)⟩
  · rename_i i j
    by_cases c : i.length + j.length ≤ big
    · rw [if_pos c] at q
      exact op_add_str pins s σ H x y v u Q I rx ry ⟨i, j, r1.str_inv, r2.str_inv, by rw [← big_eq]; exact c, q.here sr (repS W _)⟩
    · rw [if_neg c] at q; exact q.elim
  · rename_i l m
    by_cases c : l.length + m.length ≤ big
    · rw [if_pos c] at q
      obtain ⟨a1, vs, rfl, h1, k1⟩ := r1.tup_inv
      obtain ⟨a2, us, rfl, h2, k2⟩ := r2.tup_inv
      rw [hK] at h1 h2
      refine op_catA pins s σ H _ _ v u Q I rx ry ⟨a1, a2, vs, us, rfl, rfl, sr.sqT h1, sr.sqT h2, by rw [← k1.length, ← k2.length, ← big_eq]; exact c, fun e => ?_, fun e e2 => ?_, fun _ _ p hp => q.newT sr (k1.append k2) hp⟩
      · subst e
        have : l = [] := List.length_eq_zero_iff.mp (by rw [k1.length]; rfl)
        subst this
        exact q.here sr r2
      · subst e2
        have : m = [] := List.length_eq_zero_iff.mp (by rw [k2.length]; rfl)
        subst this
        rw [List.append_nil] at q
        exact q.here sr r1
    · rw [if_neg c] at q; exact q.elim
  · exact q.elim

/-! list + list, the answer a new list -/
def catM (f g : M Da) : M (List Da) := fun ρ S => (f ρ S).bind fun a S1 => (g ρ S1).bind fun b S2 => match asL S2 a, asL S2 b with
  | some l, some m => if l.length + m.length ≤ big then .ok (l ++ m) S2 else .bad
  | _, _ => .bad
/-- what a list of either sort is in the heap -/
theorem SR.isL {W : Wd} {H : Hp} {S : Store} {d : Da} {v : V} {l : List Da} (s : SR G W H S) (r : Rep G W d v) (h : asL S d = some l) : ∃ a vs, v = .ref a ∧ SqL G.K H a vs ∧ Reps G W l vs := by
  unfold asL at h
  split at h
  · cases h
    obtain ⟨a, vs, rfl, h1, h2⟩ := r.lst_inv
    exact ⟨a, vs, rfl, s.sqL h1, h2⟩
  · cases h
    obtain ⟨a, vs, rfl, h1, h2⟩ := r.src_inv
    exact ⟨a, vs, rfl, s.sqL h1, h2⟩
  · rename_i j
    split at h
    · rename_i l' e
      cases h
      obtain ⟨a, ha, rfl⟩ := r.cell_inv
      obtain ⟨b, hb, vs, h1, h2⟩ := s.cell j _ e
      rw [ha] at hb; cases hb
      exact ⟨a, vs, rfl, .of h1, h2⟩
    · cases h
  · cases h

/-! comparisons with None -/
def isND : Da → Da → Store → Option Da
  | .non, .non, _ => some (.bl true)
  | _, .non, _ => some (.bl false)
  | _, _, _ => none
def notND : Da → Da → Store → Option Da
  | .non, .non, _ => some (.bl false)
  | _, .non, _ => some (.bl true)
  | _, _, _ => none
theorem Rep.isN {W : Wd} {d : Da} {v : V} (r : Rep G W d v) : (v = .non) ↔ d = .non := by
  cases d with
  | non => simp [r.non_inv]
  | bl b => rw [r.bl_inv]; simp
  | int b => rw [r.int_inv]; simp
  | str b => rw [r.str_inv]; simp
  | tup l => obtain ⟨a, vs, rfl, _⟩ := r.tup_inv; simp
  | lst l => obtain ⟨a, vs, rfl, _⟩ := r.lst_inv; simp
  | cell j => obtain ⟨a, _, rfl⟩ := r.cell_inv; simp
  | exc a dx c d => rw [Rep] at r; rw [r.1]; simp
  | src l => obtain ⟨a, vs, rfl, _⟩ := r.src_inv; simp
theorem or_isN : OpR X (compareOp .Is) (rd2 G isND) := op_isN.imp fun x y H Q ⟨W, S, a, b, sr, r1, r2, q⟩ => by
  have e := r1.isN
  cases b with
  | non =>
    refine ⟨r2.non_inv, ?_⟩
    cases a with
    | non => have e2 : x = V.non := e.mpr rfl; rw [decide_eq_true e2]; exact q.here sr (repB W _)
    | _ => have e2 : ¬ x = V.non := fun z => Da.noConfusion (e.mp z); rw [decide_eq_false e2]; exact q.here sr (repB W _)
  | _ => cases a <;> exact q.elim
theorem or_notN : OpR X (compareOp .IsNot) (rd2 G notND) := op_notN.imp fun x y H Q ⟨W, S, a, b, sr, r1, r2, q⟩ => by
  have e := r1.isN
  cases b with
  | non =>
    refine ⟨r2.non_inv, ?_⟩
    cases a with
    | non => have e2 : x = V.non := e.mpr rfl; rw [decide_eq_true e2]; exact q.here sr (repB W _)
    | _ => have e2 : ¬ x = V.non := fun z => Da.noConfusion (e.mp z); rw [decide_eq_false e2]; exact q.here sr (repB W _)
  | _ => cases a <;> exact q.elim

/-! items -/
def ixD : Da → Da → Store → Option Da := fun a b S => match b with
  | .int i => match a with
    | .tup l => atI l i
    | .str x => if x.length ≤ big then (atI x.cps.toList i).map fun c => .str ⟨#[c]⟩ else none
    | _ => match asL S a with
      | some l => atI l i
      | none => none
  | _ => none
theorem Reps.atI {W : Wd} {l : List Da} {vs : List V} {i : Int} {d : Da} (r : Reps G W l vs) (h : L2.atI l i = some d) : ∃ v, L2.atI vs i = some v ∧ Rep G W d v := by
  have e := r.length
  unfold L2.atI at h ⊢
  rw [← e]
  cases q : ixN l.length i with
  | none => rw [q] at h; cases h
  | some j =>
    rw [q] at h
    exact r.get (i := j) h
theorem ir_ix (hK : G.K = X.K := by rfl) : IxR X (rd2 G ixD) := ix_seq.imp fun x y H Q ⟨W, S, a, b, sr, r1, r2, q⟩ => by
  unfold ixD at q
  split at q
  · rename_i i
    have ey := r2.int_inv
    split at q
    · rename_i l
      obtain ⟨p, vs, rfl, h1, k1⟩ := r1.tup_inv
      rw [hK] at h1
      cases e : L2.atI l i with
      | none => rw [e] at q; exact q.elim
      | some d =>
        rw [e] at q
        obtain ⟨v, hv, rv⟩ := k1.atI e
        exact .inr (.inl ⟨p, vs, i, v, rfl, ey, sr.sqT h1, hv, q.here sr rv⟩)
    · rename_i z
      by_cases c : z.length ≤ big
      · rw [if_pos c] at q
        cases e : L2.atI z.cps.toList i with
        | none => rw [e] at q; exact q.elim
        | some d =>
          rw [e] at q
          exact .inr (.inr ⟨z, i, d, r1.str_inv, ey, by rw [← big_eq]; exact c, e, q.here sr (repS W _)⟩)
      · rw [if_neg c] at q; exact q.elim
    · split at q
      · rename_i l hl
        obtain ⟨p, vs, rfl, h1, k1⟩ := sr.isL r1 hl
        rw [hK] at h1
        cases e : L2.atI l i with
        | none => rw [e] at q; exact q.elim
        | some d =>
          rw [e] at q
          obtain ⟨v, hv, rv⟩ := k1.atI e
          exact .inl ⟨p, vs, i, v, rfl, ey, h1, hv, q.here sr rv⟩
      · exact q.elim
  · exact q.elim

/-! slices -/
def cutD {α : Type} (xs : List α) (lo hi : Option Int) : List α := (xs.drop (HT.sIx xs.length 0 lo)).take (HT.sIx xs.length xs.length hi - HT.sIx xs.length 0 lo)
theorem Reps.cut {W : Wd} {l : List Da} {vs : List V} (r : Reps G W l vs) (lo hi : Option Int) : Reps G W (cutD l lo hi) (cutV vs lo hi) := by
  unfold cutD cutV
  rw [← r.length]
  exact (r.drop _).take _
def partM (f : M Da) : M (Option Int) := fun ρ S => (f ρ S).bind fun d S1 => match d with
  | .int i => .ok (some i) S1
  | _ => .bad
def noPartM : M (Option Int) := fun _ S => .ok none S
def sliceM (op : Da → Option Int → Option Int → Store → Option Da) (f : M Da) (lo hi : M (Option Int)) : M Da := fun ρ S => (f ρ S).bind fun d S1 => (lo ρ S1).bind fun l S2 => (hi ρ S2).bind fun h S3 => ofO (op d l h S3) S3
abbrev ROI : Wd → Option Int → Option Int → Prop := fun _ a b => a = b
abbrev tMo (G : Gc) (Wx : WX) (f : M (Option Int)) : TO := tR ROI G Wx f
theorem _root_.L2.PO.imp {e : Option Expr} {t t' : TO} (h : PO X e t) (k : ∀ σ H Q, t' σ H Q → t σ H Q) : PO X e t' := ⟨fun pins s σ H Q I q => h.run pins s σ H Q I (k σ H Q q)⟩
theorem pod_none : PO X none (tMo G Wx noPartM) := po_none.imp fun σ H Q h => tR_c (R := ROI) (G := G) (Wx := Wx) h fun W => rfl
theorem pod_some {e : Expr} {f : M Da} (he : PE X e (tM G Wx f)) : PO X (some e) (tMo G Wx (partM f)) :=
  (po_some he).imp fun σ H Q ⟨W, S, ρ, s, r, q⟩ => ⟨W, S, ρ, s, r, q.bind fun d S1 v W1 H1 x1 s1 q1 k1 => by
    cases d with
    | int i => exact ⟨i, q1.int_inv, k1.here s1 rfl⟩
    | _ => exact k1.elim⟩
def rdSl (G : Gc) (op : Da → Option Int → Option Int → Store → Option Da) : V → Option Int → Option Int → Hp → VK → Prop := fun x lo hi H Q => ∃ W S a, SR G W H S ∧ Rep G W a x ∧ AftO G W H S (op a lo hi S) Q
theorem pd_slice {e : Expr} {lo hi : Option Expr} {p2 pos : Pos} {op : Da → Option Int → Option Int → Store → Option Da} {f : M Da} {l h : M (Option Int)} (hs : SlR X (rdSl G op)) (he : PE X e (tM G Wx f)) (hl : PO X lo (tMo G Wx l)) (hh : PO X hi (tMo G Wx h)) :
    PE X (.Subscript e (.Slice lo hi none p2) pos) (tM G Wx (sliceM op f l h)) :=
  (pe_slice hs he hl hh).imp fun σ H Q ⟨W, S, ρ, s, r, q⟩ => ⟨W, S, ρ, s, r, q.bind fun d S1 v W1 H1 x1 s1 q1 k1 => ⟨W1, S1, ρ, s1, r.mono x1.le, k1.bind fun a S2 a' W2 H2 x2 s2 q2 k2 => by
    have q2 : a = a' := q2
    subst q2
    exact ⟨W2, S2, ρ, s2, r.mono (x1.le.trans x2.le), k2.bind fun b S3 b' W3 H3 x3 s3 q3 k3 => by
      have q3 : b = b' := q3
      subst q3
      exact ⟨W3, S3, d, s3, q1.mono (x2.le.trans x3.le), k3.toO⟩⟩⟩⟩
def slTD : Da → Option Int → Option Int → Store → Option Da
  | .tup l, lo, hi, _ => some (.tup (cutD l lo hi))
  | _, _, _, _ => none
theorem sr_tup (hK : G.K = X.K := by rfl) : SlR X (rdSl G slTD) := sl_tupA.imp fun x lo hi H Q ⟨W, S, a, sr, r1, q⟩ => by
  cases a with
  | tup l =>
    obtain ⟨p, vs, rfl, h1, k1⟩ := r1.tup_inv
    rw [hK] at h1
    refine ⟨p, vs, rfl, sr.sqT h1, fun e => ?_, fun _ p hp => AftO.newT q sr (k1.cut lo hi) hp⟩
    have el := k1.length
    have e2 : cutD l lo hi = l := by
      unfold cutD
      rw [← el] at e
      rw [e.1, e.2]; simp
    have q : AftO G W H S (some (.tup (cutD l lo hi))) Q := q
    rw [e2] at q
    exact q.here sr r1
  | _ => exact q.elim
def slLD : Da → Option Int → Option Int → Store → Option Da := fun d lo hi S => (asL S d).map fun l => .lst (cutD l lo hi)
theorem sr_lst (hK : G.K = X.K := by rfl) : SlR X (rdSl G slLD) := sl_list.imp fun x lo hi H Q ⟨W, S, a, sr, r1, q⟩ => by
  unfold slLD at q
  cases e : asL S a with
  | none => rw [e] at q; exact q.elim
  | some l =>
    rw [e] at q
    obtain ⟨p, vs, rfl, h1, k1⟩ := sr.isL r1 e
    rw [hK] at h1
    exact ⟨p, vs, rfl, h1, fun p hp => AftO.newL q sr (k1.cut lo hi) hp⟩

/-! built-ins -/
def lenD : List Da → Store → Option Da
  | [.tup l], _ => some (.int l.length)
  | [.str x], _ => if x.length ≤ big then some (.int x.length) else none
  | [d], S => (asL S d).map fun l => .int l.length
  | _, _ => none
theorem Reps.one {W : Wd} {d : Da} {vs : List V} (r : Reps G W [d] vs) : ∃ v, vs = [v] ∧ Rep G W d v := by
  obtain ⟨v, t, rfl, h, k⟩ := r.inv_cons
  rw [k.inv_nil]
  exact ⟨v, rfl, h⟩
theorem Reps.two {W : Wd} {d e : Da} {vs : List V} (r : Reps G W [d, e] vs) : ∃ v u, vs = [v, u] ∧ Rep G W d v ∧ Rep G W e u := by
  obtain ⟨v, t, rfl, h, k⟩ := r.inv_cons
  obtain ⟨u, rfl, h2⟩ := k.one
  exact ⟨v, u, rfl, h, h2⟩
theorem cr_len (hK : G.K = X.K := by rfl) : CallR X (.builtin "len") (rdn G lenD) := (call_len_seq.or call_len_str).imp fun xs H Q ⟨W, S, l, sr, r, q⟩ => by
  unfold lenD at q
  split at q
  · rename_i l
    obtain ⟨v, rfl, r1⟩ := r.one
    obtain ⟨p, vs, rfl, h1, k1⟩ := r1.tup_inv
    rw [hK] at h1
    refine .inl ⟨p, vs, rfl, .inr (sr.sqT h1), ?_⟩
    rw [← k1.length]; exact q.here sr (repI W _)
  · rename_i x
    obtain ⟨v, rfl, r1⟩ := r.one
    by_cases c : x.length ≤ big
    · rw [if_pos c] at q
      exact .inr ⟨x, by rw [r1.str_inv], by rw [← big_eq]; exact c, q.here sr (repI W _)⟩
    · rw [if_neg c] at q; exact q.elim
  · rename_i d _ _
    obtain ⟨v, rfl, r1⟩ := r.one
    cases e : asL S d with
    | none => rw [e] at q; exact q.elim
    | some l =>
      rw [e] at q
      obtain ⟨p, vs, rfl, h1, k1⟩ := sr.isL r1 e
      rw [hK] at h1
      refine .inl ⟨p, vs, rfl, .inl h1, ?_⟩
      rw [← k1.length]; exact q.here sr (repI W _)
  · exact q.elim
def tupleD : List Da → Store → Option Da
  | [.tup l], _ => some (.tup l)
  | [d], S => (asL S d).map fun l => .tup l
  | _, _ => none
theorem cr_tuple (hK : G.K = X.K := by rfl) : CallR X (.type "tuple") (rdn G tupleD) := call_tuple_of.imp fun xs H Q ⟨W, S, l, sr, r, q⟩ => by
  unfold tupleD at q
  split at q
  · rename_i l
    obtain ⟨v, rfl, r1⟩ := r.one
    obtain ⟨p, vs, rfl, h1, k1⟩ := id r1.tup_inv
    rw [hK] at h1
    exact ⟨p, vs, rfl, .inr ⟨sr.sqT h1, q.here sr r1⟩⟩
  · rename_i d _
    obtain ⟨v, rfl, r1⟩ := r.one
    cases e : asL S d with
    | none => rw [e] at q; exact q.elim
    | some l =>
      rw [e] at q
      obtain ⟨p, vs, rfl, h1, k1⟩ := sr.isL r1 e
      rw [hK] at h1
      exact ⟨p, vs, rfl, .inl ⟨h1, fun p hp => AftO.newT q sr k1 hp⟩⟩
  · exact q.elim
def absD : List Da → Store → Option Da
  | [.int i], _ => some (.int (if i < 0 then -i else i))
  | _, _ => none
theorem cr_abs : CallR X (.builtin "abs") (rdn G absD) := call_abs.imp fun xs H Q ⟨W, S, l, sr, r, q⟩ => by
  unfold absD at q
  split at q
  · obtain ⟨v, rfl, r1⟩ := r.one
    exact ⟨_, by rw [r1.int_inv], q.here sr (repI W _)⟩
  · exact q.elim
def intD : List Da → Store → Option Da
  | [.int i], _ => some (.int i)
  | [.bl b], _ => some (.int (if b then 1 else 0))
  | _, _ => none
theorem cr_int : CallR X (.type "int") (rdn G intD) := call_int1.imp fun xs H Q ⟨W, S, l, sr, r, q⟩ => by
  unfold intD at q
  split at q
  · obtain ⟨v, rfl, r1⟩ := r.one
    exact .inl ⟨_, by rw [r1.int_inv], q.here sr (repI W _)⟩
  · obtain ⟨v, rfl, r1⟩ := r.one
    exact .inr ⟨_, by rw [r1.bl_inv], q.here sr (repI W _)⟩
  · exact q.elim
def divmodD : List Da → Store → Option Da
  | [.int i, .int j], _ => if 0 < j ∧ j < 1073741824 then some (.tup [.int (i / j), .int (i % j)]) else none
  | _, _ => none
theorem cr_divmod' : CallR X (.builtin "divmod") (rdn G divmodD) := call_divmod.imp fun xs H Q ⟨W, S, l, sr, r, q⟩ => by
  unfold divmodD at q
  split at q
  · rename_i i j
    obtain ⟨v, u, rfl, r1, r2⟩ := r.two
    by_cases c : 0 < j ∧ j < 1073741824
    · rw [if_pos c] at q
      exact ⟨i, j, by rw [r1.int_inv, r2.int_inv], c, fun p hp => q.newT sr (.cons (repI W _) (.cons (repI W _) .nil)) hp⟩
    · rw [if_neg c] at q; exact q.elim
  · exact q.elim
/-- a list of truths -/
def truths : List Da → Option (List Bool)
  | [] => some []
  | .bl b :: r => (truths r).map (b :: ·)
  | _ :: _ => none
theorem truths_reps {W : Wd} : ∀ {l : List Da} {bs : List Bool} {vs : List V}, truths l = some bs → Reps G W l vs → vs = bs.map V.bl
  | [], bs, vs, h, r => by cases h; exact r.inv_nil
  | d :: l, bs, vs, h, r => by
    obtain ⟨v, t, rfl, h1, h2⟩ := r.inv_cons
    cases d with
    | bl b =>
      unfold truths at h
      cases e : truths l with
      | none => simp [e] at h
      | some cs =>
        rw [e] at h; cases h
        rw [h1.bl_inv, truths_reps e h2]; rfl
    | _ => cases h
def anyD : List Da → Store → Option Da
  | [d], S => (asL S d).bind fun l => (truths l).map fun bs => .bl (bs.any id)
  | _, _ => none
def allD : List Da → Store → Option Da
  | [d], S => (asL S d).bind fun l => (truths l).map fun bs => .bl (bs.all id)
  | _, _ => none
theorem cr_anyD (hc : X.calm = true) (hK : G.K = X.K := by rfl) : CallR X (.builtin "any") (rdn G anyD) := (cr_any hc).imp fun xs H Q ⟨W, S, l, sr, r, q⟩ => by
  unfold anyD at q
  split at q
  · rename_i d
    obtain ⟨v, rfl, r1⟩ := r.one
    cases e : asL S d with
    | none => rw [e] at q; exact q.elim
    | some l =>
      rw [e] at q
      obtain ⟨p, vs, rfl, h1, k1⟩ := sr.isL r1 e
      rw [hK] at h1
      cases e2 : truths l with
      | none => simp only [e2, Option.bind] at q; exact q.elim
      | some bs =>
        simp only [e2, Option.bind] at q
        rw [truths_reps e2 k1] at h1
        exact ⟨p, bs, rfl, h1, q.here sr (repB W _)⟩
  · exact q.elim
theorem cr_allD (hc : X.calm = true) (hK : G.K = X.K := by rfl) : CallR X (.builtin "all") (rdn G allD) := (cr_all hc).imp fun xs H Q ⟨W, S, l, sr, r, q⟩ => by
  unfold allD at q
  split at q
  · rename_i d
    obtain ⟨v, rfl, r1⟩ := r.one
    cases e : asL S d with
    | none => rw [e] at q; exact q.elim
    | some l =>
      rw [e] at q
      obtain ⟨p, vs, rfl, h1, k1⟩ := sr.isL r1 e
      rw [hK] at h1
      cases e2 : truths l with
      | none => simp only [e2, Option.bind] at q; exact q.elim
      | some bs =>
        simp only [e2, Option.bind] at q
        rw [truths_reps e2 k1] at h1
        exact ⟨p, bs, rfl, h1, q.here sr (repB W _)⟩
  · exact q.elim
end
end NL

set_option Elab.async false
set_option linter.all false
set_option maxRecDepth 100000
set_option maxHeartbeats 4100000
namespace NL
open PySem PySem.Spec PyProof.Rows L2
section
variable {X : Cx} {G : Gc} {Wx : WX}
/-! ### == -/
mutual
def pyP : Da → Option PyData
  | .non => some .none
  | .bl b => some (.bool b)
  | .int i => some (.int i)
  | .str x => some (.str x)
  | .tup l => (pyPs l).map .tuple
  | .lst l => (pyPs l).map .list
  | .cell _ => none
  | .exc _ _ _ _ => none
  | .src l => (pyPs l).map .list
def pyPs : List Da → Option (List PyData)
  | [] => some []
  | d :: r => match pyP d, pyPs r with
    | some x, some xs => some (x :: xs)
    | _, _ => none
end
def pyD (S : Store) : Da → Option PyData
  | .cell j => match S[j]? with
    | some (.lst l) => (pyPs l).map .list
    | _ => none
  | d => pyP d
mutual
theorem pyP_dp {W : Wd} {H : Hp} {S : Store} (s : SR G W H S) : ∀ {d : Da} {v : V} {x : PyData}, pyP d = some x → Rep G W d v → Dp G.K H v x
  | .non, v, x, h, r => by cases h; rw [r.non_inv]; exact .non
  | .bl b, v, x, h, r => by cases h; rw [r.bl_inv]; exact .bl b
  | .int b, v, x, h, r => by cases h; rw [r.int_inv]; exact .int b
  | .str b, v, x, h, r => by cases h; rw [r.str_inv]; exact .str b
  | .tup l, v, x, h, r => by
    obtain ⟨a, vs, rfl, h1, h2⟩ := r.tup_inv
    unfold pyP at h
    cases e : pyPs l with
    | none => simp [e] at h
    | some xs => rw [e] at h; cases h; exact .tup (s.sqT h1) (pyPs_dp s e h2)
  | .lst l, v, x, h, r => by
    obtain ⟨a, vs, rfl, h1, h2⟩ := r.lst_inv
    unfold pyP at h
    cases e : pyPs l with
    | none => simp [e] at h
    | some xs => rw [e] at h; cases h; exact .lst (s.sqL h1) (pyPs_dp s e h2)
  | .cell j, v, x, h, r => by cases h
  | .exc _ _ _ _, v, x, h, r => by cases h
  | .src l, v, x, h, r => by
    obtain ⟨a, vs, rfl, h1, h2⟩ := r.src_inv
    unfold pyP at h
    cases e : pyPs l with
    | none => simp [e] at h
    | some xs => rw [e] at h; cases h; exact .lst (s.sqL h1) (pyPs_dp s e h2)
theorem pyPs_dp {W : Wd} {H : Hp} {S : Store} (s : SR G W H S) : ∀ {l : List Da} {vs : List V} {xs : List PyData}, pyPs l = some xs → Reps G W l vs → DpAll G.K H vs xs
  | [], vs, xs, h, r => by cases h; rw [r.inv_nil]; exact .nil
  | d :: l, vs, xs, h, r => by
    obtain ⟨v, t, rfl, h1, h2⟩ := r.inv_cons
    unfold pyPs at h
    cases e : pyP d with
    | none => simp [e] at h
    | some x =>
      cases e2 : pyPs l with
      | none => rw [e, e2] at h; cases h
      | some ys => rw [e, e2] at h; cases h; exact .cons (pyP_dp s e h1) (pyPs_dp s e2 h2)
end
theorem pyD_dp {W : Wd} {H : Hp} {S : Store} (s : SR G W H S) {d : Da} {v : V} {x : PyData} (h : pyD S d = some x) (r : Rep G W d v) : Dp G.K H v x := by
  cases d with
  | cell j =>
    obtain ⟨a, ha, rfl⟩ := r.cell_inv
    unfold pyD at h
    dsimp only at h
    split at h
    · rename_i l e
      obtain ⟨b, hb, vs, h1, h2⟩ := s.cell j _ e
      rw [ha] at hb; cases hb
      cases e2 : pyPs l with
      | none => rw [e2] at h; cases h
      | some xs => rw [e2] at h; cases h; exact .lst (.of h1) (pyPs_dp s e2 h2)
    · cases h
  | _ => exact pyP_dp s h r
def strPair : Da → Da → Option (Str × Str)
  | .str x, .str y => some (x, y)
  | _, _ => none
theorem strPair_some {a b : Da} {x y : Str} (h : strPair a b = some (x, y)) : a = .str x ∧ b = .str y := by
  unfold strPair at h
  split at h
  · cases h; exact ⟨rfl, rfl⟩
  · cases h
def eqvP (S : Store) (a b : Da) : Option Bool := match pyD S a, pyD S b with
  | some x, some y => if SeqAt.shaped x = true ∧ SeqAt.shaped y = true then some (PyData.eqv x y) else none
  | _, _ => none
def eqvD (S : Store) (a b : Da) : Option Bool := match strPair a b with
  | some (x, y) => some (decide (x = y))
  | none => eqvP S a b
def eqD : Da → Da → Store → Option Da := fun a b S => (eqvD S a b).map .bl
def neD : Da → Da → Store → Option Da := fun a b S => (eqvD S a b).map fun t => .bl (!t)
theorem eqv_dp {W : Wd} {H : Hp} {S : Store} (s : SR G W H S) {a b : Da} {x y : V} {t : Bool} (h : eqvP S a b = some t) (r1 : Rep G W a x) (r2 : Rep G W b y) :
    ∃ d e, Dp G.K H x d ∧ Dp G.K H y e ∧ SeqAt.shaped d = true ∧ SeqAt.shaped e = true ∧ t = PyData.eqv d e := by
  unfold eqvP at h
  cases e1 : pyD S a with
  | none => rw [e1] at h; cases h
  | some d =>
    cases e2 : pyD S b with
    | none => rw [e1, e2] at h; cases h
    | some e =>
      rw [e1, e2] at h
      dsimp only at h
      by_cases c : SeqAt.shaped d = true ∧ SeqAt.shaped e = true
      · rw [if_pos c] at h; cases h
        exact ⟨d, e, pyD_dp s e1 r1, pyD_dp s e2 r2, c.1, c.2, rfl⟩
      · rw [if_neg c] at h; cases h
theorem dec_strV (x y : Str) : decide (V.str x = V.str y) = decide (x = y) := by
  by_cases h : x = y
  · subst h; simp
  · have : ¬ V.str x = V.str y := fun z => h (V.str.inj z)
    rw [decide_eq_false this, decide_eq_false h]
theorem or_eq (hu : X.A.units + 64 < cLine) (hK : G.K = X.K := by rfl) : OpR X (compareOp .Eq) (rd2 G eqD) := by
  rintro pins s σ H x y v u Q I rx ry ⟨W, S, a, b, sr, r1, r2, q⟩
  unfold eqD eqvD at q
  cases e : strPair a b with
  | some xy =>
    obtain ⟨z1, z2⟩ := xy
    obtain ⟨rfl, rfl⟩ := strPair_some e
    rw [e] at q
    have q : AftO G W H S (some (.bl (decide (z1 = z2)))) Q := q
    have e1 := r1.str_inv
    have e2 := r2.str_inv
    subst e1 e2
    exact op_eq pins s σ H _ _ v u Q I rx ry ⟨rfl, by rw [dec_strV]; exact q.here sr (repB W _)⟩
  | none =>
    rw [e] at q
    dsimp only at q
    cases e2 : eqvP S a b with
    | none => rw [e2] at q; exact q.elim
    | some t =>
      rw [e2] at q
      obtain ⟨d1, d2, h1, h2, h3, h4, rfl⟩ := eqv_dp sr e2 r1 r2
      rw [hK] at h1 h2
      exact op_eqD hu pins s σ H x y v u Q I rx ry ⟨d1, d2, h1, h2, h3, h4, AftO.here q sr (repB W _)⟩
theorem or_ne (hu : X.A.units + 64 < cLine) (hK : G.K = X.K := by rfl) : OpR X (compareOp .NotEq) (rd2 G neD) := by
  rintro pins s σ H x y v u Q I rx ry ⟨W, S, a, b, sr, r1, r2, q⟩
  unfold neD eqvD at q
  cases e : strPair a b with
  | some xy =>
    obtain ⟨z1, z2⟩ := xy
    obtain ⟨rfl, rfl⟩ := strPair_some e
    rw [e] at q
    have q : AftO G W H S (some (.bl (!decide (z1 = z2)))) Q := q
    have e1 := r1.str_inv
    have e2 := r2.str_inv
    subst e1 e2
    exact op_ne pins s σ H _ _ v u Q I rx ry ⟨rfl, by rw [dec_strV]; exact q.here sr (repB W _)⟩
  | none =>
    rw [e] at q
    dsimp only at q
    cases e2 : eqvP S a b with
    | none => rw [e2] at q; exact q.elim
    | some t =>
      rw [e2] at q
      obtain ⟨d1, d2, h1, h2, h3, h4, rfl⟩ := eqv_dp sr e2 r1 r2
      rw [hK] at h1 h2
      exact op_neD hu pins s σ H x y v u Q I rx ry ⟨d1, d2, h1, h2, h3, h4, AftO.here q sr (repB W _)⟩

/-! ### membership among flat items -/
def flatD : Da → Bool
  | .non | .bl _ | .int _ | .str _ => true
  | _ => false
def eqF (d e : Da) : Bool := match d, e with
  | .non, .non => true | .bl a, .bl b => a == b | .bl a, .int b => (if a then 1 else 0) == b | .int a, .bl b => a == (if b then 1 else 0) | .int a, .int b => a == b | .str a, .str b => a == b | _, _ => false
def seqOf (S : Store) : Da → Option (List Da)
  | .tup l => some l
  | d => asL S d
def inB (S : Store) (a b : Da) : Option Bool := match seqOf S b with
  | some l => if flatD a = true ∧ l.all flatD = true then some (l.any fun y => eqF y a) else none
  | none => none
def inD : Da → Da → Store → Option Da := fun a b S => (inB S a b).map .bl
def notInD : Da → Da → Store → Option Da := fun a b S => (inB S a b).map fun t => .bl (!t)
theorem Rep.flat {W : Wd} {d : Da} {v : V} (r : Rep G W d v) (f : flatD d = true) : flatV v = true := by
  cases d with
  | non => rw [r.non_inv]; rfl
  | bl b => rw [r.bl_inv]; rfl
  | int b => rw [r.int_inv]; rfl
  | str b => rw [r.str_inv]; rfl
  | _ => cases f
theorem Rep.eqF {W : Wd} {d e : Da} {v u : V} (r : Rep G W d v) (f : flatD d = true) (r2 : Rep G W e u) (f2 : flatD e = true) : eqV v u = NL.eqF d e := by
  cases d with
  | non => rw [r.non_inv]; cases e with
    | non => rw [r2.non_inv]; rfl
    | bl b => rw [r2.bl_inv]; rfl
    | int b => rw [r2.int_inv]; rfl
    | str b => rw [r2.str_inv]; rfl
    | _ => cases f2
  | bl a => rw [r.bl_inv]; cases e with
    | non => rw [r2.non_inv]; rfl
    | bl b => rw [r2.bl_inv]; rfl
    | int b => rw [r2.int_inv]; rfl
    | str b => rw [r2.str_inv]; rfl
    | _ => cases f2
  | int a => rw [r.int_inv]; cases e with
    | non => rw [r2.non_inv]; rfl
    | bl b => rw [r2.bl_inv]; rfl
    | int b => rw [r2.int_inv]; rfl
    | str b => rw [r2.str_inv]; rfl
    | _ => cases f2
  | str a => rw [r.str_inv]; cases e with
    | non => rw [r2.non_inv]; rfl
    | bl b => rw [r2.bl_inv]; rfl
    | int b => rw [r2.int_inv]; rfl
    | str b => rw [r2.str_inv]; rfl
    | _ => cases f2
  | _ => cases f
theorem Reps.inV {W : Wd} {a : Da} {x : V} (r1 : Rep G W a x) (f1 : flatD a = true) : ∀ {l : List Da} {vs : List V}, Reps G W l vs → l.all flatD = true → vs.all flatV = true ∧ L2.inV x vs = l.any fun y => NL.eqF y a
  | [], vs, h, _ => by rw [h.inv_nil]; exact ⟨rfl, rfl⟩
  | d :: l, vs, h, f => by
    obtain ⟨v, t, rfl, h1, h2⟩ := h.inv_cons
    simp only [List.all_cons, Bool.and_eq_true] at f
    obtain ⟨i1, i2⟩ := Reps.inV r1 f1 h2 f.2
    refine ⟨by rw [List.all_cons, h1.flat f.1, i1]; rfl, ?_⟩
    unfold L2.inV at i2 ⊢
    rw [List.any_cons, List.any_cons, i2, h1.eqF f.1 r1 f1]
theorem in_imp {W : Wd} {H : Hp} {S : Store} {a b : Da} {x y : V} {t : Bool} (s : SR G W H S) (r1 : Rep G W a x) (r2 : Rep G W b y) (h : inB S a b = some t) :
    ∃ p xs, y = .ref p ∧ (SqL G.K H p xs ∨ SqT G.K H p xs) ∧ flatV x = true ∧ xs.all flatV = true ∧ L2.inV x xs = t := by
  unfold inB at h
  cases e : seqOf S b with
  | none => simp [e] at h
  | some l =>
    rw [e] at h
    dsimp only at h
    by_cases c : flatD a = true ∧ l.all flatD = true
    · rw [if_pos c] at h; cases h
      cases b with
      | tup l' =>
        cases e
        obtain ⟨p, vs, rfl, h1, h2⟩ := r2.tup_inv
        obtain ⟨i1, i2⟩ := h2.inV r1 c.1 c.2
        exact ⟨p, vs, rfl, .inr (s.sqT h1), r1.flat c.1, i1, i2⟩
      | _ =>
        obtain ⟨p, vs, rfl, h1, h2⟩ := s.isL r2 e
        obtain ⟨i1, i2⟩ := h2.inV r1 c.1 c.2
        exact ⟨p, vs, rfl, .inl h1, r1.flat c.1, i1, i2⟩
    · rw [if_neg c] at h; cases h
theorem or_in (hK : G.K = X.K := by rfl) : OpR X (compareOp .In) (rd2 G inD) := op_in_seq.imp fun x y H Q ⟨W, S, a, b, s, r1, r2, q⟩ => by
  unfold inD at q
  cases e : inB S a b with
  | none => rw [e] at q; exact q.elim
  | some t =>
    rw [e] at q
    obtain ⟨p, xs, h1, h2, h3, h4, h5⟩ := in_imp s r1 r2 e
    rw [hK] at h2
    refine ⟨p, xs, h1, h2, h3, h4, ?_⟩
    rw [h5]
    exact AftO.here q s (repB W _)
theorem or_notin (hK : G.K = X.K := by rfl) : OpR X (compareOp .NotIn) (rd2 G notInD) := op_notIn_seq.imp fun x y H Q ⟨W, S, a, b, s, r1, r2, q⟩ => by
  unfold notInD at q
  cases e : inB S a b with
  | none => rw [e] at q; exact q.elim
  | some t =>
    rw [e] at q
    obtain ⟨p, xs, h1, h2, h3, h4, h5⟩ := in_imp s r1 r2 e
    rw [hK] at h2
    refine ⟨p, xs, h1, h2, h3, h4, ?_⟩
    rw [h5]
    exact AftO.here q s (repB W _)

/-! ### isinstance with a built-in class -/
inductive Ty where
  | non | bl | int | str | tup | lst
  deriving DecidableEq
def Ty.name : Ty → String
  | .non => "NoneType" | .bl => "bool" | .int => "int" | .str => "str" | .tup => "tuple" | .lst => "list"
def tyD (S : Store) : Da → Option Ty
  | .non => some .non
  | .bl _ => some .bl
  | .int _ => some .int
  | .str _ => some .str
  | .tup _ => some .tup
  | .lst _ => some .lst
  | .cell j => match S[j]? with
    | some (.lst _) => some .lst
    | _ => none
  | .exc _ _ _ _ => none
  | .src _ => some .lst
def isTy : Ty → Ty → Bool
  | .int, .int => true | .int, .bl => true
  | .bl, .bl => true
  | .str, .str => true
  | .tup, .tup => true
  | .lst, .lst => true
  | .non, .non => true
  | _, _ => false
theorem isTy_kit : ∀ T t : Ty, kitB t.name T.name = some (isTy T t) := by
  intro T t
  cases T <;> cases t <;> decide +kernel
theorem Rep.tyX {W : Wd} {H : Hp} {S : Store} {d : Da} {v : V} {t : Ty} (s : SR G W H S) (r : Rep G W d v) (h : tyD S d = some t) : TyX G.K H v (.type t.name) := by
  have lst : ∀ {a : Addr} {vs : List V}, SqL G.K H a vs → TyX G.K H (.ref a) (.type "list") := fun {a vs} q => by
    rcases q with (q | ⟨o, q⟩) | ⟨o, its, n, h1, h2, _⟩
    · exact .base (.lst q)
    · exact .base (.frz q)
    · exact .kList h1 h2
  cases d with
  | non => cases h; rw [r.non_inv]; exact .base .non
  | bl b => cases h; rw [r.bl_inv]; exact .base (.bl b)
  | int b => cases h; rw [r.int_inv]; exact .base (.int b)
  | str b => cases h; rw [r.str_inv]; exact .base (.str b)
  | tup l =>
    cases h
    obtain ⟨a, vs, rfl, h1, _⟩ := r.tup_inv
    rcases s.sqT h1 with (q | ⟨o, q⟩) | ⟨o, its, n, h1, h2, _⟩
    · exact .base (.tup q)
    · exact .fTuple q
    · exact .kTuple h1 h2
  | lst l =>
    cases h
    obtain ⟨a, vs, rfl, h1, _⟩ := r.lst_inv
    exact lst (s.sqL h1)
  | cell j =>
    unfold tyD at h
    dsimp only at h
    split at h
    · rename_i l e
      cases h
      obtain ⟨a, ha, rfl⟩ := r.cell_inv
      obtain ⟨b, hb, vs, h1, h2⟩ := s.cell j _ e
      rw [ha] at hb; cases hb
      exact .base (.lst h1)
    · cases h
  | exc _ _ _ _ => cases h
  | src l =>
    cases h
    obtain ⟨a, vs, rfl, h1, _⟩ := r.src_inv
    exact lst (s.sqL h1)
def isiM (T : Ty) (f : M Da) : M Da := fun ρ S => (f ρ S).bind fun d S1 => match tyD S1 d with
  | some t => .ok (.bl (isTy T t)) S1
  | none => .bad
theorem pd_isi {e : Expr} {T : Ty} {f : M Da} {y : Str} {p p2 pos : Pos} (hm : X.mg "isinstance" = none) (he : PE X e (tM G Wx f)) (hm2 : X.mg y = none) (hv2 : bootBuiltins y = some (.type T.name) := by decide +kernel) (hg : Gl X "isinstance" := by rfl) (hg2 : Gl X y := by rfl)
    (hn2 : y ≠ "__name__" := by decide) (hdb2 : (y == ("__debug__" : Str)) = false := by decide) (hs : starEach [e, .Name y p2] X.env = (false, eval e X.env) :: starEach [.Name y p2] X.env := by rfl) (hpl : (backTo pos (starEach [.Name y p2] X.env)).any (·.1) = false := by rfl) (hs2 : starEach [.Name y p2] X.env = (false, eval (.Name y p2) X.env) :: starEach [] X.env := by rfl) (hK : G.K = X.K := by rfl) :
    PE X (.Call (.Name "isinstance" p) [e, .Name y p2] [] pos) (tM G Wx (isiM T f)) :=
  (pe_callB call_isi hg hm (by decide +kernel) (pa_cons he (pa_cons (pe_bltn (v := .ty T.name) hg2 hm2 hv2 rfl hn2 hdb2) pa_nil hs2) hs) (by decide) (by decide) hs hpl).imp fun σ H Q ⟨W, S, ρ, s, r, q⟩ => ⟨W, S, ρ, s, r, q.bind fun d S1 v W1 H1 x1 s1 q1 k1 => by
    cases e : tyD S1 d with
    | none => simp only [e] at k1; exact k1.elim
    | some t =>
      simp only [e] at k1
      have ty := q1.tyX s1 e
      rw [hK] at ty
      exact ⟨v, .ty T.name, .type t.name, .type T.name, isTy T t, rfl, .ty _, ty, kit_ty (isTy_kit T t), k1.here s1 (repB W1 _)⟩⟩
end
end NL

set_option Elab.async false
set_option linter.all false
set_option maxRecDepth 100000
set_option maxHeartbeats 4100000
namespace NL
open PySem PySem.Spec PyProof.Rows L2

/-! ### targets that may write into the store -/
abbrev TMr := Da → MS
def gM (G : Gc) (Wx : WX) (t : TMr) : TG := fun v σ H Q => ∃ W S ρ d, SR G W H S ∧ RepE G W σ ρ ∧ Rep G W d v ∧ AftS G Wx W H (t d ρ S) { nx := Q, rt := fun _ _ => False }
def gMs (G : Gc) (Wx : WX) (n : Nat) (t : List Da → MS) : TGs := fun vs σ H Q => ∃ W S ρ ds, SR G W H S ∧ RepE G W σ ρ ∧ Reps G W ds vs ∧ ds.length = n ∧ AftS G Wx W H (t ds ρ S) { nx := Q, rt := fun _ _ => False }
def nameT (i : Nat) : TMr := fun d ρ S => .nx (ρ.set i (some d)) S
def subT (fo fi : M Da) : TMr := fun d ρ S => (fo ρ S).thenS ρ fun o S1 => (fi ρ S1).thenS ρ fun i S2 => match o with
  | .cell j => match i with
    | .int k => match S2[j]? with
      | some (.lst l) => match ixN l.length k with
        | some n => .nx ρ (S2.set j (.lst (l.set n d)))
        | none => .bad
      | _ => .bad
    | _ => .bad
  | _ => .bad
def nilT : List Da → MS := fun _ ρ S => .nx ρ S
def consT (t : TMr) (ts : List Da → MS) : List Da → MS := fun ds ρ S => match ds with
  | d :: r => (t d ρ S).seq (ts r)
  | [] => .bad
def tupT (n : Nat) (ts : List Da → MS) : TMr := fun d ρ S => match d with
  | .tup l => if l.length = n then ts l ρ S else .bad
  | _ => .bad
def asgS (t : TMr) (m : M Da) : MS := fun ρ S => (m ρ S).thenS ρ fun d S1 => t d ρ S1
section
variable {X : Cx} {G : Gc} {Wx : WX} {e o i tg : Expr} {es : List Expr} {pos p2 : Pos} {m fo fi : M Da} {t : TMr} {ts : List Da → MS}
theorem pgm_name {i : Nat} {x : Str} (hN : X.N.Nodup) (hi : X.N[i]? = some x := by rfl) (hx : Loc X.env.scope x := by first | exact Or.inl rfl | exact Or.inr rfl) (hf : X.fn x = true ∨ X.env.scope.names.lookup x = some .local := by first | exact .inl rfl | exact .inr rfl | assumption) : PG X (.Name x pos) (gM G Wx (nameT i)) :=
  (pg_name hN hi hx hf).imp fun v σ H Q ⟨W, S, ρ, d, s, r, q, k⟩ => k _ W H (.refl W H) s (r.set q)
theorem pgm_sub (ho : PE X o (tM G Wx fo)) (hi : PE X i (tM G Wx fi))
    (ha : ∀ v, assign (.Subscript o i pos) X.env v = (do let ov ← holding [v] (eval o X.env); let iv ← holding [v, ov] (eval i X.env); standAt pos; holding [v, ov, iv] (setItem ov iv v); release [v, ov, iv] []) := by intro _; rfl) : PG X (.Subscript o i pos) (gM G Wx (subT fo fi)) :=
  (pg_sub ho hi set_list ha).imp fun v σ H Q ⟨W, S, ρ, d, s, r, q, k⟩ => ⟨W, S, ρ, s, r, k.bind r fun y S1 u W1 H1 x1 s1 q1 k1 => ⟨W1, S1, ρ, s1, r.mono x1.le, k1.bind (r.mono x1.le) fun z S2 u2 W2 H2 x2 s2 q2 k2 => by
    cases y with
    | cell j =>
      cases z with
      | int kk =>
        dsimp only at k2
        cases e : S2[j]? with
        | none => rw [e] at k2; exact k2.elim
        | some c =>
          rw [e] at k2
          cases c with
          | lst l =>
            dsimp only at k2
            cases en : ixN l.length kk with
            | none => rw [en] at k2; exact k2.elim
            | some n =>
              rw [en] at k2
              obtain ⟨a, ha1, rfl⟩ := (q1.mono x2.le).cell_inv
              obtain ⟨b, hb, vs, h1, h2⟩ := s2.cell j _ e
              rw [ha1] at hb; cases hb
              obtain ⟨s3, x3⟩ := s2.write (c := .lst (l.set n d)) ha1 ⟨_, upd_same, h2.set (q.mono (x1.le.trans x2.le)) n⟩
              exact ⟨a, vs, kk, n, rfl, q2.int_inv, h1, by rw [← h2.length]; exact en, k2 σ _ _ x3 s3 (r.mono (x1.le.trans x2.le))⟩
          | obj c fs => exact k2.elim
      | _ => exact k2.elim
    | _ => exact k2.elim⟩⟩
theorem pgm_nil : PGs X [] (gMs G Wx 0 nilT) := pgs_nil.imp fun vs σ H Q ⟨W, S, ρ, ds, s, r, q, e, k⟩ => by
  have e0 : ds = [] := List.length_eq_zero_iff.mp e
  subst e0
  exact ⟨q.inv_nil, k.nx s r⟩
theorem AftS.seqT {W : Wd} {H : Hp} {r : RS} {ds : List Da} {n : Nat} {vs : List V} {Q : L2.St → Hp → Prop} {k : List Da → MS} (h : AftS G Wx W H (r.seq (k ds)) { nx := Q, rt := fun _ _ => False }) (q : Reps G W ds vs) (hn : ds.length = n) :
    AftS G Wx W H r { nx := fun σ H1 => gMs G Wx n k vs σ H1 Q, rt := fun _ _ => False } := by
  cases r with
  | nx ρ S => exact fun σ W' H' x s e => ⟨W', S, ρ, ds, s, e, q.mono x.le, hn, h.later x⟩
  | rt d S => exact h
  | bk ρ S => exact h
  | ct ρ S => exact h
  | exc c d ρ S => exact h
  | bad => exact h
theorem pgm_cons {n : Nat} (h1 : PG X e (gM G Wx t)) (h2 : PGs X es (gMs G Wx n ts)) (hs : (assignEach (e :: es) X.env).map (·.2) = assign e X.env :: (assignEach es X.env).map (·.2) := by rfl) : PGs X (e :: es) (gMs G Wx (n + 1) (consT t ts)) :=
  (pgs_cons h1 h2 hs).imp fun vs σ H Q ⟨W, S, ρ, ds, s, r, q, e, k⟩ => by
    cases ds with
    | nil => simp at e
    | cons d ds =>
      obtain ⟨v, vr, rfl, q1, q2⟩ := q.inv_cons
      exact ⟨v, vr, rfl, W, S, ρ, d, s, r, q1, AftS.seqT (ds := ds) k q2 (by simpa using e)⟩
theorem pgm_tup {k n : Nat} (hc : X.calm = true) (h : PGs X es (gMs G Wx n ts)) (hn : (assignEach es X.env).length = n := by rfl) (hst : (assignEach es X.env).findIdx? (·.1) = none := by rfl) (hK : G.K = X.K := by rfl) :
    PG X (.Tuple es k pos) (gM G Wx (tupT n ts)) :=
  (pg_tup hc h hn hst).imp fun v σ H Q ⟨W, S, ρ, d, s, r, q, kk⟩ => by
    cases d with
    | tup l =>
      by_cases hl : l.length = n
      · have kk : AftS G Wx W H (if l.length = n then ts l ρ S else .bad) { nx := Q, rt := fun _ _ => False } := kk
        rw [if_pos hl] at kk
        obtain ⟨a, vs, rfl, ht, rs⟩ := q.tup_inv
        exact ⟨a, vs, rfl, by rw [← hK]; exact s.sqT ht, by rw [← rs.length, hl], W, S, ρ, l, s, r, rs, hl, kk⟩
      · have kk : AftS G Wx W H (if l.length = n then ts l ρ S else .bad) { nx := Q, rt := fun _ _ => False } := kk
        rw [if_neg hl] at kk; exact kk.elim
    | _ => exact kk.elim
theorem AftS.only {W : Wd} {H : Hp} {r : RS} {D : Ends} (h : AftS G Wx W H r D) (hr : ∀ d S, r ≠ .rt d S) (hb : ∀ ρ S, r ≠ .bk ρ S) (hct : ∀ ρ S, r ≠ .ct ρ S) : AftS G Wx W H r { nx := D.nx, rt := fun _ _ => False } := by
  cases r with
  | nx ρ S => exact h
  | rt d S => exact absurd rfl (hr d S)
  | bk ρ S => exact absurd rfl (hb ρ S)
  | ct ρ S => exact absurd rfl (hct ρ S)
  | exc c d ρ S => exact h
  | bad => exact h
/-- a target leaves by going on alone -/
def onlyNx (r : RS) : RS := match r with
  | .nx ρ S => .nx ρ S
  | .exc c d ρ S => .exc c d ρ S
  | _ => .bad
theorem AftS.onlyNx {W : Wd} {H : Hp} {r : RS} {D : Ends} (h : AftS G Wx W H (NL.onlyNx r) D) : AftS G Wx W H r { nx := D.nx, rt := fun _ _ => False } := by
  cases r with
  | nx ρ S => exact h
  | exc c d ρ S => exact h
  | _ => exact h.elim
def asgGS (t : TMr) (m : M Da) : MS := fun ρ S => (m ρ S).thenS ρ fun d S1 => onlyNx (t d ρ S1)
theorem psm_asg (he : PE X e (tM G Wx m)) (hg : PG X tg (gM G Wx t)) (hs : swapsWithSole [tg] e pos.line X.env = pure false := by rfl) (hw : swappedStores [tg] e X.env = pure none := by rfl)
    (h1 : (assignEach [tg] X.env).map (·.2) = [assign tg X.env] := by rfl) : PS X (.Assign [tg] e pos) (tS G Wx (asgGS t m)) :=
  (ps_asg he hg hs hw h1).imp fun D σ H ⟨W, S, ρ, s, r, q⟩ => ⟨W, S, ρ, s, r, q.bind r fun d S1 v W1 H1 x1 s1 q1 k1 => ⟨W1, S1, ρ, d, s1, r.mono x1.le, q1, k1.onlyNx⟩⟩

/-! a, b = x, y; a, b, c = x, y, z: names alone -/
def parS (is : List Nat) (t : M (List Da)) : MS := fun ρ S => (t ρ S).thenS ρ fun ds S1 => if ds.length = is.length then .nx (setAll ρ (is.zip ds)) S1 else .bad
theorem psd_par {i j : Nat} {x y : Str} {a b : Expr} {ta : M (List Da)} {px py pt : Pos} {kt k2 pt2} (hN : X.N.Nodup) (ha : PA X [a, b] (tMs G Wx ta)) (hc : X.calm = true := by rfl) (hi : X.N[i]? = some x := by rfl) (hj : X.N[j]? = some y := by rfl) (hij : i ≠ j := by decide)
    (hx : X.env.scope.names.lookup x = some .local := by rfl) (hy : X.env.scope.names.lookup y = some .local := by rfl)
    (hw : swappedStores [.Tuple [.Name x px, .Name y py] kt pt] (.Tuple [a, b] k2 pt2) X.env = pure (some [x, y]) := by rfl)
    (hs : swapsWithSole [.Tuple [.Name x px, .Name y py] kt pt] (.Tuple [a, b] k2 pt2) pos.line X.env = pure false := by rfl) : PS X (.Assign [.Tuple [.Name x px, .Name y py] kt pt] (.Tuple [a, b] k2 pt2) pos) (tS G Wx (parS [i, j] ta)) :=
  (ps_par hc hN hi hj hij hx hy ha hw hs).imp fun D σ H ⟨W, S, ρ, s, r, q⟩ => ⟨W, S, ρ, s, r, q.bind r fun ds S1 vs W1 H1 x1 s1 q1 k1 => by
    by_cases hl : ds.length = [i, j].length
    · rw [if_pos hl] at k1
      obtain ⟨d, ds, rfl⟩ : ∃ d r, ds = d :: r := by cases ds with | nil => cases hl | cons d r => exact ⟨d, r, rfl⟩
      obtain ⟨e, ds, rfl⟩ : ∃ d r, ds = d :: r := by cases ds with | nil => cases hl | cons d r => exact ⟨d, r, rfl⟩
      obtain rfl : ds = [] := by cases ds with | nil => rfl | cons => simp at hl
      obtain ⟨v, u, rfl, rv, ru⟩ := q1.two
      exact ⟨v, u, rfl, k1.nx s1 (((r.mono x1.le).set rv).set ru)⟩
    · rw [if_neg hl] at k1; exact k1.elim⟩
theorem Reps.three {W : Wd} {d e f : Da} {vs : List V} (r : Reps G W [d, e, f] vs) : ∃ v u w, vs = [v, u, w] ∧ Rep G W d v ∧ Rep G W e u ∧ Rep G W f w := by
  obtain ⟨v, t, rfl, h, k⟩ := r.inv_cons
  obtain ⟨u, w, rfl, h2, h3⟩ := k.two
  exact ⟨v, u, w, rfl, h, h2, h3⟩
theorem psd_par3 {i j l : Nat} {x y z : Str} {a b c : Expr} {ta : M (List Da)} {px py pz pt : Pos} {kt k2 pt2} (hN : X.N.Nodup) (ha : PA X [a, b, c] (tMs G Wx ta)) (hc : X.calm = true := by rfl) (hi : X.N[i]? = some x := by rfl) (hj : X.N[j]? = some y := by rfl) (hl : X.N[l]? = some z := by rfl) (hij : i ≠ j := by decide) (hil : i ≠ l := by decide) (hjl : j ≠ l := by decide)
    (hx : X.env.scope.names.lookup x = some .local := by rfl) (hy : X.env.scope.names.lookup y = some .local := by rfl) (hz : X.env.scope.names.lookup z = some .local := by rfl)
    (hw : swappedStores [.Tuple [.Name x px, .Name y py, .Name z pz] kt pt] (.Tuple [a, b, c] k2 pt2) X.env = pure (some [x, y, z]) := by rfl)
    (hs : swapsWithSole [.Tuple [.Name x px, .Name y py, .Name z pz] kt pt] (.Tuple [a, b, c] k2 pt2) pos.line X.env = pure false := by rfl) : PS X (.Assign [.Tuple [.Name x px, .Name y py, .Name z pz] kt pt] (.Tuple [a, b, c] k2 pt2) pos) (tS G Wx (parS [i, j, l] ta)) :=
  (ps_par3 hc hN hi hj hl hij hil hjl hx hy hz ha hw hs).imp fun D σ H ⟨W, S, ρ, s, r, q⟩ => ⟨W, S, ρ, s, r, q.bind r fun ds S1 vs W1 H1 x1 s1 q1 k1 => by
    by_cases hl : ds.length = [i, j, l].length
    · rw [if_pos hl] at k1
      obtain ⟨d, ds, rfl⟩ : ∃ d r, ds = d :: r := by cases ds with | nil => cases hl | cons d r => exact ⟨d, r, rfl⟩
      obtain ⟨e, ds, rfl⟩ : ∃ d r, ds = d :: r := by cases ds with | nil => cases hl | cons d r => exact ⟨d, r, rfl⟩
      obtain ⟨f, ds, rfl⟩ : ∃ d r, ds = d :: r := by cases ds with | nil => cases hl | cons d r => exact ⟨d, r, rfl⟩
      obtain rfl : ds = [] := by cases ds with | nil => rfl | cons => simp at hl
      obtain ⟨v, u, w, rfl, rv, ru, rw'⟩ := q1.three
      exact ⟨v, u, w, rfl, k1.nx s1 ((((r.mono x1.le).set rv).set ru).set rw')⟩
    · rw [if_neg hl] at k1; exact k1.elim⟩

/-! ### a list that is a cell: append, pop -/
def cellL (S : Store) : Da → Option (Nat × List Da)
  | .cell j => match S[j]? with
    | some (.lst l) => some (j, l)
    | _ => none
  | _ => none
theorem cellL_some {S : Store} {d : Da} {j : Nat} {l : List Da} (h : cellL S d = some (j, l)) : d = .cell j ∧ S[j]? = some (.lst l) := by
  unfold cellL at h
  split at h
  · rename_i i
    split at h
    · rename_i l' e
      cases h
      exact ⟨rfl, e⟩
    · cases h
  · cases h
theorem SR.cellL {W : Wd} {H : Hp} {S : Store} {d : Da} {v : V} {j : Nat} {l : List Da} (s : SR G W H S) (r : Rep G W d v) (h : NL.cellL S d = some (j, l)) : ∃ a vs, v = .ref a ∧ W.ι[j]? = some a ∧ H a = some (.lst vs) ∧ Reps G W l vs := by
  obtain ⟨rfl, e⟩ := cellL_some h
  obtain ⟨a, ha, rfl⟩ := r.cell_inv
  obtain ⟨b, hb, vs, h1, h2⟩ := s.cell j _ e
  rw [ha] at hb; cases hb
  exact ⟨a, vs, rfl, ha, h1, h2⟩
def appM (fo fe : M Da) : M Da := fun ρ S => (fo ρ S).bind fun d S1 => match cellL S1 d with
  | some _ => (fe ρ S1).bind fun y S2 => match cellL S2 d with
    | some (j, l) => if l.length < big then .ok .non (S2.set j (.lst (l ++ [y]))) else .bad
    | none => .bad
  | none => .bad
theorem pd_app {apos cpos : Pos} {fe : M Da} (ho : PE X o (tM G Wx fo)) (he : PE X e (tM G Wx fe))
    (hbase : attributeBase o "append" X.env (eval o X.env) = eval o X.env := by rfl)
(hfew : ((backTo cpos (starEach [e] X.env)).all (fun x => !x.1) && (backToKw cpos (keywordEach [] X.env)).all (fun x => x.1.isSome) && decide ([e].length + ([] : List Keyword).length + (if ([] : List Keyword).isEmpty then 0 else 1) < 30)) = true := by rfl) (hline : (apos.endLine == cpos.line) = true := by rfl) (hs : starEach [e] X.env = (false, eval e X.env) :: starEach [] X.env := by rfl) (hplain : (backTo cpos (starEach [] X.env)).any (·.1) = false := by rfl) : PE X (.Call (.Attribute o "append" apos) [e] [] cpos) (tM G Wx (appM fo fe)) :=
  (pe_bm PySem.F.plainAttrs_list PySem.F.slot_list_append PySem.F.type_list_append mt_append ho (pa_cons he pa_nil hs) hbase hfew hline hs hplain).imp fun σ H Q ⟨W, S, ρ, s, r, q⟩ => ⟨W, S, ρ, s, r, q.bind fun d S1 v W1 H1 x1 s1 q1 k1 => by
    cases e1 : cellL S1 d with
    | none => simp only [e1] at k1; exact k1.elim
    | some jl =>
      obtain ⟨j, l⟩ := jl
      simp only [e1] at k1
      obtain ⟨a, vs, rfl, _, h1, _⟩ := s1.cellL q1 e1
      refine ⟨.inl ⟨rfl, vs, .of h1⟩, W1, S1, ρ, s1, r.mono x1.le, k1.bind fun y S2 u W2 H2 x2 s2 q2 k2 => ?_⟩
      cases e2 : cellL S2 d with
      | none => simp only [e2] at k2; exact k2.elim
      | some jl2 =>
        obtain ⟨j2, l2⟩ := jl2
        simp only [e2] at k2
        by_cases hl : l2.length < big
        · rw [if_pos hl] at k2
          obtain ⟨a2, vs2, ea, ha2, h2, h3⟩ := s2.cellL (q1.mono x2.le) e2
          cases ea
          obtain ⟨s3, x3⟩ := s2.write (c := .lst (l2 ++ [y])) ha2 ⟨_, upd_same, h3.append (.cons q2 .nil)⟩
          exact ⟨a, vs2, u, rfl, rfl, h2, by rw [← h3.length, ← big_eq]; exact hl, k2 _ _ _ x3 s3 (repN _)⟩
        · rw [if_neg hl] at k2; exact k2.elim⟩
def popM (fo : M Da) : M Da := fun ρ S => (fo ρ S).bind fun d S1 => match cellL S1 d with
  | some (j, l) => match l[l.length - 1]? with
    | some y => .ok y (S1.set j (.lst l.dropLast))
    | none => .bad
  | none => .bad
theorem Reps.dropLast {W : Wd} {l : List Da} {vs : List V} (r : Reps G W l vs) : Reps G W l.dropLast vs.dropLast := by
  rw [List.dropLast_eq_take, List.dropLast_eq_take, r.length]
  exact r.take _
theorem pd_pop {apos cpos : Pos} (ho : PE X o (tM G Wx fo))
    (hbase : attributeBase o "pop" X.env (eval o X.env) = eval o X.env := by rfl) (hline : (apos.endLine == cpos.line) = true := by rfl) :
    PE X (.Call (.Attribute o "pop" apos) [] [] cpos) (tM G Wx (popM fo)) :=
  (pe_bm0 PySem.F.plainAttrs_list PySem.F.slot_list_pop PySem.F.type_list_pop mt_pop ho hbase hline).imp fun σ H Q ⟨W, S, ρ, s, r, q⟩ => ⟨W, S, ρ, s, r, q.bind fun d S1 v W1 H1 x1 s1 q1 k1 => by
    cases e1 : cellL S1 d with
    | none => simp only [e1] at k1; exact k1.elim
    | some jl =>
      obtain ⟨j, l⟩ := jl
      simp only [e1] at k1
      obtain ⟨a, vs, rfl, ha, h1, h2⟩ := s1.cellL q1 e1
      cases el : l[l.length - 1]? with
      | none => rw [el] at k1; exact k1.elim
      | some y =>
        rw [el] at k1
        obtain ⟨v, hv, rv⟩ := h2.get el
        obtain ⟨s3, x3⟩ := s1.write (c := .lst l.dropLast) ha ⟨_, upd_same, h2.dropLast⟩
        exact ⟨.inl ⟨rfl, vs, .of h1⟩, a, vs, v, rfl, rfl, h1, by rw [← h2.length]; exact hv, k1 _ _ _ x3 s3 rv⟩⟩
end
end NL

set_option Elab.async false
set_option linter.all false
set_option maxRecDepth 100000
set_option maxHeartbeats 4100000
namespace NL
open PySem PySem.Spec PyProof.Rows L2

/-! ### new lists: list + list, list(range(n)), sorted(set(t)) -/
/-- a list that stands in the heap by itself -/
def tryL (S : Store) : Da → Option (List Da)
  | .lst l => some l
  | .cell j => match S[j]? with
    | some (.lst l) => some l
    | _ => none
  | _ => none
section
variable {X : Cx} {G : Gc} {Wx : WX} {a b e : Expr} {f g m : M Da} {pos : Pos}
theorem SR.tryL {W : Wd} {H : Hp} {S : Store} {d : Da} {v : V} {l : List Da} (s : SR G W H S) (r : Rep G W d v) (h : NL.tryL S d = some l) : ∃ a vs, v = .ref a ∧ H a = some (.lst vs) ∧ Reps G W l vs := by
  unfold NL.tryL at h
  split at h
  · cases h
    obtain ⟨a, vs, rfl, h1, h2⟩ := r.lst_at
    exact ⟨a, vs, rfl, s.sub _ _ h1, h2⟩
  · rename_i j
    split at h
    · rename_i l' e
      cases h
      obtain ⟨a, ha, rfl⟩ := r.cell_inv
      obtain ⟨b, hb, vs, h1, h2⟩ := s.cell j _ e
      rw [ha] at hb; cases hb
      exact ⟨a, vs, rfl, h1, h2⟩
    · cases h
  · cases h
/-- a new list, untold as yet -/
theorem AftF.new {σ : L2.St} {W : Wd} {H : Hp} {S : Store} {l : List Da} {vs : List V} {Q : VK} (h : AftF G Wx σ W H (.ok l S) Q) (s : SR G W H S) (r : Reps G W l vs) {p : Addr} (hp : H p = none) : Q (.ref p) (upd H p (.lst vs)) := by
  obtain ⟨x, s'⟩ := Ext.add s (o := .lst vs) hp
  exact h p vs W _ x s' r upd_same (s.notin hp) (s.Fnone hp) hp
theorem AftF.bind {α β : Type} {R' : Wd → α → β → Prop} {σ : L2.St} {W : Wd} {H : Hp} {r : Res α} {k : α → Store → Res (List Da)} {Q : VK} {Q' : β → Hp → Prop} (h : AftF G Wx σ W H (r.bind k) Q)
    (step : ∀ a S b W' H', Ext W H W' H' → SR G W' H' S → R' W' a b → AftF G Wx σ W' H' (k a S) Q → Q' b H') : Aft R' G Wx σ W H r Q' := by
  cases r with
  | ok a S => exact fun b W' H' x s q => step a S b W' H' x s q (h.later x)
  | exc c d S => exact h
  | bad => exact h
def catF (f g : M Da) : M (List Da) := fun ρ S => (f ρ S).bind fun a S1 => (g ρ S1).bind fun b S2 => match tryL S2 a, tryL S2 b with
  | some l, some m => if l.length + m.length ≤ big then .ok (l ++ m) S2 else .bad
  | _, _ => .bad
theorem pdf_cat (ha : PE X a (tM G Wx f)) (hb : PE X b (tM G Wx g)) : PE X (.BinOp a .Add b pos) (tF G Wx (catF f g)) :=
  (pe_op op_cat ha hb).imp fun σ H Q ⟨W, S, ρ, s, r, q⟩ => ⟨W, S, ρ, s, r, AftF.bind q fun d S1 v W1 H1 x1 s1 q1 k1 => ⟨W1, S1, ρ, s1, r.mono x1.le, AftF.bind k1 fun d2 S2 u W2 H2 x2 s2 q2 k2 => by
    cases e1 : tryL S2 d with
    | none => simp only [e1] at k2; exact k2.elim
    | some l =>
      cases e2 : tryL S2 d2 with
      | none => simp only [e1, e2] at k2; exact k2.elim
      | some m =>
        simp only [e1, e2] at k2
        by_cases hl : l.length + m.length ≤ big
        · rw [if_pos hl] at k2
          obtain ⟨p1, vs, rfl, h1, r1⟩ := s2.tryL (q1.mono x2.le) e1
          obtain ⟨p2, us, rfl, h2, r2⟩ := s2.tryL q2 e2
          exact ⟨p1, p2, vs, us, rfl, rfl, h1, h2, by rw [← r1.length, ← r2.length, ← big_eq]; exact hl, fun p hp => k2.new s2 (r1.append r2) hp⟩
        · rw [if_neg hl] at k2; exact k2.elim⟩⟩
/-! list(range(n)), list(range(a, b)) -/
theorem rgV_reps {W : Wd} (a b : Int) : Reps G W (rngL a (b - a).toNat) (rgV a b) := by
  unfold rngL rgV
  induction (List.range (b - a).toNat) with
  | nil => exact .nil
  | cons x l ih => exact .cons (repI _ _) ih
def lrgF (m : M Da) : M (List Da) := fun ρ S => (m ρ S).bind fun d S1 => match d with
  | .int n => if 0 ≤ n ∧ n ≤ 16777216 then .ok (rngL 0 n.toNat) S1 else .bad
  | _ => .bad
theorem pdf_listRange {p p2 pos2 : Pos} (hm : X.mg "list" = none) (hm2 : X.mg "range" = none) (he : PE X e (tM G Wx m)) (hc : X.calm = true := by rfl) (hg : Gl X "list" := by rfl) (hg2 : Gl X "range" := by rfl)
    (na : starEach [e] X.env = (false, eval e X.env) :: starEach [] X.env := by rfl) (nb : starEach [Expr.Call (.Name "range" p2) [e] [] pos2] X.env = (false, eval (Expr.Call (.Name "range" p2) [e] [] pos2) X.env) :: starEach [] X.env := by rfl) :
    PE X (.Call (.Name "list" p) [.Call (.Name "range" p2) [e] [] pos2] [] pos) (tF G Wx (lrgF m)) :=
  (pe_listRg hc hg hm (prg_1 hg2 hm2 he na) nb).imp fun σ H Q ⟨W, S, ρ, s, r, q⟩ => ⟨W, S, ρ, s, r, AftF.bind q fun d S1 v W1 H1 x1 s1 q1 k1 => by
    cases d with
    | int n =>
      have k1 : AftF G Wx σ W1 H1 (if 0 ≤ n ∧ n ≤ 16777216 then .ok (rngL 0 n.toNat) S1 else .bad) Q := k1
      by_cases h : 0 ≤ n ∧ n ≤ 16777216
      · rw [if_pos h] at k1
        refine ⟨n, q1.int_inv, RgOk.of_le (by omega) h.2 (by omega) h.1, fun p hp => ?_⟩
        have rr := rgV_reps (G := G) (W := W1) 0 n
        rw [Int.sub_zero] at rr
        exact k1.new s1 rr hp
      · rw [if_neg h] at k1; exact k1.elim
    | _ => exact k1.elim⟩
/-! sorted(set(t)), t a tuple of ints -/
def insU (x : Int) : List Int → List Int
  | [] => [x]
  | y :: r => if x < y then x :: y :: r else if x = y then y :: r else y :: insU x r
def sortU (l : List Int) : List Int := l.foldr insU []
theorem mem_insU {x k : Int} : ∀ {l : List Int}, k ∈ insU x l ↔ k = x ∨ k ∈ l
  | [] => by simp [insU]
  | y :: r => by
    unfold insU
    by_cases h : x < y
    · rw [if_pos h]; simp
    · rw [if_neg h]
      by_cases e : x = y
      · rw [if_pos e]; subst e; simp
      · rw [if_neg e, List.mem_cons, mem_insU, List.mem_cons]
        constructor
        · rintro (h | h | h) <;> simp [h]
        · rintro (h | h | h) <;> simp [h]
theorem insU_sorted {x : Int} : ∀ {l : List Int}, l.Pairwise (· < ·) → (insU x l).Pairwise (· < ·)
  | [], _ => by simp [insU]
  | y :: r, h => by
    unfold insU
    rw [List.pairwise_cons] at h
    by_cases c : x < y
    · rw [if_pos c, List.pairwise_cons, List.pairwise_cons]
      refine ⟨fun z hz => ?_, h⟩
      rcases List.mem_cons.mp hz with e | e
      · rw [e]; exact c
      · have := h.1 z e; omega
    · rw [if_neg c]
      by_cases e : x = y
      · rw [if_pos e, List.pairwise_cons]; exact h
      · rw [if_neg e, List.pairwise_cons]
        refine ⟨fun z hz => ?_, insU_sorted h.2⟩
        rcases mem_insU.mp hz with e2 | e2
        · omega
        · exact h.1 z e2
theorem mem_sortU {k : Int} {l : List Int} : k ∈ sortU l ↔ k ∈ l := by
  induction l with
  | nil => simp [sortU]
  | cons x l ih =>
    show k ∈ insU x (sortU l) ↔ _
    rw [mem_insU, ih, List.mem_cons]
theorem sortU_sorted (l : List Int) : (sortU l).Pairwise (· < ·) := by
  induction l with
  | nil => simp [sortU]
  | cons x l ih => exact insU_sorted ih
theorem sorted_eq : ∀ {l m : List Int}, l.Pairwise (· < ·) → m.Pairwise (· < ·) → (∀ k, k ∈ l ↔ k ∈ m) → l = m
  | [], [], _, _, _ => rfl
  | [], y :: m, _, _, h => absurd ((h y).mpr List.mem_cons_self) (by simp)
  | x :: l, [], _, _, h => absurd ((h x).mp List.mem_cons_self) (by simp)
  | x :: l, y :: m, h1, h2, h => by
    rw [List.pairwise_cons] at h1 h2
    have e : x = y := by
      rcases List.mem_cons.mp ((h x).mp List.mem_cons_self) with e | e
      · exact e
      · rcases List.mem_cons.mp ((h y).mpr List.mem_cons_self) with e2 | e2
        · exact e2.symm
        · have := h2.1 x e; have := h1.1 y e2; omega
    subst e
    have := sorted_eq h1.2 h2.2 fun k => by
      constructor
      · intro hk
        rcases List.mem_cons.mp ((h k).mp (List.mem_cons_of_mem _ hk)) with e | e
        · subst e; have := h1.1 k hk; omega
        · exact e
      · intro hk
        rcases List.mem_cons.mp ((h k).mpr (List.mem_cons_of_mem _ hk)) with e | e
        · subst e; have := h2.1 k hk; omega
        · exact e
    rw [this]
/-- the ints of a list of ints -/
def intsOf : List Da → Option (List Int)
  | [] => some []
  | .int i :: r => (intsOf r).map (i :: ·)
  | _ => none
theorem intsOf_eq : ∀ {l : List Da} {ns : List Int}, intsOf l = some ns → l = ns.map Da.int
  | [], ns, h => by cases h; rfl
  | .int i :: r, ns, h => by
    unfold intsOf at h
    cases e : intsOf r with
    | none => simp [e] at h
    | some ms => rw [e] at h; cases h; rw [intsOf_eq e]; rfl
theorem Reps.ints {W : Wd} : ∀ {ns : List Int} {vs : List V}, Reps G W (ns.map Da.int) vs → vs = ns.map V.int
  | [], vs, h => h.inv_nil
  | n :: ns, vs, h => by
    obtain ⟨v, t, rfl, h1, h2⟩ := h.inv_cons
    rw [h1.int_inv, Reps.ints h2]; rfl
theorem reps_ints {W : Wd} : ∀ ns : List Int, Reps G W (ns.map Da.int) (ns.map V.int)
  | [] => .nil
  | n :: ns => .cons (repI _ _) (reps_ints ns)
theorem ints_of : ∀ {ns : List Int} {us : List Value}, Vals (ns.map V.int) us → IntsAre us ns
  | [], us, h => by cases h; exact .nil
  | n :: ns, us, h => by
    cases h with
    | cons r q =>
      obtain ⟨t, rfl⟩ := r
      exact .cons n t (ints_of q)
def rSetT (K : PySem.W.Frag) (w : World) : List V → Hp → VK → Prop := fun vs H Q => ∃ (l : Addr) (ns : List Int), vs = [.ref l] ∧ SqT K H l (ns.map V.int) ∧ ns.length < 64 ∧
  ∀ p c, H p = none → c ≤ ns.length → Q (.ref p) (upd H p (SetO w p (fun j => decide (j ∈ ns)) c))
theorem cr_setT (hc : X.calm = true) : CallR X (.type "set") (rSetT X.K X.w) := by
  intro pins s σ H vs us Q J r h
  have I := J
  obtain ⟨l, ns, rfl, hq, h64, q⟩ := h
  rw [Vals.ref1 r]
  obtain ⟨its, rv, pl, hz⟩ := I.tuple hq
  refine call_set_tupI ns (I.ok.hd hc) pl (by simpa using ints_of rv) (by unfold scanBound; omega) fun h' tk c hS hle hk => ?_
  exact ⟨.ref s.heap.objs.size, upd H s.heap.objs.size (SetO X.w s.heap.objs.size (fun j => decide (j ∈ ns)) c), I.laid (t' := tk) hk (Nat.le_refl _) (setO_new hS), rfl, q _ c (I.hok.fresh (Nat.le_refl _)) hle⟩
def ssF (m : M Da) : M (List Da) := fun ρ S => (m ρ S).bind fun d S1 => match d with
  | .tup l => match intsOf l with
    | some ns => if ns.length < 64 then .ok ((sortU ns).map Da.int) S1 else .bad
    | none => .bad
  | _ => .bad
theorem pdf_sortedSet {p p2 pos2 : Pos} (hm : X.mg "sorted" = none) (hm2 : X.mg "set" = none) (he : PE X e (tM G Wx m)) (hc : X.calm = true := by rfl) (hK : G.K = X.K := by rfl) (hg : Gl X "sorted" := by rfl) (hg2 : Gl X "set" := by rfl)
    (na : starEach [e] X.env = (false, eval e X.env) :: starEach [] X.env := by rfl) (nb : starEach [Expr.Call (.Name "set" p2) [e] [] pos2] X.env = (false, eval (Expr.Call (.Name "set" p2) [e] [] pos2) X.env) :: starEach [] X.env := by rfl) :
    PE X (.Call (.Name "sorted" p) [.Call (.Name "set" p2) [e] [] pos2] [] pos) (tF G Wx (ssF m)) :=
  (pe_callB (cr_sortedSet hc) hg hm (by decide +kernel) (pa_cons (pe_callTy (cr_setT hc) hg2 hm2 (by decide +kernel) (pa_cons he pa_nil na) (by decide) (by decide) na (by rfl)) pa_nil nb) (by decide) (by decide) nb (by rfl)).imp fun σ H Q ⟨W, S, ρ, s, r, q⟩ => ⟨W, S, ρ, s, r, AftF.bind q fun d S1 v W1 H1 x1 s1 q1 k1 => by
    cases d with
    | tup l =>
      dsimp only at k1
      cases e : intsOf l with
      | none => rw [e] at k1; exact k1.elim
      | some ns =>
        rw [e] at k1
        dsimp only at k1
        by_cases h64 : ns.length < 64
        · rw [if_pos h64] at k1
          have el := intsOf_eq e
          subst el
          obtain ⟨a, vs, rfl, h1, h2⟩ := q1.tup_inv
          have ev := h2.ints
          subst ev
          rw [hK] at h1
          refine ⟨a, ns, rfl, s1.sqT h1, h64, fun p c hp hcl => ⟨p, _, c, rfl, upd_same, by omega, fun ms p2 hsort hmem hlen hp2 => ?_⟩⟩
          obtain ⟨x2, s2⟩ := Ext.add s1 (o := SetO X.w p (fun j => decide (j ∈ ns)) c) hp
          have em : ms = sortU ns := sorted_eq hsort (sortU_sorted ns) fun k => by rw [hmem k, mem_sortU]; simp
          subst em
          exact (k1.later x2).new s2 (reps_ints _) hp2
        · rw [if_neg h64] at k1; exact k1.elim
    | _ => exact k1.elim⟩
end
end NL

set_option Elab.async false
set_option linter.all false
set_option maxRecDepth 100000
set_option maxHeartbeats 4100000
namespace NL
open PySem PySem.Spec PyProof.Rows L2

/-! ### a caught exception: isinstance, its field -/
/-- isinstance(e, c), e the exception that the suite holds, with a dict or without -/
def rIsX (K : PySem.W.Frag) (D a : Addr) (dx : Option Addr) : List V → Hp → VK → Prop := fun xs H Q => ∃ (c : V) (cv : Value) (b : Bool), xs = [.ref a, c] ∧ ClsV c cv ∧ PySem.W.kitOne K (.ref D) cv = some b ∧
  (dx = none ∨ ∃ dd fs, dx = some dd ∧ H dd = some (.xd fs)) ∧ Q (.bl b) H
theorem call_isX {X : Cx} {a D : Addr} {dx : Option Addr} {oe : Obj} {pn : List (Addr × Obj)} (C : ExcC X.K D) (hz : Zc (.ref D) dx oe) (hf : ∃ vs, oe.data = .fields vs) : CallR (X.suite a ((a, oe) :: pn)) (.builtin "isinstance") (rIsX X.K D a dx) := by
  rintro pins s σ H xs us Q I r ⟨c, cv, b, rfl, hcv, e, hd, q⟩
  obtain ⟨u1, u2, rfl, rx, rc⟩ := vals2 r
  cases rx
  rw [hcv.eq rc]
  have here : s.heap.get? a = some oe := (I.pin (a, oe) (by simp)).1
  have J : ∃ od, PySem.W.InstAt s.heap a oe D od := by
    obtain ⟨vs, hv⟩ := hf
    have hn : PySem.W.notCls oe := by unfold PySem.W.notCls; rw [hv] <;> rfl
    rcases hd with rfl | ⟨dd, fs, rfl, ea⟩
    · exact ⟨none, here, hz.1, hn, by rw [hz.2]; trivial⟩
    · obtain ⟨mA, ⟨o, _, _, ho, _⟩, _⟩ := (show ObjOk X.prog X.w H s.heap dd (.xd fs) from I.hok dd _ ea)
      exact ⟨some o, here, hz.1, hn, by rw [hz.2]; exact ho⟩
  obtain ⟨od, J⟩ := J
  have hc : (PySem.W.clsIn X.K D).isSome = true := by obtain ⟨cd, hc, _⟩ := PySem.W.any_some C.hd; rw [hc]; rfl
  exact PySem.W.kia_one (PySem.W.kitx_exc hc C.hg C.hk C.hs C.ha C.hn C.ht C.hm) I.kIn J e (fun z => nomatch z) fun tk => ⟨.bl b, H, I.kept (t' := tk) fun _ _ z => z, rfl, q⟩
end NL

set_option Elab.async false
set_option linter.all false
set_option maxRecDepth 100000
set_option maxHeartbeats 4100000
namespace NL
open PySem PySem.Spec PyProof.Rows L2

/-! ### an own exception's __init__ : self.f = given -/
def spIni (K : PySem.W.Frag) (f : Str) : Sp := fun vs H Q E => ∃ (a C : Addr) (y : V), vs = [.ref a, y] ∧ OexC K C ∧ PySem.W.findIn K (.ref C) f = some none ∧ H a = some (exo a C none) ∧
  ∀ dx, H dx = none → dx ≠ a → Q .non (upd (upd H dx (exd dx [(f, y)])) a (exo a C (some dx)))
/-- what is known of a class whose instances are raised, made with one value -/
structure OwnX (P : Program) (w : World) (K : PySem.W.Frag) (mg : Str → Option Value) (base : Heap) (G : Gc) (c f : Str) : Prop where
  T : OexC K (G.cls c)
  nf : PySem.W.findIn K (.ref (G.cls c)) f = some none
  ini : ∃ fI fd ps, PySem.W.findIn K (.ref (G.cls c)) "__init__" = some (some (.ref fI)) ∧ PySem.W.typeIn K (.ref fI) = some (.type "function") ∧ FnOk P w K mg base (L2.CX P w) 1 fI fd ps (spIni K f) ∧ Binds K fd ps []
  mg : mg c = some (.ref (G.cls c))
  xf : G.xf c = some f
def raiseS (c : Str) (fe : M Da) : MS := fun ρ S => (fe ρ S).thenS ρ fun d S1 => .exc c d ρ S1
section
variable {X : Cx} {G : Gc} {Wx : WX} {e : Expr} {p pos pos2 : Pos} {fe : M Da} {c f : Str}
theorem psd_raise (O : OwnX X.prog X.w X.K X.mg X.base G c f) (hr : RoomG 2 X.A) (tk : Takes X Wx) (he : PE X e (tM G Wx fe)) (hc : X.calm = true := by rfl) (hg : Gl X c := by rfl) (hdb : (c == ("__debug__" : Str)) = false := by decide)
    (hpx : Passes (L2.CX X.prog X.w) X (fun _ _ _ => False)) (na : starEach [e] X.env = (false, eval e X.env) :: starEach [] X.env := by rfl) : PS X (.Raise (some (.Call (.Name c p) [e] [] pos)) none pos2) (tS G Wx (raiseS c fe)) := by
  obtain ⟨fI, fd, ps, h1, h2, h3, h4⟩ := O.ini
  refine (ps_raise hc tk (pmk_oex (ds := []) (dvs := []) O.T h1 h2 h3 hr.rm h4 .nil hpx hg O.mg (pa_cons he pa_nil na) hdb na (by rfl))).imp fun D σ H ⟨W, S, ρ, s, r, q⟩ => ⟨W, S, ρ, s, r, q.bind r fun d S1 v W1 H1 x1 s1 q1 k1 => ⟨by show 1 ≤ 1000; decide, fun a ha => ?_⟩⟩
  refine ⟨a, G.cls c, v, rfl, O.T, O.nf, upd_same, fun dx hdx hne => ⟨rfl, dx, _, upd_same, by rw [upd_ne hne, upd_same], by rw [upd_ne hne] at hdx; exact hdx, ?_⟩⟩
  have hdx1 : H1 dx = none := by rw [upd_ne hne] at hdx; exact hdx
  have eH : upd (del (upd (upd (upd H1 a (exo a (G.cls c) none)) dx (exd dx [(f, v)])) a (exo a (G.cls c) (some dx))) a) dx (.xd [(f, v)]) = upd H1 dx (.xd [(f, v)]) := by
    funext b
    by_cases e1 : b = dx
    · subst e1; rw [upd_same, upd_same]
    · rw [upd_ne e1, upd_ne e1]
      by_cases e2 : b = a
      · subst e2; rw [del_same, ha]
      · rw [del_ne e2, upd_ne e2, upd_ne e1, upd_ne e2]
  rw [eH]
  obtain ⟨x2, s2⟩ := Ext.frz s1 (o := .xd [(f, v)]) hdx1
  refine k1 (.ref (G.cls c)) (some dx) σ _ _ x2 s2 (r.mono (x1.le.trans x2.le)) ⟨rfl, v, ?_, q1.mono x2.le⟩
  unfold XDict
  rw [O.xf]
  exact ⟨dx, rfl, frz_same⟩
end

/-! ### try .. except X as n -/
def wipeRS (i : Nat) : RS → RS
  | .nx ρ S => .nx (ρ.set i none) S
  | .bk ρ S => .bk (ρ.set i none) S
  | .ct ρ S => .ct (ρ.set i none) S
  | .rt d S => .rt d S
  | _ => .bad
abbrev Hd := Addr → Option Addr → Str → MS
def tryAsS (mat : Str → Option Bool) (i : Nat) (f : MS) (g : Hd) : MS := fun ρ S => match f ρ S with
  | .exc c d ρ1 S1 => match mat c with
    | some true => wipeRS i (g 0 none c (ρ1.set i (some (.exc 0 none c d))) S1)
    | some false => .exc c d ρ1 S1
    | none => .bad
  | .nx ρ S => .nx ρ S
  | .bk ρ S => .bk ρ S
  | .ct ρ S => .ct ρ S
  | .rt d S => .rt d S
  | .bad => .bad
/-- .. and without a name -/
def tryS (mat : Str → Option Bool) (f : MS) (g : MS) : MS := fun ρ S => match f ρ S with
  | .exc c d ρ1 S1 => match mat c with
    | some true => g ρ1 S1
    | some false => .exc c d ρ1 S1
    | none => .bad
  | .nx ρ S => .nx ρ S
  | .bk ρ S => .bk ρ S
  | .ct ρ S => .ct ρ S
  | .rt d S => .rt d S
  | .bad => .bad
section
variable {X : Cx} {G : Gc} {Wx : WX} {x n : Str} {C : Str} {i : Nat} {body suite : List Stmt} {b₀ : Stmt} {np pos pos' : Pos} {f : MS} {g : Hd} {mat : Str → Option Bool}
theorem AftS.wipe {W : Wd} {H : Hp} {r : RS} {D : Ends} (h : AftS G Wx W H (wipeRS i r) D) : AftS G WN W H r { nx := fun σ' H' => D.nx (σ'.set i none) H', rt := D.rt, bk := fun σ' H' => D.bk (σ'.set i none) H', ct := fun σ' H' => D.ct (σ'.set i none) H' } := by
  cases r with
  | nx ρ S => exact fun σ W' H' x s e => h _ W' H' x s (e.none i)
  | rt d S => exact h
  | bk ρ S => exact fun σ W' H' x s e => h _ W' H' x s (e.none i)
  | ct ρ S => exact fun σ W' H' x s e => h _ W' H' x s (e.none i)
  | exc c d ρ S => exact h.elim
  | bad => exact h
theorem PSs.ex {X : Cx} {sts : List Stmt} {α : Sort _} {t : α → TS} (h : ∀ a, PSs X sts (t a)) : PSs X sts (fun D σ H => ∃ a, t a D σ H) := ⟨fun pins s σ H D I ⟨a, q⟩ => (h a).run pins s σ H D I q⟩
theorem PSs.and {X : Cx} {sts : List Stmt} {p : Prop} {t : TS} (h : p → PSs X sts t) : PSs X sts (fun D σ H => p ∧ t D σ H) := ⟨fun pins s σ H D I ⟨a, q⟩ => (h a).run pins s σ H D I q⟩
theorem psd_try_as (hN : X.N.Nodup) (hc : Names X x (.ref (G.cls C))) (hm : ∀ c b, mat c = some b → PySem.W.exmOne X.K (.ref (G.cls c)) (.ref (G.cls C)) = some b) (tk : Takes X Wx)
    (hb : ∀ (W : WX) (pn : List (Addr × Obj)) (xe : Value → Shared → Prop), Takes (X.tr pn xe) W → PassesOwn (model X.prog X.w) X.A X.env xe → PSs (X.tr pn xe) body (tS G W f))
    (hsu : ∀ (a : Addr) (oe : Obj) (c : Str) (dx : Option Addr) (pn : List (Addr × Obj)), mat c = some true → Zc (.ref (G.cls c)) dx oe → (∃ vs, oe.data = .fields vs) → PSs (X.suite a ((a, oe) :: pn)) (b₀ :: suite) (tS G WN (g a dx c)))
    (hind : ∀ (a : Addr) (dx : Option Addr) (c : Str) (d : Da) (ρ : En) (S : Store), wipeRS i (g a dx c (ρ.set i (some (.exc a dx c d))) S) = wipeRS i (g 0 none c (ρ.set i (some (.exc 0 none c d))) S))
    (hs : X.stack = X.env :: X.outer := by rfl) (hf : X.env.frame = some X.env.locals := by rfl) (hi : X.N[i]? = some n := by rfl) (hln : X.env.kindOf n = some .local := by rfl) :
    PS X (.Try body [.ExceptHandler (some (.Name x np)) (some n) (b₀ :: suite) pos'] [] [] pos) (tS G Wx (tryAsS mat i f g)) := by
  refine (ps_try_as (ts := fun a cls dx D σ H => ∃ c : Str, (mat c = some true ∧ cls = .ref (G.cls c)) ∧ tS G WN (g a dx c) D σ H) (tb := fun W => tS G W f) hs hf hN hi hln hc tk hb ?_).imp ?_
  · intro a oe cls dx pn hz hfl
    refine PSs.ex fun c => PSs.and fun ⟨h1, h2⟩ => ?_
    subst h2
    exact hsu a oe c dx pn h1 hz hfl
  · rintro D σ H ⟨W, S, ρ, s, r, q⟩
    refine ⟨W, S, ρ, s, r, ?_⟩
    unfold tryAsS at q
    revert q
    cases f ρ S with
    | nx ρ1 S1 => exact fun q => q
    | rt d S1 => exact fun q => q
    | bk ρ1 S1 => exact fun q => q
    | ct ρ1 S1 => exact fun q => q
    | bad => exact fun q => q
    | exc c d ρ1 S1 =>
      intro q cls dx σ1 W1 H1 x1 s1 r1 xr
      obtain ⟨ec, u, xd, rd⟩ := xr
      subst ec
      have q := q.later x1
      dsimp only at q
      cases em : mat c with
      | none => rw [em] at q; exact q.elim
      | some b =>
        rw [em] at q
        refine ⟨b, hm c b em, fun eb a ha => ?_, fun eb => ?_⟩
        · subst eb
          refine ⟨c, ⟨em, rfl⟩, W1, S1, ρ1.set i (some (.exc a dx c d)), s1, r1.set (by rw [Rep]; exact ⟨rfl, u, xd, rd⟩), ?_⟩
          refine AftS.wipe (Wx := Wx) ?_
          rw [hind]
          exact q
        · subst eb
          exact q _ _ σ1 W1 H1 (.refl _ _) s1 r1 ⟨rfl, u, xd, rd⟩
end

/-! ### in the suite -/
def isXM (a : Addr) (dx : Option Addr) (c : Str) (i : Nat) (t : Option Bool) : M Da := fun ρ S => match ρ[i]? with
  | some (some (.exc a' dx' c' _)) => if a' = a ∧ dx' = dx ∧ c' = c then ofO (t.map Da.bl) S else .bad
  | _ => .bad
def xfM (a : Addr) (dx : Option Addr) (c : Str) (i : Nat) (t : Bool) : M Da := fun ρ S => match ρ[i]? with
  | some (some (.exc a' dx' c' d)) => if a' = a ∧ dx' = dx ∧ c' = c ∧ t = true then .ok d S else .bad
  | _ => .bad
section
variable {X : Cx} {G : Gc} {Wx : WX} {a : Addr} {dx : Option Addr} {c : Str} {i : Nat} {oe : Obj} {pn : List (Addr × Obj)} {n f : Str} {p p1 p2 pos : Pos}
theorem rep_exc {W : Wd} {d : Da} {v : V} (r : Rep G W (.exc a dx c d) v) : v = .ref a ∧ ∃ u, XDict G W dx c d u ∧ Rep G W d u := by rw [Rep] at r; exact r
theorem pe_varX (hN : X.N[i]? = some n) (hv : Vis X.env.scope n) (hd : (n == ("__debug__" : Str)) = false) (hcd : (n == ("__classdict__" : Str)) = false) : PE X (.Name n pos) (tM G Wx (varM i)) := pd_var i hN hv hd hcd
theorem pd_isX {y : Str} {cv : Value} {yv : V} {t : Option Bool} (hcE : ExcC X.K (G.cls c)) (hz : Zc (.ref (G.cls c)) dx oe) (hf : ∃ vs, oe.data = .fields vs)
    (hy : PE (X.suite a ((a, oe) :: pn)) (.Name y p2) (tC yv)) (hyv : ClsV yv cv) (ht : ∀ b, t = some b → PySem.W.kitOne X.K (.ref (G.cls c)) cv = some b) (hm : X.mg "isinstance" = none)
    (hN : X.N[i]? = some n := by rfl) (hv : Vis X.env.scope n := by first | exact Or.inl rfl | exact Or.inr (Or.inl rfl) | exact Or.inr (Or.inr rfl)) (hd : (n == ("__debug__" : Str)) = false := by decide)
    (hcd : (n == ("__classdict__" : Str)) = false := by decide) (hg : Gl X "isinstance" := by rfl)
    (hs : starEach [.Name n p1, .Name y p2] X.env = (false, eval (.Name n p1) X.env) :: starEach [.Name y p2] X.env := by rfl) (hpl : (backTo pos (starEach [.Name y p2] X.env)).any (·.1) = false := by rfl) (hs2 : starEach [.Name y p2] X.env = (false, eval (.Name y p2) X.env) :: starEach [] X.env := by rfl) :
    PE (X.suite a ((a, oe) :: pn)) (.Call (.Name "isinstance" p) [.Name n p1, .Name y p2] [] pos) (tM G Wx (isXM a dx c i t)) :=
  (pe_callB (call_isX hcE hz hf) hg hm (by decide +kernel) (pa_cons (pe_var (X := X.suite a ((a, oe) :: pn)) hN hv hd hcd) (pa_cons hy pa_nil hs2) hs) (by decide) (by decide) hs hpl).imp fun σ H Q ⟨W, S, ρ, s, r, q⟩ => by
    unfold isXM at q
    cases z : ρ[i]? with
    | none => rw [z] at q; exact q.elim
    | some o =>
      rw [z] at q
      cases o with
      | none => exact q.elim
      | some d =>
        cases d with
        | exc a' dx' c' d =>
          replace q : Aft (RV G) G Wx σ W H (if a' = a ∧ dx' = dx ∧ c' = c then ofO (t.map Da.bl) S else .bad) Q := q
          by_cases hh : a' = a ∧ dx' = dx ∧ c' = c
          · rw [if_pos hh] at q
            obtain ⟨rfl, rfl, rfl⟩ := hh
            obtain ⟨v, hv, rv⟩ := r.at' i _ z
            obtain ⟨rfl, u, xd, _⟩ := rep_exc rv
            cases t with
            | none => exact q.elim
            | some b =>
              refine ⟨_, hv, yv, cv, b, rfl, hyv, ht b rfl, ?_, q.here s (repB W _)⟩
              unfold XDict at xd
              split at xd
              · exact .inl xd.1
              · obtain ⟨dd, e1, e2⟩ := xd
                exact .inr ⟨dd, _, e1, s.sub _ _ e2⟩
          · rw [if_neg hh] at q; exact q.elim
        | _ => exact q.elim
theorem pd_xf {t : Bool} (hX : XfC X.K (G.cls c)) (hz : Zc (.ref (G.cls c)) dx oe) (hf : ∃ vs, oe.data = .fields vs) (ht : t = true → G.xf c = some f ∧ PySem.W.findIn X.K (.ref (G.cls c)) f = some none)
    (hno : PySem.W.findIn X.K (.ref (G.cls c)) f = some none)
    (hN : X.N[i]? = some n := by rfl) (hv : Vis X.env.scope n := by first | exact Or.inl rfl | exact Or.inr (Or.inl rfl) | exact Or.inr (Or.inr rfl)) (hd : (n == ("__debug__" : Str)) = false := by decide)
    (hcd : (n == ("__classdict__" : Str)) = false := by decide) (hb : attributeBase (.Name n p1) f X.env (eval (.Name n p1) X.env) = eval (.Name n p1) X.env := by rfl) :
    PE (X.suite a ((a, oe) :: pn)) (.Attribute (.Name n p1) f pos) (tM G Wx (xfM a dx c i t)) :=
  (pe_xf (d := dx) hX hno hz hf (pe_var (X := X.suite a ((a, oe) :: pn)) hN hv hd hcd) hb).imp fun σ H Q ⟨W, S, ρ, s, r, q⟩ => by
    unfold xfM at q
    cases z : ρ[i]? with
    | none => rw [z] at q; exact q.elim
    | some o =>
      rw [z] at q
      cases o with
      | none => exact q.elim
      | some d =>
        cases d with
        | exc a' dx' c' d =>
          replace q : Aft (RV G) G Wx σ W H (if a' = a ∧ dx' = dx ∧ c' = c ∧ t = true then .ok d S else .bad) Q := q
          by_cases hh : a' = a ∧ dx' = dx ∧ c' = c ∧ t = true
          · rw [if_pos hh] at q
            obtain ⟨rfl, rfl, rfl, et⟩ := hh
            obtain ⟨v, hv, rv⟩ := r.at' i _ z
            obtain ⟨rfl, u, xd, rd⟩ := rep_exc rv
            unfold XDict at xd
            rw [(ht et).1] at xd
            obtain ⟨dd, e1, e2⟩ := xd
            exact ⟨_, hv, rfl, rfl, dd, _, u, e1, s.sub _ _ e2, by simp [List.lookup], q.here s rd⟩
          · rw [if_neg hh] at q; exact q.elim
        | _ => exact q.elim
end
end NL

set_option Elab.async false
set_option linter.all false
set_option maxRecDepth 100000
set_option maxHeartbeats 4100000
namespace NL
open PySem PySem.Spec PyProof.Rows L2

/-! ### a written dict of the module, text keys, int values -/
def entOk (P : Params) : List DictEntry → List (Str × Int) → Prop
  | [], [] => True
  | e :: r, kv :: s => ((∃ t, e.key = .str kv.1 t) ∧ (∃ u, e.val = .int kv.2 u) ∧ e.hash = PyData.keyHash P kv.1) ∧ entOk P r s
  | _, _ => False
structure DctOk (K : PySem.W.Frag) (w : World) (mg : Str → Option Value) (x : Str) (kvs : List (Str × Int)) : Prop where
  ex : ∃ d es n, mg x = some (.ref d) ∧ KDict K w d es n ∧ entOk w.params es.toList kvs
theorem entOk.lit {P : Params} : ∀ {l : List DictEntry} {kvs : List (Str × Int)}, entOk P l kvs → PySem.W.KeysLit P l
  | [], [], _ => trivial
  | e :: r, (k, v) :: s, h => by
    obtain ⟨⟨⟨t, h1⟩, _, h2⟩, h3⟩ := h
    exact ⟨⟨k, t, h1, h2⟩, h3.lit⟩
theorem DctOk.of {K : PySem.W.Frag} {w : World} {mg : Str → Option Value} {x : Str} {d : Addr} {es : Array DictEntry} {n : Nat} {kvs : List (Str × Int)} (hm : mg x = some (.ref d)) (hl : K.lookup d = some ⟨.type "dict", none, .dict es n, #[]⟩) (hn : (d == sysModules) = false) (h : entOk w.params es.toList kvs) : DctOk K w mg x kvs :=
  ⟨d, es, n, hm, ⟨hl, h.lit, hn⟩, h⟩
theorem ent_find {P : Params} {z : Str} : ∀ {l : List DictEntry} {kvs : List (Str × Int)}, entOk P l kvs → ∃ r, (match l.find? (·.key.isStr z) with
      | some e => some (some e.val)
      | none => if l.any (·.refKey) then none else some none) = some r ∧ match kvs.lookup z with | some i => ∃ t, r = some (.int i t) | none => r = none
  | [], [], _ => ⟨none, rfl, rfl⟩
  | e :: r, (k, v) :: s, h => by
    obtain ⟨⟨⟨t, h1⟩, ⟨u, h2⟩, _⟩, h3⟩ := h
    obtain ⟨o, e1, e2⟩ := ent_find (z := z) h3
    have ek : e.key.isStr z = (k == z) := by rw [h1]; rfl
    have er : e.refKey = false := by unfold DictEntry.refKey; rw [h1]
    rw [List.find?_cons, List.any_cons, List.lookup_cons, ek, er]
    by_cases c : k = z
    · subst c
      simp only [beq_self_eq_true]
      exact ⟨_, rfl, u, by rw [h2]⟩
    · have c1 : (k == z) = false := by simpa using c
      have c2 : (z == k) = false := by simpa using Ne.symm c
      rw [c1, c2]
      simp only [Bool.false_or]
      exact ⟨o, e1, e2⟩
theorem dct_at {K : PySem.W.Frag} {w : World} {d : Addr} {es : Array DictEntry} {n : Nat} {kvs : List (Str × Int)} (D : KDict K w d es n) (h : entOk w.params es.toList kvs) (z : Str) :
    ∃ r, PySem.W.nsIn K d z = some r ∧ match kvs.lookup z with | some i => ∃ t, r = some (.int i t) | none => r = none := by
  unfold PySem.W.nsIn
  rw [D.at_]
  exact ent_find h
section
variable {X : Cx} {G : Gc} {Wx : WX} {e : Expr} {f : M Da} {x : Str} {kvs : List (Str × Int)} {p pos : Pos}
def inDctM (kvs : List (Str × Int)) (f : M Da) : M Da := fun ρ S => (f ρ S).bind fun d S1 => match d with
  | .str z => .ok (.bl (kvs.lookup z).isSome) S1
  | _ => .bad
def ixDctM (kvs : List (Str × Int)) (f : M Da) : M Da := fun ρ S => (f ρ S).bind fun d S1 => match d with
  | .str z => ofO ((kvs.lookup z).map Da.int) S1
  | _ => .bad
theorem pd_inDct (D : DctOk X.K X.w X.mg x kvs) (he : PE X e (tM G Wx f)) (hg : Gl X x := by rfl) (hd : (x == ("__debug__" : Str)) = false := by decide) (hm : behindInMarks .In (.Name x p) = false := by first | exact nobehind _ (by decide) (by decide) | rfl) :
    PE X (.Compare e [.In] [.Name x p] pos) (tM G Wx (inDctM kvs f)) := by
  obtain ⟨d, es, n, h1, h2, h3⟩ := D.ex
  refine (pe_cmpR (op_in_kd h2) he (pe_glob (v := .ref d) hg h1 rfl hd) hm).imp fun σ H Q ⟨W, S, ρ, s, r, q⟩ => ⟨W, S, ρ, s, r, q.bind fun a S1 v W1 H1 x1 s1 q1 k1 => ?_⟩
  cases a with
  | str z =>
    obtain ⟨r, e1, e2⟩ := dct_at h2 h3 z
    refine ⟨z, r, q1.str_inv, rfl, e1, ?_⟩
    have k1 : Aft (RV G) G Wx σ W1 H1 (.ok (.bl (kvs.lookup z).isSome) S1) Q := k1
    have eb : r.isSome = (kvs.lookup z).isSome := by
      cases hz : kvs.lookup z with
      | none => rw [hz] at e2; rw [e2]; rfl
      | some i => rw [hz] at e2; obtain ⟨t, e2⟩ := e2; rw [e2]; rfl
    rw [eb]
    exact k1.here s1 (repB W1 _)
  | _ => exact k1.elim
theorem pd_ixDct (D : DctOk X.K X.w X.mg x kvs) (he : PE X e (tM G Wx f)) (hg : Gl X x := by rfl) (hd : (x == ("__debug__" : Str)) = false := by decide) (hs : PlainIx e := by exact fun _ _ => rfl) :
    PE X (.Subscript (.Name x p) e pos) (tM G Wx (ixDctM kvs f)) := by
  obtain ⟨d, es, n, h1, h2, h3⟩ := D.ex
  refine (pe_ix ix_kdict (pe_glob (v := .ref d) hg h1 rfl hd) he hs).imp fun σ H Q ⟨W, S, ρ, s, r, q⟩ => ?_
  refine ⟨W, S, ρ, s, r, q.bind fun a S1 v W1 H1 x1 s1 q1 k1 => ?_⟩
  cases a with
  | str z =>
    have k1 : Aft (RV G) G Wx σ W1 H1 (ofO ((kvs.lookup z).map Da.int) S1) Q := k1
    obtain ⟨r, e1, e2⟩ := dct_at h2 h3 z
    cases hz : kvs.lookup z with
    | none => rw [hz] at k1; exact k1.elim
    | some i =>
      rw [hz] at e2 k1
      obtain ⟨t, e2⟩ := e2
      subst e2
      exact ⟨d, z, .int i, rfl, q1.str_inv, ⟨es, n, _, h2.at_, h2.lit, e1, t, rfl⟩, k1.here s1 (repI W1 _)⟩
  | _ => exact k1.elim

/-! ### a constant of the module: text or int -/
theorem pd_gstr {z : Str} {t : Tok} (hm : X.mg x = some (.str z t)) (hg : Gl X x := by rfl) (hd : (x == ("__debug__" : Str)) = false := by decide) : PE X (.Name x pos) (tM G Wx (cM (.str z))) :=
  (pe_glob (v := .str z) hg hm ⟨t, rfl⟩ hd).imp fun σ H Q h => tR_c (R := RV G) h fun W => repS W z
theorem pd_gint {z : Int} {t : Tok} (hm : X.mg x = some (.int z t)) (hg : Gl X x := by rfl) (hd : (x == ("__debug__" : Str)) = false := by decide) : PE X (.Name x pos) (tM G Wx (cM (.int z))) :=
  (pe_glob (v := .int z) hg hm ⟨t, rfl⟩ hd).imp fun σ H Q h => tR_c (R := RV G) h fun W => repI W z

/-! ### repr of an int -/
def reprID : List Da → Store → Option Da := fun l _ => match l with
  | [.int i] => if i.natAbs < 18446744073709551616 then some (.str (toString i)) else none
  | _ => none
theorem log2_small {n : Nat} (h : n < 18446744073709551616) : n.log2 < 1920 := by
  by_cases z : n = 0
  · subst z; decide
  · have h2 : n.log2 < 64 := (Nat.log2_lt z).mpr (by omega)
    omega
theorem cr_reprI : CallR X (.builtin "repr") (rdn G reprID) := L2.CallR.imp SkE.call_repr_int fun xs H Q ⟨W, S, l, s, r, q⟩ => by
  unfold reprID at q
  split at q
  · rename_i i
    obtain ⟨v, rfl, rv⟩ := r.one
    by_cases h : i.natAbs < 18446744073709551616
    · rw [if_pos h] at q
      exact ⟨i, by rw [rv.int_inv], log2_small h, q.here s (repS W _)⟩
    · rw [if_neg h] at q; exact q.elim
  · exact q.elim
end
end NL

set_option Elab.async false
set_option linter.all false
set_option maxRecDepth 100000
set_option maxHeartbeats 4100000
namespace NL
open PySem PySem.Spec PyProof.Rows L2

/-! ### what is known of a def, a method, a class, a field, all in one -/
section
variable (P : Program) (w : World) (K : PySem.W.Frag) (mg : Str → Option Value) (base : Heap) (G : Gc)
structure CallOk (x : Str) (k n : Nat) (mf : Mf) : Prop where
  ex : ∃ f fd ps, FnG P w K mg base k f fd ps (spM G n mf) ∧ mg x = some (.ref f) ∧ PySem.W.keepIn K (.ref f) = true ∧ Binds K fd ps []
structure MethOk (c m : Str) (k n : Nat) (mf : Mf) : Prop where
  ex : ∃ f fd ps, FnG P w K mg base k f fd ps (spM G n mf) ∧ Cls K (G.cls c) ∧ Meth K (G.cls c) m f ∧ Binds K fd ps []
structure MakeOk (c : Str) (k n : Nat) (mf : Mf) : Prop where
  ex : ∃ f fd ps, FnG P w K mg base k f fd ps (spM G n mf) ∧ Mk K (G.cls c) f ∧ mg c = some (.ref (G.cls c)) ∧ Binds K fd ps []
end
structure FldOk (K : PySem.W.Frag) (G : Gc) (c f : Str) : Prop where
  cl : Cls K (G.cls c)
  na : NoAttr K (G.cls c) f
theorem hu64 {A : Around} {k : Nat} (hr : RoomG k A) : A.units + 64 < cLine := hr.rm.units
theorem passX0 {X : Cx} : Passes (L2.CX X.prog X.w) X (fun _ _ _ => False) := passes_call takes0 fun _ _ _ _ h => h
section
variable {X : Cx} {G : Gc} {Wx : WX} {k n : Nat} {x m c f : Str} {p pos apos : Pos} {e o : Expr} {es : List Expr} {fo fe : M Da} {t : M (List Da)} {mf : Mf}
theorem pdc_call (C : CallOk X.prog X.w X.K X.mg X.base G x k n mf) (hr : RoomG k X.A) (tk : Takes X Wx) (ha : PA X (e :: es) (tMs G Wx t)) (hg : Gl X x := by rfl) (hdb : (x == ("__debug__" : Str)) = false := by decide)
    (he : Arg1 X e es := by rfl) (hpl : NoSt X pos es := by rfl) :
    PE X (.Call (.Name x p) (e :: es) [] pos) (tM G Wx (callF n mf t)) := by
  obtain ⟨f, fd, ps, F, hm, hk, hb⟩ := C.ex
  exact pd_call F hr tk hm hk hb ha hg hdb he hpl
theorem pdc_meth {pl : Sem Bool} (C : MethOk X.prog X.w X.K X.mg X.base G c m k n mf) (hr : RoomG k X.A) (tk : Takes X Wx) (he : PE X o (tM G Wx fo)) (ha : PA X (e :: es) (tMs G Wx t))
    (hst : Arg1 X e es := by rfl) (hpl : NoSt X pos es := by rfl)
    (ht : MethEq X o m apos pos (e :: es) pl := by rfl) :
    PE X (.Call (.Attribute o m apos) (e :: es) [] pos) (tM G Wx (methF c m n mf fo t)) := by
  obtain ⟨f, fd, ps, F, cl, hm, hb⟩ := C.ex
  exact pd_meth he cl hm F hr tk hb ha hst hpl ht
theorem pdc_meth0 {pl : Sem Bool} (C : MethOk X.prog X.w X.K X.mg X.base G c m k n mf) (hr : RoomG k X.A) (tk : Takes X Wx) (he : PE X o (tM G Wx fo))
    (ht : MethEq X o m apos pos [] pl := by rfl) :
    PE X (.Call (.Attribute o m apos) [] [] pos) (tM G Wx (methF c m n mf fo nilM)) := by
  obtain ⟨f, fd, ps, F, cl, hm, hb⟩ := C.ex
  exact pd_meth0 he cl hm F hr tk hb ht
theorem pdc_make (C : MakeOk X.prog X.w X.K X.mg X.base G c k n mf) (hr : RoomG (k + 1) X.A) (tk : Takes X Wx) (ha : PA X (e :: es) (tMs G Wx t)) (hg : Gl X c := by rfl) (hdb : (c == ("__debug__" : Str)) = false := by decide)
    (he : Arg1 X e es := by rfl) (hpl : NoSt X pos es := by rfl) :
    PE X (.Call (.Name c p) (e :: es) [] pos) (tM G Wx (makeF c n mf t)) := by
  obtain ⟨f, fd, ps, F, mk, hm, hb⟩ := C.ex
  exact pd_make mk F hr tk hm hb ha hg hdb he hpl
theorem pdc_fld (C : FldOk X.K G c f) (he : PE X e (tM G Wx fo)) (hb : attributeBase e f X.env (eval e X.env) = eval e X.env := by rfl) : PE X (.Attribute e f pos) (tM G Wx (fldM c f fo)) := pd_fld he C.cl C.na hb
theorem psdc_fld {value : Expr} {pos' : Pos} (C : FldOk X.K G c f) (he : PE X o (tM G Wx fo)) (hv : PE X value (tM G Wx fe)) (hs : swapsWith value (some (.Attribute o f pos')) pos.line X.env = pure false := by rfl) :
    PS X (.Assign [.Attribute o f pos'] value pos) (tS G Wx (setFS c f fo fe)) := psd_fld he hv C.cl C.na hs
end
/-- a def keeps its promise: its mirror by name -/
theorem defk {P : Program} {w : World} {mg : Str → Option Value} {base : Heap} {G : Gc} {x qual : Str} {st : Stmt} {f : Addr} {fd : FuncData} {N ps : List Str} (k n nn : Nat) (m : Mf) (body : MS) (hm : m = defM nn body) (hN : N.length = nn) (hn : ps.length = n) (F : Fun G.K x qual st f fd) (S : FnScope N ps (defScope st))
    (hb : ∀ (cdv : Value) (A : Around) (outer : List Env) (s : Shared) (H : Hp) (E : XK), RoomG k (A.deeper (envOfC qual (defScope st) s.heap.objs.size f cdv)) →
      PSs (cxOf (L2.CX P w) P w G.K mg base N qual (defScope st) f cdv A outer s H E) (defBody st) (tS G (fun cls dx _ H => E cls dx H) body)) : FnG P w G.K mg base (k + 1) f fd ps (spM G n m) := by
  subst hm hN hn
  exact def_ok F S rfl hb
/-! ### classes by name -/
def matOf (yes no : List Str) : Str → Option Bool := fun c => if yes.contains c = true then some true else if no.contains c = true then some false else none
theorem matOf_ok {R : Str → Bool → Prop} {yes no : List Str} (hy : ∀ c ∈ yes, R c true) (hn : ∀ c ∈ no, R c false) : ∀ c b, matOf yes no c = some b → R c b := fun c b h => by
  unfold matOf at h
  split at h
  · rename_i q; cases h; exact hy c (by simpa using q)
  · split at h
    · rename_i q; cases h; exact hn c (by simpa using q)
    · cases h
theorem matOf_yes {R : Str → Prop} {yes no : List Str} (hy : ∀ c ∈ yes, R c) : ∀ c, matOf yes no c = some true → R c := fun c h => by
  unfold matOf at h
  split at h
  · rename_i q; exact hy c (by simpa using q)
  · split at h <;> cases h
theorem allIn_nil {R : Str → Prop} : ∀ c ∈ ([] : List Str), R c := fun c h => by cases h
theorem allIn_cons {R : Str → Prop} {x : Str} {l : List Str} (h : R x) (t : ∀ c ∈ l, R c) : ∀ c ∈ x :: l, R c := fun c m => by
  rcases List.mem_cons.1 m with e | e
  · rw [e]; exact h
  · exact t c e
theorem pd_gstrE {X : Cx} {G : Gc} {Wx : WX} {x z : Str} {pos : Pos} (hm : ∃ t, X.mg x = some (.str z t)) (hg : Gl X x := by rfl) (hd : (x == ("__debug__" : Str)) = false := by decide) : PE X (.Name x pos) (tM G Wx (cM (.str z))) := by
  obtain ⟨t, hm⟩ := hm
  exact pd_gstr hm hg hd
theorem pd_gintE {X : Cx} {G : Gc} {Wx : WX} {x : Str} {z : Int} {pos : Pos} (hm : ∃ t, X.mg x = some (.int z t)) (hg : Gl X x := by rfl) (hd : (x == ("__debug__" : Str)) = false := by decide) : PE X (.Name x pos) (tM G Wx (cM (.int z))) := by
  obtain ⟨t, hm⟩ := hm
  exact pd_gint hm hg hd
theorem hasIn {R : Str → Prop} {l : List Str} (h : ∀ c ∈ l, R c) : ∀ c, l.contains c = true → R c := fun c q => h c (by simpa using q)
theorem kit_ref {K : PySem.W.Frag} {C D : Addr} {b : Bool} (hd : PySem.W.hasDictIn K C = true) (ht : PySem.W.typeIn K (.ref C) = some (.type "type")) (hs : PySem.W.subIn K (.ref C) (.ref C) = some true) (h : PySem.W.subIn K (.ref D) (.ref C) = some b) :
    PySem.W.kitOne K (.ref D) (.ref C) = some b := by
  unfold PySem.W.kitOne
  by_cases e : (Value.ref D == Value.ref C) = true
  · rw [if_pos e]
    have e2 : Value.ref D = Value.ref C := beq_iff_eq.mp e
    rw [e2, hs] at h
    exact h
  · rw [if_neg e]
    obtain ⟨cd, hc, _⟩ := PySem.W.any_some hd
    have e2 : ((PySem.W.clsIn K C).isSome && PySem.W.typeIn K (.ref C) == some (.type "type")) = true := by rw [hc, ht] <;> rfl
    show (if ((PySem.W.clsIn K C).isSome && PySem.W.typeIn K (.ref C) == some (.type "type")) = true then PySem.W.subIn K (.ref D) (.ref C) else none) = some b
    rw [if_pos e2]
    exact h
theorem kit_type {K : PySem.W.Frag} {D : Addr} {T : String} {b : Bool} (hT : PySem.W.kitMeta T = true) (h : PySem.W.subIn K (.ref D) (.type T) = some b) : PySem.W.kitOne K (.ref D) (.type T) = some b := by
  have e : (Value.ref D == Value.type T) = false := by rfl
  unfold PySem.W.kitOne
  rw [if_neg (by rw [e]; decide)]
  show (if PySem.W.kitMeta T = true then PySem.W.subIn K (.ref D) (.type T) else none) = some b
  rw [if_pos hT]
  exact h
/-! ### the suite's answers hang on no address -/
theorem isXM_at {a : Addr} {dx : Option Addr} {c : Str} {d : Da} {i : Nat} {t : Option Bool} {ρ : En} {S : Store} : isXM a dx c i t (ρ.set i (some (.exc a dx c d))) S = if i < ρ.length then ofO (t.map Da.bl) S else .bad := by
  unfold isXM
  by_cases h : i < ρ.length
  · rw [List.getElem?_set_self h, if_pos h]
    simp
  · rw [List.getElem?_eq_none (by simpa using h), if_neg h]
theorem xfM_at {a : Addr} {dx : Option Addr} {c : Str} {d : Da} {i : Nat} {t : Bool} {ρ : En} {S : Store} : xfM a dx c i t (ρ.set i (some (.exc a dx c d))) S = if i < ρ.length then (if t = true then .ok d S else .bad) else .bad := by
  unfold xfM
  by_cases h : i < ρ.length
  · rw [List.getElem?_set_self h, if_pos h]
    simp
  · rw [List.getElem?_eq_none (by simpa using h), if_neg h]
/-! ### - -/
def negD : Da → Store → Option Da
  | .int i, _ => some (.int (-i))
  | _, _ => none
theorem ur_neg {X : Cx} {G : Gc} : UnR X (unaryOp .USub) (rd1 G negD) := fun pins s σ H x v Q I rx h => by
  obtain ⟨W, S, a, sr, r1, q⟩ := h
  unfold negD at q
  split at q
  · exact un_neg pins s σ H x v Q I rx ⟨_, r1.int_inv, q.here sr (repI W _)⟩
  · exact q.elim
/-- the law's end -/
theorem start_src {G : Gc} {H : Hp} {a : Addr} {ns : List Int} (h : SqL G.K H a (ns.map V.int)) : SR G ⟨[], H⟩ H [] ∧ Reps G ⟨[], H⟩ [.src (ns.map Da.int)] [.ref a] := by
  refine ⟨⟨fun _ _ h => h, List.nodup_nil, rfl, fun j c h => by simp at h, fun a h => by cases h⟩, .cons ?_ .nil⟩
  rw [Rep]
  exact ⟨a, _, rfl, h, reps_ints ns⟩
theorem law_sp {G : Gc} {m : Mf} (hm : ∀ ns : List Int, ns.length ≤ 63 → ∃ S, m [.src (ns.map Da.int)] [] = .ok (.bl true) S) {H : Hp} {a : Addr} {ns : List Int} (hl : ns.length ≤ 63) (h : SqL G.K H a (ns.map V.int)) :
    spM G 1 m [.ref a] H (fun v _ => v = .bl true) fun _ _ _ => False := by
  obtain ⟨s, r⟩ := start_src h
  refine ⟨rfl, _, _, _, s, r, ?_⟩
  obtain ⟨S, e⟩ := hm ns hl
  rw [e]
  exact fun b W' H' x s' r' => r'.bl_inv
end NL

set_option Elab.async false
set_option linter.all false
set_option maxRecDepth 100000
set_option maxHeartbeats 4100000
namespace NL
open PySem PySem.Spec PyProof.Rows L2

/-! ### the law's call, from a promise that is kept where no repr is under way -/
section
variable {P : Program} {w : World} {K : PySem.W.Frag} {mg mb : Str → Option Value} {k : Nat} {fa a : Addr} {fd : FuncData} {x : Str} {sp : Sp} {s₁ : Shared} {vs : List Value} {ns : List Int}
/-- the script alone is told, where it is none of the module's own objects -/
def onlyScript (K : PySem.W.Frag) (a : Addr) (o : Obj) (xs : List V) : Hp := fun b => if b = a ∧ (K.lookup a).isNone = true then some (.frz o (.lst xs)) else none
theorem onlyScript_some {o : Obj} {xs : List V} {b : Addr} {u : HO} (h : onlyScript K a o xs b = some u) : b = a ∧ K.lookup a = none ∧ u = .frz o (.lst xs) := by
  unfold onlyScript at h
  split at h
  · rename_i c
    cases h
    exact ⟨c.1, by simpa using c.2, rfl⟩
  · cases h
theorem call_law (KX : K.In s₁.heap) (hns : s₁.heap.Ns mainGlobals mg) (hb : s₁.heap.Ns builtinsNs mb) (hbb : ∀ x : Str, x ≠ "__name__" → mb x = bootBuiltins x) (hlim : s₁.heap.NoLimit) (hg : s₁.gens = #[])
    (ha : s₁.heap.get? a = some { cls := .type "list", data := .seq vs.toArray }) (hi : IntsAre vs ns) (hl : ns.length ≤ 63) (hr : RoomG k callerA)
    (F : ∀ base : Heap, K.In base → base.Ns mainGlobals mg → FnG P w K mg base k fa fd [x] sp) (hbind : ∀ (s : Shared) (u : Value), BindsTo s fd ⟨[u], []⟩ [(x, u)])
    (hsp : ∀ H : Hp, SqL K H a (ns.map V.int) → sp [.ref a] H (fun v _ => v = .bl true) fun _ _ _ => False) :
    codeAny (model P w) callerA (.call (.ref fa) ⟨[.ref a], []⟩) (fun r s2 => r = .ok (.ret (.bool true)) ∧ OldK s₁.heap s2.heap ∧ s2.os = s₁.os ∧ AllBare s2.gens) s₁ := by
  have rv := vals_ints hi
  have small : ns.length ≤ sizeLine := by rw [sizeLine_eq]; omega
  generalize ho : ({ cls := .type "list", data := .seq vs.toArray } : Obj) = o at ha
  generalize hH : onlyScript K a o (ns.map V.int) = H
  have told : ∀ {b u}, H b = some u → b = a ∧ K.lookup a = none ∧ u = .frz o (.lst (ns.map V.int)) := fun {b u} z => onlyScript_some (by rw [hH]; exact z)
  have script : SqL K H a (ns.map V.int) := by
    cases e : K.lookup a with
    | none => exact .inl (.inr ⟨o, by rw [← hH]; unfold onlyScript; rw [if_pos ⟨rfl, by rw [e]; rfl⟩]⟩)
    | some ob =>
      have z := (KX a ob e).symm.trans ha
      cases z
      subst ho
      exact .inr ⟨_, vs.toArray, _, e, rfl, rfl, rfl, by rw [List.size_toArray, hi.length]; exact small, by simpa using rv⟩
  have good : HOk P w H s₁.heap := fun b u z => by
    obtain ⟨rfl, _, rfl⟩ := told z
    subst ho
    exact ⟨ha, by rw [List.length_map]; exact small, vs, _, rv, ha⟩
  -- what has no list's data is in the base
  have base : ∀ {b : Addr} {ob : Obj}, s₁.heap.get? b = some ob → (b = a → ob = o → K.lookup a ≠ none) → (hidT s₁.heap H).get? b = some ob := fun {b ob} z nz => hidT_get z (by
    cases e : H b with
    | none => rfl
    | some u =>
      obtain ⟨rfl, q, _⟩ := told e
      rw [ha] at z
      exact absurd q (nz rfl (Option.some.inj z).symm))
  have space : ∀ {b : Addr} {m : Str → Option Value}, s₁.heap.Ns b m → (hidT s₁.heap H).Ns b m := fun {b m} ⟨ob, es, ep, e, d, r⟩ => ⟨ob, es, ep, base e (fun _ z => by subst z; subst ho; cases d), d, r⟩
  have inK : K.In (hidT s₁.heap H) := fun b ob e => base (KX b ob e) fun z _ => by subst z; rw [e]; exact fun q => nomatch q
  have e0 : Env0 P w K mg (hidT s₁.heap H) callerA [] s₁ H :=
    ⟨rfl, ⟨inK, space hns, ⟨mb, space hb, hbb⟩, by obtain ⟨mc, h1, h2⟩ := hlim; exact ⟨mc, space h1, h2⟩⟩, fun b ob e => of_hidT e, Nat.le_of_eq (hidT_size _ _), trivial, fun b hm => (by cases hm), good, .of_eq hg⟩
  refine codeAny_mono ((F _ inK (space hns)).run (us := [.ref a]) hr e0 (hbind s₁ (.ref a)) (vs := [.ref a]) (.cons rfl .nil) (hsp H script)) ?_
  rintro (er | fl) s2 h
  · obtain ⟨_, _, _, _, _, _, _, _, _, _, _, _, z⟩ := h
    exact z.elim
  · cases fl with
    | ret u =>
      obtain ⟨v, H', os, bare, un, good2, rr, q⟩ := h
      have q : v = .bl true := q
      subst q
      obtain rfl : u = Value.bool true := rr
      refine ⟨rfl, OldK.of_keep fun b ob e => ?_, os, bare⟩
      cases z : H b with
      | none => exact un.keep b ob e z (fun m => by cases m) (fun m => by cases m)
      | some t =>
        obtain ⟨rfl, _, rfl⟩ := told z
        rw [ha] at e; cases e
        exact (good2 b _ (un.frzs b o _ z)).1
    | _ => exact h.elim
end
theorem walkG {l : PySem.W.OpenLaw} {k : Nat} {m : Mf} (hm : ∀ ns : List Int, ns.length ≤ 63 → ∃ S, m [.src (ns.map Da.int)] [] = .ok (.bl true) S) {qq : Program} {loose : List Str} {XP : (Str → Option Value) → Heap → Prop} {YP : World → Heap → Prop} {d : DefRec} {K : Params → PySem.W.Frag}
    (hn : l.most = some 63) (hdf : d.params.defaults = []) (hr : RoomG k callerA) (hY : ∀ (w : World) (h : Heap), YP w h → (K w.params).In h)
    (F : ∀ (w : World) (mg : Str → Option Value) (fa : Addr) (h : Heap), (K w.params).In h → h.Ns mainGlobals mg → mg d.name = some (.ref fa) →
      ∃ fd : FuncData, (∀ (s : Shared) (u : Value), BindsTo s fd ⟨[u], []⟩ [("script", u)]) ∧ ∀ base : Heap, (K w.params).In base → base.Ns mainGlobals mg → FnG l.prog w (K w.params) mg base k fa fd ["script"] (fun vs H Q E => ∀ G : Gc, G.K = K w.params → spM G 1 m vs H Q E)) :
    PySem.W.WalkO qq loose XP YP l.row.toRowW d [] (fun f vs => PySem.call f vs) := by
  refine Att.attach_call hn hdf fun w s₀ s₁ mg mb fa o pm cd doc a vs ns gr Y _ _ _ hmg hobj hints hlen hg => ?_
  have KX := hY w _ Y
  obtain ⟨fd, hb, hF⟩ := F w mg fa _ KX gr.T.g hmg
  exact call_law KX gr.T.g gr.T.b gr.T.builtins gr.T.nolimit hg hobj hints hlen hr hF hb fun H hS G hG => law_sp hm hlen (by rw [hG]; exact hS)
end NL

set_option Elab.async false
set_option linter.all false
set_option maxRecDepth 100000
set_option maxHeartbeats 4100000
namespace PySem
open Sem (wp)
/-- enumerate(v), v told by how its iterator begins: the enumerate object and the iterator are new -/
theorem nl_enum1 {v : Value} {o : Obj} {H : Heap → Prop} (B : Begins v o H) :
    Meets (Builtin.«enumerate.__new__» ⟨[.type "enumerate", v], []⟩) (fun _ R s => H s.heap ∧
      R (.ok (.ret (.ref (s.heap.push o).objs.size))) { s with heap := (s.heap.push o).push { cls := .type "enumerate", data := .fields #[.none, .bool false, .ref s.heap.objs.size, rawInt 0, .none, .none] } }) := .of_wp fun prog w A R s hs => by
  rcases s with ⟨hp, g, d, tk, os⟩
  have go : ∀ {A' : Around} {E Q : Value → Shared → Prop}, Q (.ref hp.objs.size) ⟨hp.push o, g, d, tk, os⟩ → wpAny (model prog w) A' (pyIter v) Q E ⟨hp, g, d, tk, os⟩ := fun z => B.iter prog w _ _ ⟨hp, g, d, tk, os⟩ _ hs.1 z
  have S := sub_enumerate
  wp_walk using go
  apply wpAny_stack_any
  intro st
  apply wpAny_pure
  split
  · rename_i c _ _ _ _ _
    generalize (c == Value.type "enumerate") = t
    cases t <;> (wp_walk using go; exact ⟨_, rfl, hs.2⟩)
  · wp_walk using go; exact ⟨_, rfl, hs.2⟩
theorem nl_enum_tuple {prog : Program} {w : World} {A : Around} {E Q : Value → Shared → Prop} {s : Shared} {l : Addr} {items : Array Value} (hL : s.heap.IsTuple l items)
    (h : ∀ h2, IsEnum h2 (s.heap.objs.size + 1) s.heap.objs.size 0 .none → h2.IsTupleIter s.heap.objs.size l 0 → (∀ b o, s.heap.get? b = some o → h2.get? b = some o) → Q (.ref (s.heap.objs.size + 1)) { s with heap := h2 }) : wpAny (model prog w) A (call (.type "enumerate") [.ref l]) Q E s := by
  have B := begins_tuple l items
  refine callType_new F.called_enumerate (by decide) (F.typeCall_enumerate_1 _) (F.newCall_enumerate_1 _) (fun obj => F.args_object_init_2 obj _) F.entry_enumerate_new (nl_enum1 B) ⟨hL, ?_⟩
  generalize ho : ({ cls := .type "tuple_iterator", data := .fields #[.ref l, .int 0 0] } : Obj) = o at B
  generalize hu : ({ cls := .type "enumerate", data := .fields #[.none, .bool false, .ref s.heap.objs.size, rawInt 0, .none, .none] } : Obj) = u
  have at0 : (s.heap.push o).get? s.heap.objs.size = some o := Heap.get?_push_size _ B.free
  have len1 : (s.heap.push o).objs.size = s.heap.objs.size + 1 := by simp [Heap.size_push]
  have at1 : ((s.heap.push o).push u).get? (s.heap.objs.size + 1) = some u := by rw [← len1]; exact Heap.get?_push_size _ (by rw [← hu]; rfl)
  have there : ∀ b z, s.heap.get? b = some z → ((s.heap.push o).push u).get? b = some z := fun b z q => Heap.get?_push_of_some _ (Heap.get?_push_of_some _ q)
  have isE : IsEnum ((s.heap.push o).push u) (s.heap.objs.size + 1) s.heap.objs.size 0 .none := by subst hu; exact at1
  constructor
  · rw [len1]; exact ⟨_, at1, by rw [← hu]⟩
  · rw [len1]; exact h _ isE ⟨o, Heap.get?_push_of_some _ at0, (by subst ho; rfl), (by subst ho; rfl)⟩ there
end PySem
namespace NL
open PySem PySem.Spec PyProof.Rows L2
/-- enumerate over a tuple at a, at its turn i: the enumerate object e over the iterator it -/
structure EnT (a e it : Addr) (i : Nat) (h : Heap) : Prop where
  en : ∃ old, IsEnum h e it ((i : Nat) : Int) old
  tu : h.IsTupleIter it a i
  ne : e ≠ it ∧ a ≠ it ∧ a ≠ e
theorem EnT.each {a e it : Addr} {i : Nat} {h : Heap} (t : EnT a e it i h) {p : Addr → Prop} (h1 : p e) (h2 : p it) : ∀ b ∈ [e, it], p b := fun b hb => by
  simp at hb
  rcases hb with rfl | rfl <;> assumption
theorem EnT.low {a e it : Addr} {i : Nat} {h : Heap} (t : EnT a e it i h) : ∀ b ∈ [e, it], b < h.objs.size :=
  t.each (by obtain ⟨_, q⟩ := t.en; exact Heap.lt_size q) (by obtain ⟨_, q, _⟩ := t.tu; exact Heap.lt_size q)
def IteT (K : PySem.W.Frag) (a : Addr) : It where
  go := fun i H => ∃ xs : List V, SqT K H a xs ∧ i < xs.length
  yld := fun i H v H' => ∃ T x, v = .ref T ∧ H T = none ∧ H' = upd H T (.tup [.int (i : Nat), x]) ∧ ∀ xs, SqT K H a xs → xs[i]? = some x
  stop := fun i H => ∃ xs : List V, SqT K H a xs ∧ xs.length = i
theorem enT_item {X : Cx} {elts : List Expr} {kk : Nat} {tpos : Pos} {a e it : Addr} (hc : X.calm = true) {i : Nat} {pins : List (Addr × Obj)} {s : Shared} {σ : L2.St} {H : Hp} {E : Value → Shared → Prop} (I : Inv X pins σ H s) (hf : ∀ b ∈ [e, it], FpOk X pins H b) (t : EnT a e it i s.heap)
    (hg : (IteT X.K a).go i H) : wpAny (model X.prog X.w) X.A (pyNext (.ref e)) (fun r s1 => ∃ u, r = some u ∧ wpAny (model X.prog X.w) X.A (letOwnedTupleGo (.Tuple elts kk tpos) (.ref e) u)
      (fun _ s2 => ∃ x H', Inv X pins σ H' s2 ∧ RelV x u ∧ (IteT X.K a).yld i H x H' ∧ EnT a e it (i + 1) s2.heap ∧ ∀ b ∈ [e, it], H' b = none) E s1) E s := by
  obtain ⟨xs, hq, hi⟩ := hg
  obtain ⟨its, rv, tup, _⟩ := I.tuple hq
  obtain ⟨u, hu, ru⟩ := rv.get (List.getElem?_eq_getElem hi)
  obtain ⟨⟨old, he⟩, hit, n1, n2, n3⟩ := id t
  have low := t.low
  have fresh : H s.heap.objs.size = none := I.hok.fresh (Nat.le_refl _)
  have room : i < its.toArray.size := by rw [List.size_toArray, ← rv.length]; exact hi
  refine wpAny_pyNext_enum_itemD (Draws.tuple (A := X.A.in1) (by simp [I.ok.hd hc]) it a n2 its.toArray) he ⟨hit, tup⟩ room n1 (by simp [n1, Ne.symm n3]) fun y h1 tk hy hout hst hT _ same => ⟨_, rfl, ?_⟩
  obtain rfl : y = u := Option.some.inj (hy.symm.trans (by simpa using hu))
  refine wpAny_letOwnedTupleGo_enum (s := { s with heap := h1, toks := tk + 1 }) hout fun h2 hen but => ?_
  have pair : h2.get? s.heap.objs.size = some { cls := .type "tuple", data := .seq #[.int i tk, y] } := (but.2 _ fun z => Nat.lt_irrefl _ (z ▸ low e (by simp))).trans hT
  have J := I.turnedNew (T := s.heap.objs.size) (ob := .tup [.int (i : Nat), xs[i]]) (t' := tk + 1) (h' := h2) (ch := [e, it])
    (fun b ob hb z => by
      have b1 : b ≠ e := fun q => hb (by simp [q])
      exact (but.2 b b1).trans (same b ob b1 (fun q => hb (by simp [q])) z)) hf (Nat.le_refl _) ⟨(by show 2 ≤ sizeLine; decide), [.int i tk, y], .cons ⟨_, rfl⟩ (.cons ru .nil), ⟨_, pair, rfl, _, rfl⟩⟩
  refine ⟨.ref s.heap.objs.size, _, J, rfl, ⟨_, _, rfl, fresh, rfl, fun ys hys => ?_⟩, ⟨⟨y, ?_⟩, hst.1.at fun ob z => (but.2 it (Ne.symm n1)).trans z, n1, n2, n3⟩, fun b hb => ?_⟩
  · rw [I.tuple_inj hys hq]; exact List.getElem?_eq_getElem hi
  · have : ((i + 1 : Nat) : Int) = (i : Int) + 1 := by simp
    rw [this]; exact hen
  · rw [upd_ne (Nat.ne_of_lt (low b hb))]; exact (hf b hb).1
theorem turn_enT {P : Program} {w : World} {K : PySem.W.Frag} {elts : List Expr} {kk : Nat} {tpos : Pos} (a e it : Addr) : Turn P w K (.Tuple elts kk tpos) (IteT K a) [e, it] e (EnT a e it) where
  mem := List.mem_cons_self
  obj := fun i h t => t.each (by obtain ⟨_, q⟩ := t.en; exact ⟨_, q, fun v z => nomatch z⟩) (by obtain ⟨o, q, _, z⟩ := t.tu; exact ⟨o, q, fun v y => by rw [z] at y; exact nomatch y⟩)
  keep := fun i h h2 t k => ⟨by obtain ⟨old, q⟩ := t.en; exact ⟨old, k e (by simp) _ q⟩, t.tu.at fun o z => k it (by simp) o z, t.ne⟩
  item := by rintro X rfl rfl rfl hc i pins s σ H E I hf t hg; exact enT_item hc I hf t hg
  done := by
    rintro X rfl rfl rfl hc i pins s σ H E I hf t ⟨xs, hq, rfl⟩
    obtain ⟨its, rv, tup, _⟩ := I.tuple hq
    obtain ⟨⟨old, he⟩, hit, n1, n2, n3⟩ := t
    have ff := hf it (by simp)
    have el : xs.length = its.toArray.size := by rw [List.size_toArray, rv.length]
    rw [el] at he hit
    exact wpAny_pyNext_enum_endD (Draws.tuple (A := X.A.in1) (by simp [I.ok.hd hc]) it a n2 its.toArray) he ⟨hit, tup⟩ fun h2 eb => ⟨rfl, I.turned (t' := s.toks) (fun b o hb z => eb b o hb z) ff.1 ff.2.1 ff.2.2.2.1 ff.2.2.2.2.1 ff.2.2.2.2.2⟩
  self := fun A i s Q E t h => by obtain ⟨_, q⟩ := t.en; exact wpAny_pyIter_enum q h
theorem walk_enT {K : PySem.W.Frag} {a : Addr} {xs : List V} : Walk (IteT K a) xs.length (fun H => SqT K H a xs) (YPair (fun i => some (.int (i : Nat))) (fun i => xs[i]?)) :=
  ⟨fun i _ hi q => ⟨xs, q, hi⟩, fun _ q => ⟨xs, q, rfl⟩, fun i H v H' _ q ⟨T, x, h1, h2, h3, h4⟩ => ⟨T, .int (i : Nat), x, h1, h2, h3, rfl, h4 xs q⟩⟩
def iEnumT (K : PySem.W.Frag) (ta : TA) : TI := fun σ H R => ta σ H fun vs H1 => ∃ a xs, vs = [.ref a] ∧ SqT K H1 a xs ∧ R (IteT K a) H1
theorem pi_enT {X : Cx} {e : Expr} {ta : TA} {p pos tpos : Pos} {elts : List Expr} {kk : Nat} (hg : Gl X "enumerate") (hm : X.mg "enumerate" = none) (ha : PA X [e] ta) (hs : starEach [e] X.env = [(false, eval e X.env)]) :
    PI X (.Tuple elts kk tpos) (.Call (.Name "enumerate" p) [e] [] pos) (iEnumT X.K ta) :=
  ⟨fun pins s σ H R I h => Call_ (ld_blt I hg hm boot_enumerate (PyProof.Rows.callWith_type1 (thn (ha.run pos pins s σ H _ I h) fun us s1 ⟨vs, H1, J, r, a, xs, ev, hq, q⟩ => by
    subst ev
    rw [Vals.ref1 r]
    obtain ⟨its, rv, tup, _⟩ := J.tuple hq
    have tup : s1.heap.IsTuple a its.toArray := tup
    have la : a < s1.heap.objs.size := by obtain ⟨o, z, _⟩ := tup; exact Heap.lt_size z
    refine nl_enum_tuple tup fun h2 he hit hk => wpAny_pyIter_enum he ?_
    have t : EnT a (s1.heap.objs.size + 1) s1.heap.objs.size 0 h2 := ⟨⟨.none, he⟩, hit, Nat.succ_ne_self _, Nat.ne_of_lt la, Nat.ne_of_lt (Nat.lt_succ_of_lt la)⟩
    have new : ∀ b, s1.heap.objs.size ≤ b → FpOk X pins H1 b := fun b hb => J.fpOk hb (J.hok.fresh hb)
    exact ⟨s1.heap.objs.size + 1, [s1.heap.objs.size + 1, s1.heap.objs.size], _, _, H1, rfl, J.kept (t' := s1.toks) hk, turn_enT a _ _, t, t.each (new _ (Nat.le_succ _)) (new _ (Nat.le_refl _)), q⟩) hs rfl))⟩
/-! ### enumerate, zip as data -/
section
variable {X : Cx} {G : Gc} {Wx : WX}
def enumL (l : List Da) : List Da := (List.range l.length).zipWith (fun i d => .tup [.int (i : Nat), d]) l
def zipL (l m : List Da) : List Da := l.zipWith (fun a b => .tup [a, b]) m
theorem itd_pair {W0 : Wd} {J : It} {n : Nat} {Gd : Hp → Prop} {l : List Da} {xs ys : Nat → Option V} (w : Walk J n Gd (YPair xs ys)) (hn : l.length = n) (hg : ∀ W H S, W0.le W → SR G W H S → Gd H)
    (hd : ∀ i x y, i < n → xs i = some x → ys i = some y → ∃ a b, l[i]? = some (.tup [a, b]) ∧ Rep G W0 a x ∧ Rep G W0 b y) : ItD G W0 J l := by
  refine ⟨fun i W H S hi le s => w.goes i H (by omega) (hg W H S le s), fun W H S le s => by rw [hn]; exact w.stops H (hg W H S le s), fun i W H S x H' hi le s y => ?_⟩
  obtain ⟨T, u, v, rfl, hT, rfl, e1, e2⟩ := w.yields i H x H' (by omega) (hg W H S le s) y
  obtain ⟨a, b, h1, h2, h3⟩ := hd i u v (by omega) e1 e2
  obtain ⟨x1, s1⟩ := Ext.frz s (o := .tup [u, v]) hT
  exact ⟨_, _, h1, x1, s1, RV.tup frz_same ((Reps.cons h2 (.cons h3 .nil)).mono (le.trans x1.le))⟩
theorem enumL_length (l : List Da) : (enumL l).length = l.length := by unfold enumL; simp
theorem enumL_get {W : Wd} {l : List Da} {vs : List V} (r : Reps G W l vs) {i : Nat} {x y : V} (hx : some (V.int (i : Nat)) = some x) (hy : vs[i]? = some y) : ∃ a b, (enumL l)[i]? = some (.tup [a, b]) ∧ Rep G W a x ∧ Rep G W b y := by
  obtain ⟨d, hd, rd⟩ := r.getV hy
  cases hx
  refine ⟨.int (i : Nat), d, ?_, repI W _, rd⟩
  unfold enumL
  have hi : i < l.length := (List.getElem?_eq_some_iff.mp hd).1
  rw [List.getElem?_zipWith, hd, List.getElem?_range hi]
def itET (f : M Da) : M (List Da) := fun ρ S => (f ρ S).bind fun d S1 => match d with
  | .tup l => .ok (enumL l) S1
  | _ => .bad
def itEL (f : M Da) : M (List Da) := fun ρ S => (f ρ S).bind fun d S1 => match d with
  | .lst l => .ok (enumL l) S1
  | _ => .bad
theorem pid_enumT {e : Expr} {f : M Da} {p pos tpos : Pos} {elts : List Expr} {kk : Nat} (hm : X.mg "enumerate" = none) (he : PE X e (tM G Wx f)) (hg : Gl X "enumerate" := by rfl) (hs : starEach [e] X.env = [(false, eval e X.env)] := by rfl) (hK : G.K = X.K := by rfl) :
    PI X (.Tuple elts kk tpos) (.Call (.Name "enumerate" p) [e] [] pos) (tI G Wx (itET f)) :=
  (pi_enT hg hm (pa_cons he pa_nil hs) hs).imp fun σ H R ⟨W, S, ρ, s, r, q⟩ => ⟨W, S, ρ, s, r, q.bind fun d S1 v W1 H1 x1 s1 q1 k1 => by
    cases d with
    | tup l =>
      obtain ⟨a, vs, rfl, hl, rs⟩ := q1.tup_inv
      rw [hK] at hl
      exact ⟨a, vs, rfl, s1.sqT hl, k1.here s1 (itd_pair (walk_enT (a := a) (xs := vs)) (by rw [enumL_length, rs.length]) (fun W2 H2 S2 le s2 => s2.sqT (SqT.mono hl le.F)) fun i x y _ h1 h2 => enumL_get rs h1 h2)⟩
    | _ => exact k1.elim⟩
theorem pid_enumL {e : Expr} {f : M Da} {p pos tpos : Pos} {elts : List Expr} {kk : Nat} (hm : X.mg "enumerate" = none) (he : PE X e (tM G Wx f)) (hg : Gl X "enumerate" := by rfl) (hs : starEach [e] X.env = [(false, eval e X.env)] := by rfl) (hK : G.K = X.K := by rfl) :
    PI X (.Tuple elts kk tpos) (.Call (.Name "enumerate" p) [e] [] pos) (tI G Wx (itEL f)) :=
  (pi_enum hg hm (pa_cons he pa_nil hs) hs).imp fun σ H R ⟨W, S, ρ, s, r, q⟩ => ⟨W, S, ρ, s, r, q.bind fun d S1 v W1 H1 x1 s1 q1 k1 => by
    cases d with
    | lst l =>
      obtain ⟨a, vs, rfl, hl, rs⟩ := q1.lst_inv
      rw [hK] at hl
      exact ⟨a, vs, rfl, s1.sqL hl, k1.here s1 (itd_pair (walk_enum (a := a) (xs := vs)) (by rw [enumL_length, rs.length]) (fun W2 H2 S2 le s2 => s2.sqL (SqL.mono hl le.F)) fun i x y _ h1 h2 => enumL_get rs h1 h2)⟩
    | _ => exact k1.elim⟩

end
end NL

set_option Elab.async false
set_option linter.all false
set_option maxRecDepth 100000
set_option maxHeartbeats 4100000
namespace NL
open PySem PySem.Spec PyProof.Rows L2

/-! ### repr of lists and tuples -/
def okP (x : PyData) : Bool := x.showable && (x.layable0 && (decide (x.depth ≤ 60) && x.intsShort 13))
def boxD : Da → Bool
  | .tup _ | .lst _ | .src _ | .cell _ => true
  | _ => false
def reprPD : List Da → Store → Option Da := fun l S => match l with
  | [d] => if boxD d = true then (match pyD S d with
    | some x => if okP x = true then some (.str x.shown) else none
    | none => none) else none
  | _ => none
section
variable {X : Cx} {G : Gc} {Wx : WX}
theorem Rep.box {W : Wd} {d : Da} {v : V} (r : Rep G W d v) (h : boxD d = true) : ∃ a, v = .ref a := by
  cases d with
  | tup l => obtain ⟨a, _, e, _⟩ := r.tup_inv; exact ⟨a, e⟩
  | lst l => obtain ⟨a, _, e, _⟩ := r.lst_inv; exact ⟨a, e⟩
  | src l => obtain ⟨a, _, e, _⟩ := r.src_inv; exact ⟨a, e⟩
  | cell j => obtain ⟨a, _, e⟩ := r.cell_inv; exact ⟨a, e⟩
  | _ => cases h
theorem cr_reprP (hu : X.A.units + 64 < cLine) (hgd : X.A.guards = some []) (hK : G.K = X.K := by rfl) : CallR X (.builtin "repr") (rdn G reprPD) := by
  rintro pins s σ H xs us Q I r ⟨W, S, l, sr, rs, q⟩
  unfold reprPD at q
  split at q
  · rename_i d
    by_cases hb : boxD d = true
    · rw [if_pos hb] at q
      cases e : pyD S d with
      | none => simp only [e] at q; exact q.elim
      | some x =>
        simp only [e] at q
        by_cases ho : okP x = true
        · rw [if_pos ho] at q
          obtain ⟨v, rfl, rv⟩ := rs.one
          obtain ⟨a, rfl⟩ := rv.box hb
          have eu : us = [.ref a] := Vals.ref1 r
          subst eu
          have dp := pyD_dp sr e rv
          rw [hK] at dp
          obtain ⟨as, rd⟩ := Dp.reads I x (.ref a) (.ref a) dp rfl
          unfold okP at ho
          simp only [Bool.and_eq_true, decide_eq_true_eq] at ho
          obtain ⟨h1, h2, h3, h4⟩ := ho
          exact repr_of_reads' rd h1 (PyData.noDict_hsm (PyData.hasDict_of_layable h2)) hgd (by omega) (fun _ _ z => z) (fun h' u tk hk => ⟨.str x.shown, H, I.kept (t' := tk) hk, ⟨u, rfl⟩, q.here sr (repS W _)⟩) (PyData.shown_fits_of_layable0 (by decide) (by decide) h2 h4)
        · rw [if_neg ho] at q; exact q.elim
    · rw [if_neg hb] at q; exact q.elim
  · exact q.elim
end
end NL

set_option Elab.async false
set_option linter.all false
set_option maxRecDepth 100000
set_option maxHeartbeats 4100000
namespace NL
open PySem PySem.Spec PyProof.Rows L2
section
variable {X : Cx} {G : Gc} {Wx : WX} {e : Expr} {m : M Da} {pos p : Pos}
/-! ### list(t), list(xs) -/
def listOfF (m : M Da) : M (List Da) := fun ρ S => (m ρ S).bind fun d S1 => match seqOf S1 d with
  | some l => .ok l S1
  | none => .bad
theorem pdf_listOf (hm : X.mg "list" = none) (he : PE X e (tM G Wx m)) (hg : Gl X "list" := by rfl) (na : starEach [e] X.env = (false, eval e X.env) :: starEach [] X.env := by rfl) (hK : G.K = X.K := by rfl) :
    PE X (.Call (.Name "list" p) [e] [] pos) (tF G Wx (listOfF m)) :=
  (pe_callTy call_list_of hg hm (by decide +kernel) (pa_cons he pa_nil na) (by decide) (by decide) na (by rfl)).imp fun σ H Q ⟨W, S, ρ, s, r, q⟩ => ⟨W, S, ρ, s, r, AftF.bind q fun d S1 v W1 H1 x1 s1 q1 k1 => by
    cases e1 : seqOf S1 d with
    | none => simp only [e1] at k1; exact k1.elim
    | some l =>
      simp only [e1] at k1
      cases d with
      | tup l' =>
        cases e1
        obtain ⟨a, vs, rfl, h1, h2⟩ := q1.tup_inv
        rw [hK] at h1
        exact ⟨a, vs, rfl, .inr (s1.sqT h1), fun p hp => k1.new s1 h2 hp⟩
      | _ =>
        obtain ⟨a, vs, rfl, h1, h2⟩ := s1.isL q1 e1
        rw [hK] at h1
        exact ⟨a, vs, rfl, .inl h1, fun p hp => k1.new s1 h2 hp⟩⟩
end
end NL

set_option Elab.async false
set_option linter.all false
set_option maxRecDepth 100000
set_option maxHeartbeats 4100000
namespace NL
open PySem PySem.Spec PyProof.Rows L2

/-! ### raise X(), X an own exception class without __init__ -/
structure OwnX0 (K : PySem.W.Frag) (mg : Str → Option Value) (G : Gc) (c : Str) : Prop where
  ex : PySem.W.excIn K (G.cls c) [.type "ValueError", .type "Exception", .type "BaseException", .type "object"] "ValueError.__new__" = true
  mg : mg c = some (.ref (G.cls c))
  kp : PySem.W.keepIn K (.ref (G.cls c)) = true
  sb : PySem.W.subIn K (.ref (G.cls c)) (.type "BaseException") = some true
  ty : PySem.W.typeIn K (.ref (G.cls c)) = some (.type "type")
  xf : G.xf c = none
def raise0S (c : Str) : MS := fun ρ S => .exc c .non ρ S
section
variable {X : Cx} {G : Gc} {Wx : WX} {p pos pos2 : Pos} {c : Str}
theorem pmk_bare (O : OwnX0 X.K X.mg G c) (hg : Gl X c) (hdb : (c == ("__debug__" : Str)) = false) : PMk X (.Call (.Name c p) [] [] pos) (fun _ H Q => Q (.ref (G.cls c)) none H) := fun pins s σ H Q I h =>
  wpAny_Call_Name_kw (ld_glob I hg O.mg (PySem.W.callWith_K0 I.kIn O.kp (by
    obtain ⟨hp, g, dr, tk, os⟩ := s
    obtain ⟨_, _, _, _, _, _, _, _, _, _, _, _, _, _, _, _, _, hC, hN, hni, T⟩ := exc_obj I.kIn O.ex
    exact wpAny_call_exc_subT PySem.F.excBase_ValueError T hC hN hni (fun h2 e hm => mk_of I hm (raises_own O.sb O.ty) h (I.hok.gone hm.new)) (Nat.zero_le _))) hdb)
theorem psd_raise0 (O : OwnX0 X.K X.mg G c) (tk : Takes X Wx) (hc : X.calm = true := by rfl) (hg : Gl X c := by rfl) (hdb : (c == ("__debug__" : Str)) = false := by decide) : PS X (.Raise (some (.Call (.Name c p) [] [] pos)) none pos2) (tS G Wx (raise0S c)) :=
  (ps_raise hc tk (pmk_bare O hg hdb)).imp fun D σ H ⟨W, S, ρ, s, r, q⟩ => q _ none σ W H (.refl _ _) s r ⟨rfl, .non, by unfold XDict; rw [O.xf]; exact ⟨rfl, rfl⟩, repN W⟩
end
end NL

set_option Elab.async false
set_option linter.all false
set_option autoImplicit false
set_option maxRecDepth 100000
set_option maxHeartbeats 4100000
namespace NL
open PySem PySem.Spec PyProof.Rows L2
section
variable {ρ ρ1 : En} {S S1 S2 S3 : Store} {a b d e : Da} {l m ds : List Da} {f g h : M Da} {t : M (List Da)} {p q : Bool} {c : M Bool} {R R1 R2 : RS}
theorem ev_var {i : Nat} (h : ρ[i]? = some (some d)) : varM i ρ S = .ok d S := by unfold varM; rw [h]
theorem ev_c : cM d ρ S = .ok d S := rfl
theorem ev_tup (h : t ρ S = .ok l S1) (hl : Nat.ble l.length 16777216 = true) : tupM t ρ S = .ok (.tup l) S1 := by
  unfold tupM dispM; rw [h]; simp only [Res.bind]; rw [if_pos (by have := Nat.le_of_ble_eq_true hl; unfold big; omega)]
theorem ev_frz (h : t ρ S = .ok l S1) : frzM t ρ S = .ok (.lst l) S1 := by unfold frzM; rw [h]; rfl
theorem ev_cel (h : t ρ S = .ok l S1) : celM t ρ S = .ok (.cell S1.length) (S1 ++ [.lst l]) := by unfold celM; rw [h]; rfl
theorem ev_list (h : t ρ S = .ok l S1) (hl : Nat.ble l.length 16777216 = true) : listM t ρ S = .ok l S1 := by
  unfold listM; rw [h]; simp only [Res.bind]; rw [if_pos (by have := Nat.le_of_ble_eq_true hl; unfold big; omega)]
theorem ev_nil : nilM ρ S = .ok [] S := rfl
theorem ev_cons (h : f ρ S = .ok a S1) (ht : t ρ S1 = .ok l S2) : consM f t ρ S = .ok (a :: l) S2 := by unfold consM; rw [h]; simp only [Res.bind]; rw [ht]
theorem ev_op {op : Da → Da → Store → Option Da} (hf : f ρ S = .ok a S1) (hg : g ρ S1 = .ok b S2) (ho : op a b S2 = some d) : opM op f g ρ S = .ok d S2 := by
  unfold opM; rw [hf]; simp only [Res.bind]; rw [hg]; simp only [ho, ofO]
theorem ev_un {op : Da → Store → Option Da} (hf : f ρ S = .ok a S1) (ho : op a S1 = some d) : unM op f ρ S = .ok d S1 := by unfold unM; rw [hf]; simp only [Res.bind, ho, ofO]
theorem ev_call {op : List Da → Store → Option Da} (h : t ρ S = .ok l S1) (ho : op l S1 = some d) : callM op t ρ S = .ok d S1 := by unfold callM; rw [h]; simp only [Res.bind, ho, ofO]
theorem ev_fun {n : Nat} {mf : Mf} (h : t ρ S = .ok l S1) (hn : l.length = n) (ho : mf l S1 = .ok d S2) : callF n mf t ρ S = .ok d S2 := by unfold callF; rw [h]; simp only [Res.bind, hn, if_true]; exact ho
theorem ev_tst (h : f ρ S = .ok (.bl p) S1) : tstM f ρ S = .ok p S1 := by unfold tstM; rw [h]; rfl
theorem ev_notT (h : c ρ S = .ok p S1) : notT c ρ S = .ok (!p) S1 := by unfold notT; rw [h]; rfl
theorem ev_notM (h : tstM f ρ S = .ok p S1) : notM f ρ S = .ok (.bl (!p)) S1 := by unfold notM; rw [h]; rfl
theorem ev_andT {c2 : M Bool} (h : c ρ S = .ok p S) (k : p = true → c2 ρ S = .ok q S) : andT c c2 ρ S = .ok (p && q) S := by
  unfold andT; rw [h]; simp only [Res.bind]; cases p with
  | true => rw [if_pos rfl, k rfl]; rfl
  | false => rfl
theorem ev_orT {c2 : M Bool} (h : c ρ S = .ok p S) (k : p = false → c2 ρ S = .ok q S) : orT c c2 ρ S = .ok (p || q) S := by
  unfold orT; rw [h]; simp only [Res.bind]; cases p with
  | true => rfl
  | false => rw [if_neg (by decide), k rfl]; rfl
theorem ev_andM (h : tstM f ρ S = .ok p S) (k : p = true → g ρ S = .ok (.bl q) S) : andM f g ρ S = .ok (.bl (p && q)) S := by
  unfold andM; rw [h]; simp only [Res.bind]; cases p with
  | true => rw [if_pos rfl, k rfl]; rfl
  | false => rfl
theorem ev_orM (h : tstM f ρ S = .ok p S) (k : p = false → g ρ S = .ok (.bl q) S) : orM f g ρ S = .ok (.bl (p || q)) S := by
  unfold orM; rw [h]; simp only [Res.bind]; cases p with
  | true => rfl
  | false => rw [if_neg (by decide), k rfl]; rfl
theorem ev_if (h : c ρ S = .ok p S) (k : p = true → f ρ S = .ok a S) (k2 : p = false → g ρ S = .ok b S) : ifM c f g ρ S = .ok (if p = true then a else b) S := by
  unfold ifM; rw [h]; simp only [Res.bind]; cases p with
  | true => rw [if_pos rfl, k rfl, if_pos rfl]
  | false => rw [if_neg (by decide), k2 rfl, if_neg (by decide)]
theorem ev_if_t (h : c ρ S = .ok true S1) (k : f ρ S1 = .ok a S2) : ifM c f g ρ S = .ok a S2 := by unfold ifM; rw [h]; exact k
theorem ev_if_f (h : c ρ S = .ok false S1) (k : g ρ S1 = .ok a S2) : ifM c f g ρ S = .ok a S2 := by unfold ifM; rw [h]; exact k
theorem ev_itL (h : f ρ S = .ok (.lst l) S1) : itL f ρ S = .ok l S1 := by unfold itL; rw [h]; rfl
theorem ev_itT (h : f ρ S = .ok (.tup l) S1) : itT f ρ S = .ok l S1 := by unfold itT; rw [h]; rfl
theorem ev_itET (h : f ρ S = .ok (.tup l) S1) : itET f ρ S = .ok (enumL l) S1 := by unfold itET; rw [h]; rfl
/-! statements -/
theorem ev_seq_set {i : Nat} {s : MS} (h : f ρ S = .ok d S1) (hρ : ρ.set i (some d) = ρ1) (k : s ρ1 S1 = R) : seqS (setS i f) s ρ S = R := by
  unfold seqS setS; rw [h]; simp only [Res.thenS, RS.seq]; rw [hρ]; exact k
theorem ev_seq_drop {s : MS} (h : f ρ S = .ok d S1) (k : s ρ S1 = R) : seqS (dropS f) s ρ S = R := by unfold seqS dropS; rw [h]; exact k
theorem ev_seq_par {is : List Nat} {s : MS} (h : t ρ S = .ok ds S1) (hl : ds.length = is.length) (hρ : setAll ρ (is.zip ds) = ρ1) (k : s ρ1 S1 = R) : seqS (parS is t) s ρ S = R := by
  unfold seqS parS; rw [h]; simp only [Res.thenS]; rw [if_pos hl]; simp only [RS.seq]; rw [hρ]; exact k
theorem ev_seq_nx {s s2 : MS} (h : s ρ S = .nx ρ1 S1) (k : s2 ρ1 S1 = R) : seqS s s2 ρ S = R := by unfold seqS; rw [h]; exact k
theorem ev_seq_rt {s s2 : MS} (h : s ρ S = .rt d S1) : seqS s s2 ρ S = .rt d S1 := by unfold seqS; rw [h]; rfl
theorem ev_ret (h : f ρ S = .ok d S1) : retS f ρ S = .rt d S1 := by unfold retS; rw [h]; rfl
theorem ev_set {i : Nat} (h : f ρ S = .ok d S1) (hρ : ρ.set i (some d) = ρ1) : setS i f ρ S = .nx ρ1 S1 := by unfold setS; rw [h]; simp only [Res.thenS]; rw [hρ]
theorem ev_drop (h : f ρ S = .ok d S1) : dropS f ρ S = .nx ρ S1 := by unfold dropS; rw [h]; rfl
theorem ev_ifs {s s2 : MS} (h : c ρ S = .ok p S1) (k : p = true → s ρ S1 = R) (k2 : p = false → s2 ρ S1 = R) : ifS c s s2 ρ S = R := by
  unfold ifS; rw [h]; simp only [Res.thenS]; cases p with
  | true => rw [if_pos rfl]; exact k rfl
  | false => rw [if_neg (by decide)]; exact k2 rfl
theorem ev_ifs_t {s s2 : MS} (h : c ρ S = .ok true S1) (k : s ρ S1 = R) : ifS c s s2 ρ S = R := by unfold ifS; rw [h]; exact k
theorem ev_ifs_f {s s2 : MS} (h : c ρ S = .ok false S1) (k : s2 ρ S1 = R) : ifS c s s2 ρ S = R := by unfold ifS; rw [h]; exact k
theorem ev_seq_if_t {s s2 s3 : MS} (h : c ρ S = .ok true S1) (k : seqS s s3 ρ S1 = R) : seqS (ifS c s s2) s3 ρ S = R := by
  have e : ifS c s s2 ρ S = s ρ S1 := ev_ifs_t h rfl
  unfold seqS at k ⊢; rw [e]; exact k
theorem ev_seq_if_f {s s2 s3 : MS} (h : c ρ S = .ok false S1) (k : seqS s2 s3 ρ S1 = R) : seqS (ifS c s s2) s3 ρ S = R := by
  have e : ifS c s s2 ρ S = s2 ρ S1 := ev_ifs_f h rfl
  unfold seqS at k ⊢; rw [e]; exact k
theorem ev_assoc {s1 s2 s3 : MS} (k : seqS s1 (seqS s2 s3) ρ S = R) : seqS (seqS s1 s2) s3 ρ S = R := by
  rw [← k]
  unfold seqS
  cases s1 ρ S <;> rfl
theorem ev_orT_f {c2 : M Bool} (h : c ρ S = .ok false S1) (k : c2 ρ S1 = .ok q S2) : orT c c2 ρ S = .ok q S2 := by unfold orT; rw [h]; exact k
theorem ev_andT_t {c2 : M Bool} (h : c ρ S = .ok true S1) (k : c2 ρ S1 = .ok q S2) : andT c c2 ρ S = .ok q S2 := by unfold andT; rw [h]; exact k
theorem ev_ret' (h : f ρ S = .ok a S1) (e : a = d) : retS f ρ S = .rt d S1 := e ▸ ev_ret h
theorem ev_seq_skip {s : MS} (k : s ρ S = R) : seqS skipS s ρ S = R := k
theorem ev_lc {α : Type} {xs : List α} {fx : α → Da} {own : List Nat} {tg : Tg} {src : M (List Da)} {cond : M Bool} {elt : M Da} {kc : α → Bool} {ke : α → Da} {kρ : α → En} (hs : src ρ S = .ok (xs.map fx) S) (hb : xs.length ≤ big)
    (hρ : ∀ x, bindT tg (fx x) (wipeD ρ own) = some (kρ x)) (hc : ∀ x ∈ xs, cond (kρ x) S = .ok (kc x) S) (he : ∀ x ∈ xs, kc x = true → elt (kρ x) S = .ok (ke x) S) : lcM own tg src cond elt ρ S = .ok ((xs.filter kc).map ke) S := by
  have aux : ∀ ys : List α, (∀ x ∈ ys, x ∈ xs) → lcL tg cond elt (wipeD ρ own) (ys.map fx) S = some ((ys.filter kc).map ke, S) := by
    intro ys
    induction ys with
    | nil => intro _; rfl
    | cons y ys ih =>
      intro hy
      have ih := ih fun x hx => hy x (List.mem_cons_of_mem _ hx)
      rw [List.map_cons]
      unfold lcL
      rw [hρ y]
      dsimp only
      rw [hc y (hy y List.mem_cons_self)]
      cases q : kc y with
      | false => dsimp only; rw [ih, List.filter_cons, q]; rfl
      | true => dsimp only; rw [he y (hy y List.mem_cons_self) q]; dsimp only; rw [ih, List.filter_cons, q]; rfl
  unfold lcM
  rw [hs]
  show (if (xs.map fx).length ≤ big then optR (lcL tg cond elt (wipeD ρ own) (xs.map fx) S) else .bad) = _
  rw [if_pos (by rw [List.length_map]; exact hb), aux xs fun _ h => h]
  rfl
theorem ev_yes : yesM ρ S = .ok true S := rfl
theorem ev_lc_yes {α : Type} {xs : List α} {fx : α → Da} {own : List Nat} {tg : Tg} {src : M (List Da)} {elt : M Da} {ke : α → Da} {kρ : α → En} (hs : src ρ S = .ok (xs.map fx) S) (hb : xs.length ≤ big)
    (hρ : ∀ x, bindT tg (fx x) (wipeD ρ own) = some (kρ x)) (he : ∀ x ∈ xs, elt (kρ x) S = .ok (ke x) S) : lcM own tg src yesM elt ρ S = .ok (xs.map ke) S := by
  have := ev_lc (cond := yesM) (kc := fun _ => true) (ke := ke) (kρ := kρ) hs hb hρ (fun x _ => rfl) fun x hx _ => he x hx
  rw [this]
  congr 2
  exact List.filter_eq_self.mpr fun _ _ => rfl
end
end NL

set_option Elab.async false
set_option linter.all false
set_option maxRecDepth 100000
set_option maxHeartbeats 4100000
namespace NL
open PySem PySem.Spec PyProof.Rows L2

/-! ### isinstance(x, C), C an own class of objects -/
structure IsoOk (K : PySem.W.Frag) (mg : Str → Option Value) (G : Gc) (c : Str) : Prop where
  cl : Cls K (G.cls c)
  hd : PySem.W.hasDictIn K (G.cls c) = true
  ty : PySem.W.typeIn K (.ref (G.cls c)) = some (.type "type")
  self : PySem.W.subIn K (.ref (G.cls c)) (.ref (G.cls c)) = some true
  sub : ∀ t : Ty, PySem.W.subIn K (.type t.name) (.ref (G.cls c)) = some false
  ha : PySem.W.findIn K (.ref (G.cls c)) "__class__" = some (some (.builtin "object.__class__"))
  hget : PySem.W.specialIn K (.builtin "object.__class__") "__get__" = some (some (.builtin "getset_descriptor.__get__"))
  htak : PySem.W.takesIn K (.builtin "object.__class__") = some true
  hm : PySem.W.mroIn K (G.cls c) (.type "object") = some true
  mg : mg c = some (.ref (G.cls c))
theorem iso_mk {K : PySem.W.Frag} {mg : Str → Option Value} {G : Gc} {c : Str} (cl : Cls K (G.cls c)) (hd : PySem.W.hasDictIn K (G.cls c) = true) (ty : PySem.W.typeIn K (.ref (G.cls c)) = some (.type "type")) (self : PySem.W.subIn K (.ref (G.cls c)) (.ref (G.cls c)) = some true)
    (s1 : PySem.W.subIn K (.type "NoneType") (.ref (G.cls c)) = some false) (s2 : PySem.W.subIn K (.type "bool") (.ref (G.cls c)) = some false) (s3 : PySem.W.subIn K (.type "int") (.ref (G.cls c)) = some false)
    (s4 : PySem.W.subIn K (.type "str") (.ref (G.cls c)) = some false) (s5 : PySem.W.subIn K (.type "tuple") (.ref (G.cls c)) = some false) (s6 : PySem.W.subIn K (.type "list") (.ref (G.cls c)) = some false)
    (ha : PySem.W.findIn K (.ref (G.cls c)) "__class__" = some (some (.builtin "object.__class__"))) (hn : PySem.W.specialIn K (.builtin "object.__class__") "__get__" = some (some (.builtin "getset_descriptor.__get__")))
    (ht : PySem.W.takesIn K (.builtin "object.__class__") = some true) (hm : PySem.W.mroIn K (G.cls c) (.type "object") = some true) (hmg : mg c = some (.ref (G.cls c))) : IsoOk K mg G c :=
  ⟨cl, hd, ty, self, fun t => by cases t <;> assumption, ha, hn, ht, hm, hmg⟩
theorem kit_own {K : PySem.W.Frag} {C : Addr} {t : Value} {b : Bool} (hd : PySem.W.hasDictIn K C = true) (ht : PySem.W.typeIn K (.ref C) = some (.type "type")) (hne : (t == Value.ref C) = false) (h : PySem.W.subIn K t (.ref C) = some b) :
    PySem.W.kitOne K t (.ref C) = some b := by
  unfold PySem.W.kitOne
  rw [if_neg (by rw [hne]; decide)]
  obtain ⟨cd, hc, _⟩ := PySem.W.any_some hd
  have e2 : ((PySem.W.clsIn K C).isSome && PySem.W.typeIn K (.ref C) == some (.type "type")) = true := by rw [hc, ht] <;> rfl
  show (if ((PySem.W.clsIn K C).isSome && PySem.W.typeIn K (.ref C) == some (.type "type")) = true then PySem.W.subIn K t (.ref C) else none) = some b
  rw [if_pos e2]
  exact h
/-- what a value is, beside the own class c: an object of it, or of a built-in class -/
inductive Kd where
  | own | ty (t : Ty)
def kdD (c : Str) (S : Store) (d : Da) : Option Kd := match objAt S c d with
  | some _ => some .own
  | none => (tyD S d).map .ty
def Kd.isOwn : Kd → Bool
  | .own => true
  | .ty _ => false
def isOM (c : Str) (f : M Da) : M Da := fun ρ S => (f ρ S).bind fun d S1 => match kdD c S1 d with
  | some k => .ok (.bl k.isOwn) S1
  | none => .bad
section
variable {X : Cx} {G : Gc} {Wx : WX} {c : Str}
def Kd.cls (G : Gc) (c : Str) : Kd → Value
  | .own => .ref (G.cls c)
  | .ty t => .type t.name
theorem Rep.kd {W : Wd} {H : Hp} {S : Store} {d : Da} {v : V} {k : Kd} {mg : Str → Option Value} (O : IsoOk G.K mg G c) (s : SR G W H S) (r : Rep G W d v) (h : kdD c S d = some k) : TyX G.K H v (k.cls G c) ∧ PySem.W.kitOne G.K (k.cls G c) (.ref (G.cls c)) = some k.isOwn := by
  unfold kdD at h
  split at h
  · rename_i jf e
    cases h
    obtain ⟨a, dx, vs, rfl, _, h1, _⟩ := s.obj r (j := jf.1) (fs := jf.2) e
    exact ⟨.base (.ins h1 O.cl O.ha O.hget O.htak O.hm), kit_ref O.hd O.ty O.self O.self⟩
  · cases q : tyD S d with
    | none => rw [q] at h; cases h
    | some t =>
      rw [q] at h
      cases h
      exact ⟨r.tyX s q, kit_own O.hd O.ty rfl (O.sub t)⟩
theorem pd_isO {e : Expr} {f : M Da} {p p2 pos : Pos} (O : IsoOk X.K X.mg G c) (hm : X.mg "isinstance" = none) (he : PE X e (tM G Wx f)) (hg : Gl X "isinstance" := by rfl) (hg2 : Gl X c := by rfl) (hdb2 : (c == ("__debug__" : Str)) = false := by decide)
    (hs : starEach [e, .Name c p2] X.env = (false, eval e X.env) :: starEach [.Name c p2] X.env := by rfl) (hpl : (backTo pos (starEach [.Name c p2] X.env)).any (·.1) = false := by rfl) (hs2 : starEach [.Name c p2] X.env = (false, eval (.Name c p2) X.env) :: starEach [] X.env := by rfl) (hK : G.K = X.K := by rfl) :
    PE X (.Call (.Name "isinstance" p) [e, .Name c p2] [] pos) (tM G Wx (isOM c f)) :=
  (pe_callB call_isi hg hm (by decide +kernel) (pa_cons he (pa_cons (pe_glob (v := .ref (G.cls c)) hg2 O.mg rfl hdb2) pa_nil hs2) hs) (by decide) (by decide) hs hpl).imp fun σ H Q ⟨W, S, ρ, s, r, q⟩ => ⟨W, S, ρ, s, r, q.bind fun d S1 v W1 H1 x1 s1 q1 k1 => by
    cases e : kdD c S1 d with
    | none => simp only [e] at k1; exact k1.elim
    | some k =>
      simp only [e] at k1
      have z := q1.kd (mg := X.mg) (by rw [hK]; exact O) s1 e
      rw [hK] at z
      exact ⟨v, .ref (G.cls c), k.cls G c, .ref (G.cls c), k.isOwn, rfl, .own _, z.1, z.2, k1.here s1 (repB W1 _)⟩⟩
end
/-! ### == and != of an object with its own == -/
end NL
namespace PySem.W
open PySem
section
variable {prog : Program} {w : World} {A : Around} {E : Value → Shared → Prop} {s : Shared} {K : Frag} {x C L f : Addr} {h₀ : Heap} {m : Str → Option Value} {ox : Obj} {od : Option Obj} {name : Str} {b tb : Value}
theorem nl_ifBound {M : Model} {id : String} {args : List Value} {Q : Option Value → Shared → Prop} (X : K.In s.heap) (I : InstAt s.heap x ox C od) (hs : findIn K (.ref C) name = some (some (.builtin id))) (S : Slot "object" name id)
    (h : wpAny M A (call (.builtin id) (.ref x :: args)) (fun v => Q (some v)) E s) : wpAny M A (callSpecialIfBound? (.ref x) name args) Q E s := by
  have fin : wpAny M A (call (.builtin id) ([.ref x] ++ args) >>= fun v => pure (some v)) Q E s := wpAny_bind (wpAny_mono h (fun _ _ q => wpAny_pure q) fun _ _ q => q)
  simp only [callSpecialIfBound?, bindSpecialIfBound?]; refine wpAny_holding ?_
  refine wpAny_bind (wpAny_bind (wpAny_bind (I.type.here ((looks_findIn X hs).here ?_)))); simp only [S.bind]
  refine wpAny_bind (wpAny_askSetting ?_); refine wpAny_ite ?_
  split
  · exact wpAny_bind (wpAny_pure (wpAny_pure (by exact fin)))
  · exact wpAny_tryCatch (wpAny_bind (wpAny_pure (wpAny_pure (by exact fin))))
theorem nl_check {M : Model} {id owner n : String} {rest : List Value} {Q : Unit → Shared → Prop} (X : K.In s.heap) (I : InstAt s.heap x ox C od) (hk : builtinKind id = some .slot) (hsp : splitId id = some (owner, n)) (ha : argsOk id ⟨.ref x :: rest, []⟩)
    (ho : subIn K (.ref C) (.type owner) = some true) (hq : Q () s) : wpAny M A (checkBuiltinCall id ⟨.ref x :: rest, []⟩) Q E s := by
  simp only [checkBuiltinCall, hk, hsp]; refine wpAny_bind ?_; unfold isInstance
  refine wpAny_bind (I.type.here ((looks_subIn X ho).here ?_)); simp only [Bool.not_true, Bool.false_eq_true, if_false]; unfold argsOk at ha
  cases z : Manifest.signature? id with
  | none => exact wpAny_pure hq
  | some g => rw [z] at ha; dsimp only at ha ⊢; rw [show Bind.checkArgs id g ⟨.ref x :: rest, []⟩ = pure () from ha]; exact wpAny_pure hq
/-- what an own == gives back, turned about -/
def NotBack (Q : Value → Shared → Prop) (v : Value) (s' : Shared) : Prop := ∃ r, v = .bool r ∧ Q (.bool (!r)) s'
theorem nl_ne {Q : Value → Shared → Prop} (hu : A.units + 1 < cLine) (X : K.In s.heap) (I : InstAt s.heap x ox C od) (hb : Looks (model prog w) s.heap (typeOf b) tb) (hn : notFirst K C tb = true)
    (hs : findIn K (.ref C) "__eq__" = some (some (.ref f))) (hf : isFn K (.ref f) = true) (hne : findIn K (.ref C) "__ne__" = some (some (.builtin "object.__ne__"))) (ho : subIn K (.ref C) (.type "object") = some true)
    (h : wpAny (model prog w) A.in1 (call (.ref f) [.ref x, b]) (NotBack Q) E s) : wpAny (model prog w) A (richCompare .NotEq (.ref x) b) Q E s := by
  have one : wpAny (model prog w) A (tryCompare (.ref x) "__ne__" b) (fun r s' => ∃ v, r = some v ∧ Q v s') E s := by
    unfold tryCompare
    refine wpAny_bind (nl_ifBound X I hne F.cmp_object.ne (wpAny_call (codeAny_call_builtin F.cmp_object.ne.plain F.cmpEntry_ne (nl_check X I F.cmpKind_ne F.cmpSplit_ne (F.cmpArgs_ne _ _) ho ?_))))
    unfold PySem.Builtin.«object.__ne__»
    repeat (first
      | (with_reducible refine wpAny_cRoomFor (by exact hu) ?_)
      | (refine wpAny_bind (m := callSpecialIfBound? (.ref x) (Str.ofString "__eq__") [b]) (ifBound_K X I hs hf (wpAny_mono h (fun r s' hr => by
          obtain ⟨t, rfl, hq⟩ := hr
          repeat (first | exact wpAny_pure ⟨_, rfl, hq⟩ | exact ⟨_, rfl, hq⟩ | exact wpAny_pure hq | (refine wpAny_bind (m := truthy (.bool _)) (wpAny_truthy_bool ?_)) | wp_step)) fun _ _ e => e)))
      | wp_step)
  unfold richCompare; simp only [oneThing_ref]
  refine wpAny_holding (wpAny_bind (wpAny_cRoomFor (Nat.lt_of_succ_lt hu) ?_))
  refine wpAny_bind (I.type.here ?_); refine wpAny_bind (hb.here ?_)
  have past : ∀ (r : Option Value) (s' : Shared), (∃ v, r = some v ∧ Q v s') → ∃ v, r = some v ∧ Q v s' := fun _ _ z => z
  split
  · rename_i q
    have e : PySem.W.subIn K tb (.ref C) = some false := by
      cases ht : (tb == .ref C) with
      | true => rw [beq_iff_eq.mp ht] at q; exact absurd q (by simp)
      | false => rw [notFirst, ht, Bool.false_or] at hn; exact beq_iff_eq.mp hn
    refine wpAny_bind (PySem.W.looks_subIn X e |>.here ?_); simp only [Bool.false_eq_true, if_false]
    refine wpAny_bind (wpAny_mono one (fun r s' z => by obtain ⟨v, rfl, hq⟩ := z; exact wpAny_pure hq) fun _ _ e => e)
  · refine wpAny_bind (wpAny_pure ?_); simp only [Bool.false_eq_true, if_false]
    refine wpAny_bind (wpAny_mono one (fun r s' z => by obtain ⟨v, rfl, hq⟩ := z; exact wpAny_pure hq) fun _ _ e => e)
end
end PySem.W
namespace NL
open PySem PySem.Spec PyProof.Rows L2
theorem RoomG.in1 {k : Nat} {A : Around} (r : RoomG (k + 1) A) : RoomG k A.in1 := ⟨r.rm.in1, r.gd⟩
/-- what == with an own def asks of the class -/
structure EqOk (P : Program) (w : World) (K : PySem.W.Frag) (mg : Str → Option Value) (base : Heap) (G : Gc) (c : Str) (k : Nat) (mf : Mf) : Prop where
  me : MethOk P w K mg base G c "__eq__" k 2 mf
  io : IsoOk K mg G c
  ne : PySem.W.findIn K (.ref (G.cls c)) "__ne__" = some (some (.builtin "object.__ne__"))
  so : PySem.W.subIn K (.ref (G.cls c)) (.type "object") = some true
def eqOR (c : Str) (mf : Mf) (neg : Bool) (a b : Da) (S : Store) : Res Da := match objAt S c a, kdD c S b with
  | some _, some _ => match mf [a, b] S with
    | .ok (.bl t) S' => .ok (.bl (t != neg)) S'
    | _ => .bad
  | _, _ => .bad
def eqOM (c : Str) (mf : Mf) (neg : Bool) (f g : M Da) : M Da := fun ρ S => (f ρ S).bind fun a S1 => (g ρ S1).bind fun b S2 => eqOR c mf neg a b S2
def AftR (G : Gc) (W : Wd) (H : Hp) (r : Res Da) (Q : VK) : Prop := match r with
  | .ok d S => ∀ v W' H', Ext W H W' H' → SR G W' H' S → Rep G W' d v → Q v H'
  | _ => False
def rEqO (G : Gc) (c : Str) (mf : Mf) (neg : Bool) : R2 := fun x y H Q => ∃ W S a b, SR G W H S ∧ Rep G W a x ∧ Rep G W b y ∧ AftR G W H (eqOR c mf neg a b S) Q
section
variable {X : Cx} {G : Gc} {Wx : WX} {c : Str} {k : Nat} {mf : Mf}
theorem ranAt {f : Addr} {fd : FuncData} {ps : List Str} {sp : Sp} {A : Around} {pins : List (Addr × Obj)} {σ : L2.St} {H : Hp} {s : Shared} {Q : VK} {us : List Value} {vs : List V} (F : FnG X.prog X.w X.K X.mg X.base k f fd ps sp) (hr : RoomG k A) (e0 : Env0 X.prog X.w X.K X.mg X.base A X.stack s H) (hb : Binds X.K fd ps [])
    (I : Inv X pins σ H s) (r : Vals vs us) (h : sp vs H Q fun _ _ _ => False) : wpAny (model X.prog X.w) A (call (.ref f) us) (EP X pins σ Q) X.xe s := by
  have b := hb s us I.kIn (by rw [List.append_nil, ← r.length]; exact F.len _ _ _ _ h)
  rw [List.append_nil] at b
  refine wpAny_call (codeAny_mono (F.run hr e0 b r h) ?_)
  rintro (er | fl) s2 hq
  · obtain ⟨_, _, _, _, _, _, _, _, _, _, _, _, z⟩ := hq
    exact z.elim
  · cases fl with
    | ret u => exact I.after hq
    | _ => exact hq.elim
theorem Kd.notFirst {K : PySem.W.Frag} {mg : Str → Option Value} (O : IsoOk K mg G c) (kd : Kd) : PySem.W.notFirst K (G.cls c) (kd.cls G c) = true := by
  unfold PySem.W.notFirst
  cases kd with
  | own => simp [Kd.cls]
  | ty t => simp [Kd.cls, O.sub t]
theorem or_eqO {neg : Bool} {op : CmpOp} (hop : op = if neg then .NotEq else .Eq) (C : EqOk X.prog X.w X.K X.mg X.base G c k mf) (hr : RoomG (k + 1) X.A) (hK : G.K = X.K := by rfl) : OpR X (compareOp op) (rEqO G c mf neg) := by
  intro pins s σ H x y v u Q I rx ry rd
  obtain ⟨W, S, a, b, sr, ra, rb, q⟩ := rd
  obtain ⟨f, fd, ps, F, cl, hm, hb⟩ := C.me.ex
  unfold eqOR at q
  cases ho : objAt S c a with
  | none => rw [ho] at q; exact q.elim
  | some jf =>
    cases hk : kdD c S b with
    | none => rw [ho, hk] at q; exact q.elim
    | some kd =>
      rw [ho, hk] at q
      dsimp only at q
      obtain ⟨ad, dx, vs, rfl, _, h1, _⟩ := sr.obj ra (j := jf.1) (fs := jf.2) ho
      cases rx
      obtain ⟨mA, J, _⟩ := ins_get I.hok h1
      obtain ⟨od, J, _⟩ := J.look
      have tk := rb.kd (mg := X.mg) (by rw [hK]; exact C.io) sr hk
      rw [hK] at tk
      obtain ⟨P, Z, p, _⟩ := kit_of I ry tk.1
      have ty := Z.ty (model X.prog X.w) s.heap I.kIn p
      have nf := kd.notFirst C.io
      cases hmf : mf [a, b] S with
      | ok d S' =>
        rw [hmf] at q
        cases d with
        | bl t =>
          have sp : spM G 2 mf [.ref ad, y] H (fun z H' => z = .bl t ∧ Q (.bl (t != neg)) H') fun _ _ _ => False := by
            refine ⟨rfl, W, S, [a, b], sr, .cons ra (.cons rb .nil), ?_⟩
            rw [hmf]
            exact fun z W' H' x' s' r' => ⟨r'.bl_inv, q _ W' H' x' s' (repB W' _)⟩
          have rv : Vals [V.ref ad, y] [Value.ref ad, u] := .cons rfl (.cons ry .nil)
          cases neg with
          | false =>
            subst hop
            show wpAny (model X.prog X.w) X.A (richCompare .Eq (.ref ad) u) (EP X pins σ Q) X.xe s
            obtain ⟨m, hF⟩ := I.fr
            refine PySem.W.cmp_K (op := .Eq) hr.rm.units0 hF I.ok.mod.kin J ty nf hm.at_ hm.fn ?_
            refine wpAny_mono (ranAt F (hr.mono (Nat.le_succ _)) I.env0 hb I rv sp) (fun w s' z => ?_) fun _ _ x => x
            obtain ⟨z', H', I', rz, rfl, qz⟩ := z
            cases (show w = Value.bool t from rz)
            have e : (t != false) = t := by cases t <;> rfl
            rw [e] at qz
            exact ⟨.bl t, H', I', rfl, qz⟩
          | true =>
            subst hop
            show wpAny (model X.prog X.w) X.A (richCompare .NotEq (.ref ad) u) (EP X pins σ Q) X.xe s
            refine PySem.W.nl_ne (by have := hr.rm.units0; have := hr.rm.units; omega) I.kIn J ty nf hm.at_ hm.fn C.ne C.so ?_
            refine wpAny_mono (ranAt F hr.in1 I.env0.in1 hb I rv sp) (fun w s' z => ?_) fun _ _ x => x
            obtain ⟨z', H', I', rz, rfl, qz⟩ := z
            cases (show w = Value.bool t from rz)
            have e : (t != true) = !t := by cases t <;> rfl
            rw [e] at qz
            exact ⟨t, rfl, .bl (!t), H', I', rfl, qz⟩
        | _ => exact q.elim
      | exc _ _ _ => rw [hmf] at q; exact q.elim
      | bad => rw [hmf] at q; exact q.elim
theorem eqO_imp {neg : Bool} {f g : M Da} {σ : L2.St} {H : Hp} {Q : VK} (k : tM G Wx (eqOM c mf neg f g) σ H Q) : tOp (rEqO G c mf neg) (tM G Wx f) (tM G Wx g) σ H Q := by
  obtain ⟨W, S, ρ, s, r, q⟩ := k
  refine ⟨W, S, ρ, s, r, q.bind fun a S1 x W1 H1 x1 s1 q1 k1 => ⟨W1, S1, ρ, s1, r.mono x1.le, k1.bind fun b S2 y W2 H2 x2 s2 q2 k2 => ⟨W2, S2, a, b, s2, q1.mono x2.le, q2, ?_⟩⟩⟩
  unfold eqOR at k2 ⊢
  revert k2
  cases objAt S2 c a with
  | none => exact fun q => q.elim
  | some jf => cases kdD c S2 b with
    | none => exact fun q => q.elim
    | some kd =>
      dsimp only
      cases mf [a, b] S2 with
      | ok d S' => cases d with
        | bl t => exact fun q => q
        | _ => exact fun q => q.elim
      | _ => exact fun q => q.elim
theorem pd_eqO {a b : Expr} {f g : M Da} {pos : Pos} (C : EqOk X.prog X.w X.K X.mg X.base G c k mf) (hr : RoomG (k + 1) X.A) (ha : PE X a (tM G Wx f)) (hb : PE X b (tM G Wx g)) (hK : G.K = X.K := by rfl) (hm : behindInMarks .Eq b = false := by first | exact nobehind _ (by decide) (by decide) | rfl) : PE X (.Compare a [.Eq] [b] pos) (tM G Wx (eqOM c mf false f g)) :=
  (pe_cmpR (or_eqO (neg := false) rfl C hr hK) ha hb hm).imp fun _ _ _ k => eqO_imp k
theorem pd_neO {a b : Expr} {f g : M Da} {pos : Pos} (C : EqOk X.prog X.w X.K X.mg X.base G c k mf) (hr : RoomG (k + 1) X.A) (ha : PE X a (tM G Wx f)) (hb : PE X b (tM G Wx g)) (hK : G.K = X.K := by rfl) (hm : behindInMarks .NotEq b = false := by first | exact nobehind _ (by decide) (by decide) | rfl) : PE X (.Compare a [.NotEq] [b] pos) (tM G Wx (eqOM c mf true f g)) :=
  (pe_cmpR (or_eqO (neg := true) rfl C hr hK) ha hb hm).imp fun _ _ _ k => eqO_imp k
theorem ptd_eqO {a b : Expr} {f g : M Da} {pos : Pos} (C : EqOk X.prog X.w X.K X.mg X.base G c k mf) (hr : RoomG (k + 1) X.A) (ha : PE X a (tM G Wx f)) (hb : PE X b (tM G Wx g)) (hK : G.K = X.K := by rfl) (hm : behindInMarks .Eq b = false := by first | exact nobehind _ (by decide) (by decide) | rfl) : PT X (.Compare a [.Eq] [b] pos) (tMb G Wx (tstM (eqOM c mf false f g))) :=
  (pt_cmpR (or_eqO (neg := false) rfl C hr hK) ha hb hm).imp fun _ _ _ k => eqO_imp (tst_imp k)
theorem ptd_neO {a b : Expr} {f g : M Da} {pos : Pos} (C : EqOk X.prog X.w X.K X.mg X.base G c k mf) (hr : RoomG (k + 1) X.A) (ha : PE X a (tM G Wx f)) (hb : PE X b (tM G Wx g)) (hK : G.K = X.K := by rfl) (hm : behindInMarks .NotEq b = false := by first | exact nobehind _ (by decide) (by decide) | rfl) : PT X (.Compare a [.NotEq] [b] pos) (tMb G Wx (tstM (eqOM c mf true f g))) :=
  (pt_cmpR (or_eqO (neg := true) rfl C hr hK) ha hb hm).imp fun _ _ _ k => eqO_imp (tst_imp k)
end
end NL

set_option Elab.async false
set_option linter.all false
set_option autoImplicit false
set_option maxRecDepth 100000
set_option maxHeartbeats 4100000
/-! ### sorted: tuples of ints of any lengths -/
namespace NLS
open PySem PyProof.Rows L2 SrtO
theorem lex_irr : ∀ a : List Int, HT.lexLt a a = false
  | [] => rfl
  | x :: a => by rw [HT.lexLt_cons, if_pos rfl, lex_irr a]
theorem lex_asym : ∀ a b : List Int, HT.lexLt a b = true → HT.lexLt b a = false
  | [], [], h => by cases h
  | [], y :: b, _ => rfl
  | x :: a, [], h => by cases h
  | x :: a, y :: b, h => by
    rw [HT.lexLt_cons] at h ⊢
    by_cases e : x = y
    · rw [if_pos e] at h; rw [if_pos e.symm]; exact lex_asym a b h
    · rw [if_neg e] at h; rw [if_neg (fun z => e z.symm)]
      have := of_decide_eq_true h
      exact decide_eq_false (fun z => by omega)
theorem lex_tr : ∀ x y z : List Int, HT.lexLt y x = false → HT.lexLt z y = false → HT.lexLt z x = false
  | [], [], _, _, h2 => h2
  | [], _ :: _, [], _, _ => rfl
  | [], (_ :: _), (_ :: _), _, _ => rfl
  | _ :: _, [], _, h1, _ => by cases h1
  | _ :: _, _ :: _, [], _, h2 => by cases h2
  | a :: x, b :: y, c :: z, h1, h2 => by
    rw [HT.lexLt_cons] at h1 h2 ⊢
    by_cases e1 : b = a
    · rw [if_pos e1] at h1
      by_cases e2 : c = b
      · rw [if_pos e2] at h2
        rw [if_pos (e2.trans e1)]; exact lex_tr x y z h1 h2
      · rw [if_neg e2] at h2
        rw [if_neg (by rw [← e1]; exact e2), ← e1]; exact h2
    · rw [if_neg e1] at h1
      have k1 := of_decide_eq_false h1
      by_cases e2 : c = b
      · rw [e2, if_neg e1]; exact h1
      · rw [if_neg e2] at h2
        have k2 := of_decide_eq_false h2
        rw [if_neg (by omega)]
        exact decide_eq_false (fun z => by omega)
theorem lex_tri : ∀ a b : List Int, HT.lexLt a b = false → HT.lexLt b a = false → a = b
  | [], [], _, _ => rfl
  | [], (_ :: _), h, _ => nomatch h
  | _ :: _, [], _, h => nomatch h
  | x :: a, y :: b, h1, h2 => by
    rw [HT.lexLt_cons] at h1 h2
    by_cases e : x = y
    · rw [if_pos e] at h1; rw [if_pos e.symm] at h2
      rw [e, lex_tri a b h1 h2]
    · rw [if_neg e] at h1; rw [if_neg (fun z => e z.symm)] at h2
      have k1 := of_decide_eq_false h1
      have k2 := of_decide_eq_false h2
      omega
/-- a value is a tuple of these ints -/
def TI (h : Heap) (v : Value) (ns : List Int) : Prop := ∃ (a : Addr) (items : Array Value), v = .ref a ∧ h.IsTuple a items ∧ IntsAre items.toList ns
theorem ints_inj : ∀ {l : List Value} {ns ms : List Int}, IntsAre l ns → IntsAre l ms → ns = ms
  | _, _, _, .nil, .nil => rfl
  | _, _, _, .cons n _ h, .cons _ _ k => by rw [ints_inj h k]
theorem TI.inj {h : Heap} {v : Value} {ns ms : List Int} (a : TI h v ns) (b : TI h v ms) : ns = ms := by
  obtain ⟨x, its, rfl, ⟨o, h1, h2, n, h3⟩, i⟩ := a
  obtain ⟨y, its', e, ⟨o', h1', h2', n', h3'⟩, i'⟩ := b
  cases e
  rw [h1] at h1'; cases h1'
  rw [h3] at h3'; cases h3'
  exact ints_inj i i'
open Classical in
noncomputable def tupI (h : Heap) (v : Value) : List Int := if q : ∃ ns, TI h v ns then Classical.choose q else []
theorem TI.get {h : Heap} {v : Value} {ns : List Int} (a : TI h v ns) : tupI h v = ns := by
  have q : ∃ ns, TI h v ns := ⟨ns, a⟩
  unfold tupI
  rw [dif_pos q]
  exact (Classical.choose_spec q).inj a
theorem TI.keep {h h' : Heap} {v : Value} {ns : List Int} (a : TI h v ns) (k : ∀ b o, h.get? b = some o → o.cls = .type "tuple" → h'.get? b = some o) : TI h' v ns := by
  obtain ⟨x, its, e, ⟨o, h1, h2, h3⟩, i⟩ := a
  exact ⟨x, its, e, ⟨o, k x o h1 h2, h2, h3⟩, i⟩
noncomputable def ltT (h : Heap) : Value → Value → Bool := fun v u => HT.lexLt (tupI h v) (tupI h u)
theorem swoT (h : Heap) : Swo (ltT h) := ⟨fun x y => lex_asym _ _, fun x y z => lex_tr _ _ _⟩
section
variable {prog : Program} {w : World} {A : Around} {E : Value → Shared → Prop} {s : Shared}
theorem lt_any {v u : Value} {ns ms : List Int} {Q : Bool → Shared → Prop} (a : TI s.heap v ns) (b : TI s.heap u ms) (hu : A.units < cLine) (h : Q (HT.lexLt ns ms) s) : wpAny (model prog w) A (keyLt' oneType' v u) Q E s := by
  obtain ⟨x, its, rfl, ⟨o, h1, h2, n, h3⟩, i⟩ := a
  obtain ⟨y, its', rfl, ⟨o', h1', h2', n', h3'⟩, i'⟩ := b
  obtain ⟨c, dd, dt, sl⟩ := o
  obtain ⟨c', dd', dt', sl'⟩ := o'
  simp only at h2 h3 h2' h3'
  subst h2 h3 h2' h3'
  rw [keyLt'_oneType, oneLt'_eq, if_pos rfl]; refine wpAny_bind (wpAny_cRoomFor hu ?_)
  refine wpAny_bind (wpAny_callSpecialIfBound?_slot ⟨_, h1, rfl⟩ PySem.F.slot_tuple_lt (call_meets PySem.F.slot_tuple_lt ⟨_, h1, rfl⟩ PySem.F.entry_tuple_lt (PySem.F.args_tuple_lt_2 _ _) (HT.tuple_lt_ints x y its its' n n' dd dd' sl sl' ns ms i i') ⟨h1, h1', ?_⟩))
  exact wpAny_truthy_bool h
theorem kat_any {b fin : Bool} {Q : Bool → Shared → Prop} : ∀ {xs ys : List Value} {ns ms : List Int} (i : Nat), IntsAre xs ns → IntsAre ys ms → fin = decide (ns.length < ms.length) → Q (HT.lexLt ns ms) s → PySem.W.KatLex prog w A b fin Q (xs.zip ys) i s
  | [], [], _, _, _, .nil, .nil, hf, h => by
    have e : fin = HT.lexLt [] [] := hf
    rw [← e] at h
    exact PySem.W.kat_nil h
  | [], _ :: _, _, _, _, .nil, .cons _ _ _, hf, h => by
    have e : fin = true := hf
    rw [List.zip_nil_left]
    exact PySem.W.kat_nil (by rw [e]; exact h)
  | _ :: _, [], _, _, _, .cons _ _ _, .nil, hf, h => by
    have e : fin = false := hf
    rw [List.zip_nil_right]
    exact PySem.W.kat_nil (by rw [e]; exact h)
  | _ :: xs, _ :: ys, _, _, i, .cons n t hx, .cons m u hy, hf, h => by
    rw [List.zip_cons_cons]
    rw [HT.lexLt_cons] at h
    refine PySem.W.kat_cons (SeqAt.EqAt.int_int n t m u prog w _ _ ?_)
    refine PySem.W.kat_go (fun same => ?_) (fun e1 => ?_)
    · have ex : n = m := by simpa using same
      rw [if_pos ex] at h
      refine PySem.W.kat_yes (kat_any (i + 1) hx hy (hf.trans ?_) h)
      simp
    · have ex : ¬ n = m := by simpa using e1
      rw [if_neg ex] at h
      refine PySem.W.kat_no ?_
      cases q : (b && i == 0) with
      | true => exact oneLt_int h
      | false => exact PySem.W.kat_one _ _ (PyProof.Rows.lt_int h)
theorem lt_full {v u : Value} {ns ms : List Int} {Q : Bool → Shared → Prop} (a : TI s.heap v ns) (b : TI s.heap u ms) (h : Q (HT.lexLt ns ms) s) : wpAny (model prog w) A (keyLt' (tuples' true) v u) Q E s := by
  obtain ⟨x, its, rfl, ⟨o, h1, h2, n, h3⟩, i⟩ := a
  obtain ⟨y, its', rfl, ⟨o', h1', h2', n', h3'⟩, i'⟩ := b
  refine PySem.W.kat_lt h1 h3 h1' h3' (kat_any 0 i i' ?_ h)
  rw [← Array.length_toList, ← Array.length_toList, i.length, i'.length]
/-- the sort's kind where the first one has no item -/
theorem kind_any {vs : List Value} {Q : SortKind → Shared → Prop} (h0 : ∃ v r, vs = v :: r ∧ TI s.heap v []) (hv : ∀ v ∈ vs, ∃ ns, TI s.heap v ns) (h : Q oneType' s) : wpAny (model prog w) A (keyKind' vs.toArray) Q E s := by
  have look : ∀ v ns, TI s.heap v ns → PySem.W.Looks (model prog w) s.heap (typeOf v) (.type "tuple") := fun v ns ti => by
    obtain ⟨a, its, rfl, ⟨o, h1, h2, n, h3⟩, i⟩ := ti
    rw [← h2]
    exact (PySem.W.Looks.ld h1).andThen .now
  have first : ∀ v ns, TI s.heap v ns → ∀ {Q' : Option Value → Shared → Prop}, (∀ r, (ns = [] → r = none) → (ns ≠ [] → r ≠ none) → Q' r s) → wpAny (model prog w) A (firstOfTuple' v) Q' E s := fun v ns ti Q' hq => by
    have lk := look v ns ti
    obtain ⟨a, its, rfl, ⟨o, h1, h2, n, h3⟩, i⟩ := ti
    rw [PySem.W.kas_first_eq]
    refine wpAny_bind (lk.here ?_)
    rw [if_neg (by first | decide | simp)]
    refine wpAny_bind (listItems_at h1 h3 (wpAny_pure (hq _ (fun e => ?_) fun e => ?_)))
    · subst e
      have : its.toList = [] := by cases q : its.toList with
        | nil => rfl
        | cons x l => rw [q] at i; cases i
      have : its = #[] := by apply Array.toList_inj.mp; simpa using this
      subst this; rfl
    · intro z
      have hl := i.length
      cases ns with
      | nil => exact e rfl
      | cons x l =>
        have : 0 < its.size := by rw [← Array.length_toList, hl]; simp
        simp [this] at z
  have firsts : ∀ (l : List Value), (∀ v ∈ l, ∃ ns, TI s.heap v ns) → ∀ {Q' : List (Option Value) → Shared → Prop}, (∀ rs : List (Option Value), (∀ v r, l = v :: r → TI s.heap v [] → ∃ r', rs = none :: r') → Q' rs s) → wpAny (model prog w) A (l.mapM firstOfTuple') Q' E s := by
    intro l
    induction l with
    | nil => intro _ Q' hq; rw [List.mapM_nil]; exact wpAny_pure (hq [] fun v r z => by cases z)
    | cons v l ih =>
      intro hl Q' hq
      obtain ⟨ns, ti⟩ := hl v List.mem_cons_self
      rw [List.mapM_cons]
      refine wpAny_bind (first v ns ti fun r hr _ => wpAny_bind (ih (fun u hu => hl u (List.mem_cons_of_mem _ hu)) fun rs _ => wpAny_pure (hq (r :: rs) fun v' r' z ti' => ?_)))
      cases z
      rw [hr (ti.inj ti')]
      exact ⟨rs, rfl⟩
  obtain ⟨v, r, rfl, ti⟩ := h0
  rw [PyProof.Rows.kat_kind_eq, List.mapM_toArray, map_eq_pure_bind]
  refine wpAny_bind (wpAny_bind (firsts _ hv fun rs hrs => wpAny_pure ?_))
  obtain ⟨rs', rfl⟩ := hrs v r rfl ti
  rw [if_neg (by simp), if_neg (by simp), oneTypeOnly'_eq, List.mapM_toArray, map_eq_pure_bind]
  refine wpAny_bind (wpAny_bind (wpAny_bind (PySem.W.kas_mapM (r := Value.type "tuple") _ (fun u hu Q' hq => by
    obtain ⟨ns, ti⟩ := hv u hu
    exact (look u ns ti).here hq) (wpAny_pure ?_))))
  have hall2 : ((List.map (fun _ => Value.type "tuple") (v :: r)).toArray.all fun x => x == Value.type "tuple") = true := by
    simp
  have h00 : (List.map (fun _ => Value.type "tuple") (v :: r)).toArray[0]? = some (Value.type "tuple") := by simp
  rw [h00]
  simp only [hall2, if_true]; exact wpAny_pure (wpAny_pure h)
theorem kind_full {vs : List Value} {Q : SortKind → Shared → Prop} (h0 : 0 < vs.length) (hv : ∀ v ∈ vs, ∃ n ns, TI s.heap v (n :: ns)) (h : Q (tuples' true) s) : wpAny (model prog w) A (keyKind' vs.toArray) Q E s := by
  have ex : ∀ l : List Value, (∀ v ∈ l, ∃ n ns, TI s.heap v (n :: ns)) → ∃ fs, PySem.W.KatTups s.heap l fs ∧ fs.length = l.length ∧ ∀ f ∈ fs, ∃ x t, f = Value.int x t := by
    intro l
    induction l with
    | nil => intro _; exact ⟨[], .nil, rfl, fun f hf => by cases hf⟩
    | cons v l ih =>
      intro hl
      obtain ⟨fs, h1, h2, h3⟩ := ih fun u hu => hl u (List.mem_cons_of_mem _ hu)
      obtain ⟨n, ns, a, its, rfl, ⟨o, q1, q2, k, q3⟩, i⟩ := hl v List.mem_cons_self
      cases e : its.toList with
      | nil => rw [e] at i; cases i
      | cons x l2 =>
        rw [e] at i
        cases i with
        | cons _ t _ =>
          refine ⟨_ :: fs, .cons q1 q2 q3 (f := .int n t) ?_ h1, by simp [h2], fun f hf => ?_⟩
          · rw [← Array.getElem?_toList, e]; rfl
          · rcases List.mem_cons.1 hf with z | z
            · exact ⟨n, t, z⟩
            · exact h3 f z
  obtain ⟨fs, h1, h2, h3⟩ := ex vs hv
  have e : (Value.type "int" != Value.type "tuple") = true := by decide +kernel
  refine PySem.W.kat_kind (T := .type "int") h1 (by omega) (fun f hm => by obtain ⟨x, t, rfl⟩ := h3 f hm; exact PySem.W.Looks.now) (by rfl) ?_
  rw [e]; exact h
/-- what can be sorted here: no tuple without items, or the first one -/
def Ok2 (h : Heap) (vs : List Value) : Prop := (∀ v ∈ vs, ∃ n ns, TI h v (n :: ns)) ∨ ((∃ v r, vs = v :: r ∧ TI h v []) ∧ ∀ v ∈ vs, ∃ ns, TI h v ns)
theorem Ok2.all {h : Heap} {vs : List Value} (o : Ok2 h vs) : ∀ v ∈ vs, ∃ ns, TI h v ns := by
  rcases o with o | o
  · exact fun v hv => let ⟨n, ns, t⟩ := o v hv; ⟨_, t⟩
  · exact o.2
theorem Ok2.keep {h h' : Heap} {vs : List Value} (o : Ok2 h vs) (k : ∀ b o, h.get? b = some o → o.cls = .type "tuple" → h'.get? b = some o) : Ok2 h' vs := by
  rcases o with o | ⟨⟨v, r, e, t⟩, o⟩
  · exact .inl fun v hv => let ⟨n, ns, t⟩ := o v hv; ⟨n, ns, t.keep k⟩
  · exact .inr ⟨⟨v, r, e, t.keep k⟩, fun v hv => let ⟨ns, t⟩ := o v hv; ⟨ns, t.keep k⟩⟩
theorem sortable {a : Addr} {vs : List Value} (h2 : 2 ≤ vs.length) (hu : A.units < cLine) (o : Ok2 s.heap vs) (ha : ∀ o, s.heap.get? a = some o → o.cls ≠ .type "tuple") : SortableO prog w A s a vs (ltT s.heap) := by
  intro h' keep
  have kt : ∀ b o, s.heap.get? b = some o → o.cls = .type "tuple" → h'.get? b = some o := fun b o e c => keep b o (fun z => by subst z; exact ha o e c) e
  have o' := o.keep kt
  have cmp : ∀ p q : Keyed, p.1 ∈ vs → q.1 ∈ vs → ∃ ns ms, TI h' p.1 ns ∧ TI h' q.1 ms ∧ lt2 (ltT s.heap) p q = HT.lexLt ns ms := fun p q hp hq => by
    obtain ⟨ns, t1⟩ := o.all _ hp
    obtain ⟨ms, t2⟩ := o.all _ hq
    refine ⟨ns, ms, t1.keep kt, t2.keep kt, ?_⟩
    show HT.lexLt (tupI s.heap p.1) (tupI s.heap q.1) = _
    rw [t1.get, t2.get]
  rcases o' with o' | o'
  · refine ⟨tuples' true, fun Q E hq => kind_full (by omega) o' hq, fun p q hp hq => ?_⟩
    obtain ⟨ns, ms, t1, t2, e⟩ := cmp p q hp hq
    rw [e]
    exact lt_full (s := { s with heap := h' }) t1 t2 ⟨rfl, rfl⟩
  · refine ⟨oneType', fun Q E hq => kind_any o'.1 o'.2 hq, fun p q hp hq => ?_⟩
    obtain ⟨ns, ms, t1, t2, e⟩ := cmp p q hp hq
    rw [e]
    exact lt_any (s := { s with heap := h' }) t1 t2 hu ⟨rfl, rfl⟩
end
end NLS

set_option Elab.async false
set_option linter.all false
set_option autoImplicit false
set_option maxRecDepth 100000
set_option maxHeartbeats 4100000
namespace NL
open PySem PySem.Spec PyProof.Rows L2
/-! ### rows sorted, in plain Lean -/
def leL (a b : List Int) : Prop := HT.lexLt b a = false
def insL (x : List Int) : List (List Int) → List (List Int)
  | [] => [x]
  | y :: l => if HT.lexLt y x = true then y :: insL x l else x :: y :: l
def sortL (l : List (List Int)) : List (List Int) := l.foldr insL []
def insLU (x : List Int) : List (List Int) → List (List Int)
  | [] => [x]
  | y :: l => if HT.lexLt y x = true then y :: insLU x l else if HT.lexLt x y = true then x :: y :: l else y :: l
def sortLU (l : List (List Int)) : List (List Int) := l.foldr insLU []
theorem leL_trans {a b c : List Int} (h : leL a b) (k : leL b c) : leL a c := NLS.lex_tr _ _ _ h k
theorem ltL_trans {a b c : List Int} (h : HT.lexLt a b = true) (k : HT.lexLt b c = true) : HT.lexLt a c = true := by
  cases q : HT.lexLt a c with
  | true => rfl
  | false =>
    have h2 := NLS.lex_tr b c a (NLS.lex_asym b c k) q
    rw [h] at h2; cases h2
theorem insL_perm (x : List Int) : ∀ l, (insL x l).Perm (x :: l)
  | [] => .refl _
  | y :: l => by
    unfold insL
    split
    · exact ((insL_perm x l).cons y).trans (.swap x y l)
    · exact .refl _
theorem sortL_perm : ∀ l, (sortL l).Perm l
  | [] => .refl _
  | x :: l => (insL_perm x (sortL l)).trans ((sortL_perm l).cons x)
theorem insL_sorted {x : List Int} : ∀ {l : List (List Int)}, l.Pairwise leL → (insL x l).Pairwise leL
  | [], _ => List.pairwise_singleton _ _
  | y :: l, h => by
    rw [List.pairwise_cons] at h
    unfold insL
    split
    · rename_i q
      refine List.pairwise_cons.mpr ⟨fun z hz => ?_, insL_sorted h.2⟩
      rcases List.mem_cons.1 ((insL_perm x l).mem_iff.mp hz) with e | e
      · rw [e]; exact NLS.lex_asym _ _ q
      · exact h.1 z e
    · rename_i q
      have q : leL x y := by unfold leL; simpa using q
      refine List.pairwise_cons.mpr ⟨fun z hz => ?_, List.pairwise_cons.mpr h⟩
      rcases List.mem_cons.1 hz with e | e
      · rw [e]; exact q
      · exact leL_trans q (h.1 z e)
theorem sortL_sorted : ∀ l, (sortL l).Pairwise leL
  | [] => List.Pairwise.nil
  | x :: l => insL_sorted (sortL_sorted l)
/-- one arrangement -/
theorem arr_uniq : ∀ {l m : List (List Int)}, l.Perm m → l.Pairwise leL → m.Pairwise leL → l = m
  | [], m, p, _, _ => (List.nil_perm.mp p).symm
  | x :: l, [], p, _, _ => absurd p.length_eq (by simp)
  | x :: l, y :: m, p, h1, h2 => by
    rw [List.pairwise_cons] at h1 h2
    have e : x = y := by
      have a : y = x ∨ y ∈ l := List.mem_cons.1 (p.mem_iff.mpr List.mem_cons_self)
      have b : x = y ∨ x ∈ m := List.mem_cons.1 (p.mem_iff.mp List.mem_cons_self)
      rcases a with a | a
      · exact a.symm
      · rcases b with b | b
        · exact b
        · exact NLS.lex_tri _ _ (h2.1 x b) (h1.1 y a)
    subst e
    rw [arr_uniq (List.perm_cons x |>.mp p) h1.2 h2.2]
theorem mem_insLU {x z : List Int} : ∀ {l : List (List Int)}, z ∈ insLU x l ↔ z = x ∨ z ∈ l
  | [] => by simp [insLU]
  | y :: l => by
    unfold insLU
    split
    · rw [List.mem_cons, mem_insLU, List.mem_cons]
      constructor
      · rintro (h | h | h)
        · exact .inr (.inl h)
        · exact .inl h
        · exact .inr (.inr h)
      · rintro (h | h | h)
        · exact .inr (.inl h)
        · exact .inl h
        · exact .inr (.inr h)
    · rename_i q1
      split
      · rw [List.mem_cons]
      · rename_i q2
        have e : x = y := NLS.lex_tri _ _ (by simpa using q2) (by simpa using q1)
        subst e
        rw [List.mem_cons]
        constructor
        · exact fun h => .inr h
        · rintro (h | h)
          · exact .inl h
          · exact h
theorem mem_sortLU {z : List Int} : ∀ {l : List (List Int)}, z ∈ sortLU l ↔ z ∈ l
  | [] => Iff.rfl
  | x :: l => by
    show z ∈ insLU x (sortLU l) ↔ _
    rw [mem_insLU, mem_sortLU, List.mem_cons]
theorem insLU_sorted {x : List Int} : ∀ {l : List (List Int)}, l.Pairwise (fun a b => HT.lexLt a b = true) → (insLU x l).Pairwise (fun a b => HT.lexLt a b = true)
  | [], _ => List.pairwise_singleton _ _
  | y :: l, h => by
    rw [List.pairwise_cons] at h
    unfold insLU
    split
    · rename_i q
      refine List.pairwise_cons.mpr ⟨fun z hz => ?_, insLU_sorted h.2⟩
      rcases mem_insLU.mp hz with e | e
      · rw [e]; exact q
      · exact h.1 z e
    · split
      · rename_i q
        refine List.pairwise_cons.mpr ⟨fun z hz => ?_, List.pairwise_cons.mpr h⟩
        rcases List.mem_cons.1 hz with e | e
        · rw [e]; exact q
        · exact ltL_trans q (h.1 z e)
      · exact List.pairwise_cons.mpr h
theorem sortLU_sorted : ∀ l, (sortLU l).Pairwise fun a b => HT.lexLt a b = true
  | [] => List.Pairwise.nil
  | x :: l => insLU_sorted (sortLU_sorted l)
theorem strict_uniq : ∀ {l m : List (List Int)}, (∀ z, z ∈ l ↔ z ∈ m) → l.Pairwise (fun a b => HT.lexLt a b = true) → m.Pairwise (fun a b => HT.lexLt a b = true) → l = m
  | [], [], _, _, _ => rfl
  | [], y :: m, h, _, _ => absurd ((h y).mpr List.mem_cons_self) (by simp)
  | x :: l, [], h, _, _ => absurd ((h x).mp List.mem_cons_self) (by simp)
  | x :: l, y :: m, h, h1, h2 => by
    rw [List.pairwise_cons] at h1 h2
    have irr : ∀ a, ¬ HT.lexLt a a = true := fun a => by rw [NLS.lex_irr]; decide
    have no : ∀ {a b : List Int}, HT.lexLt a b = true → HT.lexLt b a = true → False := fun p q => by rw [NLS.lex_asym _ _ p] at q; cases q
    have e : x = y := by
      rcases List.mem_cons.1 ((h y).mpr List.mem_cons_self) with a | a
      · exact a.symm
      · rcases List.mem_cons.1 ((h x).mp List.mem_cons_self) with b | b
        · exact b
        · exact (no (h1.1 y a) (h2.1 x b)).elim
    subst e
    rw [strict_uniq (l := l) (m := m) (fun z => ?_) h1.2 h2.2]
    constructor
    · intro hz
      rcases List.mem_cons.1 ((h z).mp (List.mem_cons_of_mem _ hz)) with a | a
      · rw [a] at hz; exact (irr x (h1.1 x hz)).elim
      · exact a
    · intro hz
      rcases List.mem_cons.1 ((h z).mpr (List.mem_cons_of_mem _ hz)) with a | a
      · rw [a] at hz; exact (irr x (h2.1 x hz)).elim
      · exact a
/-! ### sorted(list of tuples of ints) -/
/-- these values are tuples of these rows -/
inductive TupL (K : PySem.W.Frag) (H : Hp) : List V → List (List Int) → Prop
  | nil : TupL K H [] []
  | cons {a : Addr} {r : List Int} {xs : List V} {rs : List (List Int)} (h : SqT K H a (r.map V.int)) (t : TupL K H xs rs) : TupL K H (.ref a :: xs) (r :: rs)
def Ok3 (rs : List (List Int)) : Prop := (∀ r ∈ rs, r ≠ []) ∨ rs.head? = some []
instance (rs : List (List Int)) : Decidable (Ok3 rs) := by unfold Ok3; infer_instance
def rSortL (K : PySem.W.Frag) : List V → Hp → VK → Prop := fun vs H Q => ∃ (F : Hp) (l : Addr) (xs : List V) (rs : List (List Int)), (∀ a o, F a = some o → H a = some o) ∧ vs = [.ref l] ∧ SqL K H l xs ∧ TupL K F xs rs ∧ Ok3 rs ∧
  ∀ (p : Addr) (ys : List V), H p = none → TupL K F ys (sortL rs) → Q (.ref p) (upd H p (.lst ys))
section
variable {X : Cx} {s : Shared} {pins : List (Addr × Obj)} {σ : L2.St} {H F : Hp}
theorem TupL.ti (I : Inv X pins σ H s) (sub : ∀ a o, F a = some o → H a = some o) : ∀ {xs : List V} {rs : List (List Int)} {us : List Value}, TupL X.K F xs rs → Vals xs us → us.map (NLS.tupI s.heap) = rs ∧ ∀ u ∈ us, ∃ (a : Addr) (r : List Int), u = .ref a ∧ r ∈ rs ∧ SqT X.K F a (r.map V.int) ∧ NLS.TI s.heap u r
  | _, _, _, .nil, .nil => ⟨rfl, fun u hu => by cases hu⟩
  | _, _, _, .cons (a := a) (r := r0) h t, .cons r v => by
    cases r
    obtain ⟨its, rv, p, _⟩ := I.tuple (SqT.mono h sub)
    have ti : NLS.TI s.heap (.ref a) r0 := ⟨_, _, rfl, p, by simpa using rv.ints⟩
    obtain ⟨e, k⟩ := t.ti I sub v
    refine ⟨by rw [List.map_cons, ti.get, e], fun u hu => ?_⟩
    rcases List.mem_cons.1 hu with z | z
    · subst z; exact ⟨a, r0, rfl, List.mem_cons_self, h, ti⟩
    · obtain ⟨b, r, e1, e2, e3⟩ := k u z
      exact ⟨b, r, e1, List.mem_cons_of_mem _ e2, e3⟩
theorem tupL_of {us : List Value} (k : ∀ u ∈ us, ∃ (a : Addr) (r : List Int), u = .ref a ∧ SqT X.K F a (r.map V.int) ∧ NLS.TI s.heap u r) : ∀ {out : List Value}, (∀ u ∈ out, u ∈ us) → ∃ ys, Vals ys out ∧ TupL X.K F ys (out.map (NLS.tupI s.heap))
  | [], _ => ⟨[], .nil, .nil⟩
  | u :: out, h => by
    obtain ⟨ys, h1, h2⟩ := tupL_of k (out := out) fun x hx => h x (List.mem_cons_of_mem _ hx)
    obtain ⟨a, r, rfl, q, ti⟩ := k u (h u List.mem_cons_self)
    refine ⟨.ref a :: ys, .cons rfl h1, ?_⟩
    rw [List.map_cons, ti.get]
    exact .cons q h2
theorem TupL.ok2 {us : List Value} {rs : List (List Int)} (e : us.map (NLS.tupI s.heap) = rs) (k : ∀ u ∈ us, ∃ (r : List Int), NLS.TI s.heap u r) (o : Ok3 rs) : NLS.Ok2 s.heap us := by
  rcases o with o | o
  · refine .inl fun u hu => ?_
    obtain ⟨r, ti⟩ := k u hu
    have hr : r ∈ rs := by rw [← e]; exact List.mem_map.mpr ⟨u, hu, ti.get⟩
    cases r with
    | nil => exact absurd rfl (o [] hr)
    | cons n ns => exact ⟨n, ns, ti⟩
  · refine .inr ⟨?_, k⟩
    cases us with
    | nil => subst e; cases o
    | cons u r =>
      rw [← e, List.map_cons] at o
      obtain ⟨r1, ti⟩ := k u List.mem_cons_self
      rw [ti.get] at o
      cases o
      exact ⟨u, r, rfl, ti⟩
theorem sorted_rows {out us : List Value} {rs : List (List Int)} {h : Heap} (e : us.map (NLS.tupI h) = rs) (h1 : SrtO.Srtd (NLS.ltT h) out) (h2 : SrtO.Stb (NLS.ltT h) out us) : out.map (NLS.tupI h) = sortL rs := by
  refine arr_uniq ?_ ?_ (sortL_sorted rs)
  · refine (h2.perm.map _).trans ?_
    rw [e]
    exact (sortL_perm rs).symm
  · exact List.pairwise_map.mpr h1
theorem cr_sortL (hu : X.A.units + 2 < cLine) : CallR X (.builtin "sorted") (rSortL X.K) := by
  intro pins s σ H vs us Q I r rd
  obtain ⟨F, l, xs, rs, sub, rfl, hs, ht, ho, q⟩ := rd
  obtain ⟨its, rv, hl, hz⟩ := Inv.list I hs
  rw [Vals.ref1 r]
  obtain ⟨e, k⟩ := ht.ti I sub rv
  have kt : ∀ u ∈ its, ∃ r, NLS.TI s.heap u r := fun u hu => let ⟨a, r, _, _, _, t⟩ := k u hu; ⟨r, t⟩
  refine SrtO.sorted_ord (NLS.swoT s.heap) hl.isList (by rw [← rv.length]; exact hz) (fun h2 h₁ a' ha kk => ?_) fun out h1 h2 => ?_
  · have o2 : NLS.Ok2 s.heap its := TupL.ok2 e kt ho
    have o3 : NLS.Ok2 h₁ its := o2.keep fun b o q _ => (kk b o q).2
    have es : ∀ v ∈ its, NLS.tupI h₁ v = NLS.tupI s.heap v := fun v hv => by
      obtain ⟨r, ti⟩ := kt v hv
      rw [ti.get, (ti.keep fun b o q _ => (kk b o q).2).get]
    have hsrt := NLS.sortable (prog := X.prog) (w := X.w) (A := X.A.in1.in1) (s := { s with heap := h₁ }) h2 (by show X.A.units + 1 + 1 < cLine; omega) o3 fun o e => by
      have e' : some o = some (seqObj "list" its.toArray 0) := e.symm.trans (by exact ha)
      cases e'
      exact fun c => absurd (Value.type.inj c) (by decide)
    intro h' keep
    obtain ⟨κ, p1, p2⟩ := hsrt h' keep
    refine ⟨κ, p1, fun p q hp hq => ?_⟩
    have := p2 p q hp hq
    have eq2 : SrtO.lt2 (NLS.ltT h₁) p q = SrtO.lt2 (NLS.ltT s.heap) p q := by
      show HT.lexLt (NLS.tupI h₁ p.1) (NLS.tupI h₁ q.1) = HT.lexLt (NLS.tupI s.heap p.1) (NLS.tupI s.heap q.1)
      rw [es p.1 hp, es q.1 hq]
    rw [← eq2]
    exact this
  · obtain ⟨ep, he'⟩ := PyProof.Rows.sortedAll_at s.heap its out.toArray
    obtain ⟨ys, v1, t1⟩ := tupL_of (X := X) (F := F) (s := s) (us := its) (fun u hu => let ⟨a, r, e1, _, e3, e4⟩ := k u hu; ⟨a, r, e1, e3, e4⟩) (out := out) fun u hu => h2.perm.mem_iff.mp hu
    rw [sorted_rows e h1 h2] at t1
    have hlen : ys.length ≤ sizeLine := by
      rw [v1.length, h2.perm.length_eq, ← rv.length]; exact hz
    exact ⟨.ref _, upd H (s.heap.objs.size + 1) (.lst ys), I.laid (t' := s.toks) (fun _ _ => PyProof.Rows.sortedAll_old) (Nat.le_succ _) ⟨hlen, out, ep, v1, by simpa using he'⟩, rfl, q _ _ (I.hok.fresh (Nat.le_succ _)) t1⟩
end
end NL
namespace NL
open PySem PySem.Spec PyProof.Rows L2
/-! ### sorted(set(list of tuples of ints)) -/
def rSortS (X : Cx) : List V → Hp → VK → Prop := fun vs H Q => ∃ (F : Hp) (a : Addr) (L : List (Addr × List Int)), (∀ a o, F a = some o → H a = some o) ∧ vs = [V.ref a] ∧ H a = some (SetTO X.prog X.w a L) ∧ (∀ p ∈ L, SqT X.K F p.1 (p.2.map V.int)) ∧ (∀ p ∈ L, p.2 ≠ []) ∧
  ∀ (ys : List V) (p : Addr), TupL X.K F ys (sortLU (L.map (·.2))) → H p = none → Q (.ref p) (upd H p (.lst ys))
section
variable {X : Cx} {A : Around} {E : Value → Shared → Prop} {s : Shared} {P : Program} {w : World}
theorem strict_of {l : List (List Int)} (h : l.Pairwise leL) (hn : l.Nodup) : l.Pairwise fun a b => HT.lexLt a b = true := by
  refine List.Pairwise.imp₂ (fun a b h1 h2 => ?_) h hn
  cases q : HT.lexLt a b with
  | true => rfl
  | false => exact absurd (NLS.lex_tri a b q h1) h2
theorem nl_sorted_set {a : Addr} {L : List (Addr × List Int)} {es : Array (Int × Value)} {ep : Nat} {t : SetTable} {Q : Value → Shared → Prop} (R : SetTR P w s.heap a L es ep t) (hh : A.handled = none) (hu : A.units + 2 < cLine) (hne : ∀ p ∈ L, p.2 ≠ [])
    (hti : ∀ p ∈ L, NLS.TI s.heap (.ref p.1) p.2)
    (hQ : ∀ s' p (out : List Value) (c : Nat), (∀ b o, s.heap.get? b = some o → s'.heap.get? b = some o) → s'.gens = s.gens → s'.os = s.os → s.heap.objs.size ≤ p →
      s'.heap.get? p = some (seqObj "list" out.toArray c) → (∀ v ∈ out, v ∈ L.map fun q => Value.ref q.1) → out.map (NLS.tupI s.heap) = sortLU (L.map (·.2)) → Q (.ref p) s') :
      wpAny (model P w) A (call (Value.builtin "sorted") [.ref a]) Q E s := by
  obtain ⟨o, ho, hex, hdat⟩ := R.ob
  have few := R.size; have lt64 := R.few
  refine Calls.call_function_entry kind_sorted plain_sorted entry_sorted (args_sorted1 _) ?_; unfold PySem.Builtin.«sorted»
  refine wpAny_bind (m := checkCount "sorted" 1 1 _) (wpAny_pure ?_); refine wpAny_bind (collect_set (A := A.in1) hh ⟨o, ho, hex.1, hdat⟩ R.fits (by unfold scanBound; omega) R.tab.ris R.led fun s1 vs k1 hz g1 o1 pm => ?_)
  have hes : es.toList.map (·.2) = L.map fun q => Value.ref q.1 := by rw [R.rows]; show (L.map _).map _ = _; rw [List.map_map]; rfl
  rw [hes] at pm
  have hvl : vs.length < 64 := by rw [pm.length_eq, List.length_map]; exact lt64
  have key : ∀ v ∈ vs, ∃ q ∈ L, v = Value.ref q.1 ∧ NLS.TI s.heap v q.2 := fun v hv => by
    obtain ⟨q, hq, e⟩ := List.mem_map.mp (List.Perm.mem_iff pm |>.mp hv)
    exact ⟨q, hq, e.symm, e ▸ hti q hq⟩
  have rows : (vs.map (NLS.tupI s.heap)).Perm (L.map (·.2)) := by
    refine (pm.map (NLS.tupI s.heap)).trans ?_
    rw [List.map_map]
    have : L.map (NLS.tupI s.heap ∘ fun q => Value.ref q.1) = L.map (·.2) := List.map_congr_left fun q hq => (hti q hq).get
    rw [this]
  have small : vs.length ≤ sizeLine := by rw [sizeLine_eq]; omega
  refine wpAny_bind (wpAny_newList ?_ (by simpa using small))
  have at_l : (s1.heap.push (seqObj "list" vs.toArray 0)).get? s1.heap.objs.size = some (seqObj "list" vs.toArray 0) := Heap.get?_push_size _ rfl
  have kk : ∀ b o, s.heap.get? b = some o → (s1.heap.push (seqObj "list" vs.toArray 0)).get? b = some o := fun b u q => Heap.get?_push_of_some _ (k1 b u q)
  have ok : NLS.Ok2 (s1.heap.push (seqObj "list" vs.toArray 0)) vs := .inl fun v hv => by
    obtain ⟨q, hq, rfl, ti⟩ := key v hv
    have ti := ti.keep fun b o e _ => kk b o e
    cases e : q.2 with
    | nil => exact absurd e (hne q hq)
    | cons n ns => exact ⟨n, ns, e ▸ ti⟩
  refine wpAny_bind (wpAny_holding (wpAny_call_entry slot_list_sort ⟨_, at_l, rfl⟩ entry_list_sort (SrtO.list_sort_ord (s := { s1 with heap := s1.heap.push (seqObj "list" vs.toArray 0) }) (NLS.swoT (s1.heap.push (seqObj "list" vs.toArray 0))) at_l small (fun h2 => NLS.sortable h2 (by show A.units + 1 + 1 < cLine; omega) ok fun o e => ?_) fun out h1 h2 => ⟨_, rfl, ?_⟩) (args_list_sort _)))
  · have e' := e.symm.trans at_l
    cases e'
    exact fun c => absurd (Value.type.inj c) (by decide)
  · obtain ⟨c, hc⟩ := sortedHeap_at (vs := vs) (out := out.toArray) at_l
    have same : ∀ v ∈ vs, NLS.tupI (s1.heap.push (seqObj "list" vs.toArray 0)) v = NLS.tupI s.heap v := fun v hv => by
      obtain ⟨q, hq, rfl, ti⟩ := key v hv
      rw [ti.get, (ti.keep fun b o e _ => kk b o e).get]
    have om : ∀ v ∈ out, v ∈ vs := fun v hv => h2.perm.mem_iff.mp hv
    have eo : out.map (NLS.tupI (s1.heap.push (seqObj "list" vs.toArray 0))) = out.map (NLS.tupI s.heap) := List.map_congr_left fun v hv => same v (om v hv)
    have srt : (out.map (NLS.tupI s.heap)).Pairwise leL := by rw [← eo]; exact List.pairwise_map.mpr h1
    have pr : (out.map (NLS.tupI s.heap)).Perm (L.map (·.2)) := (h2.perm.map _).trans rows
    have fin : out.map (NLS.tupI s.heap) = sortLU (L.map (·.2)) :=
      strict_uniq (fun z => by rw [pr.mem_iff, mem_sortLU]) (strict_of srt (pr.nodup_iff.mpr R.nd)) (sortLU_sorted _)
    refine wpAny_pure ⟨_, rfl, hQ _ s1.heap.objs.size out c (fun b u e => ?_) g1 o1 hz hc (fun v hv => pm.mem_iff.mp (om v hv)) fin⟩
    have q := k1 b u e
    have hb := Heap.lt_size q
    rw [sortedHeap_old (Nat.ne_of_lt hb) (by rw [size_push']; exact Nat.lt_succ_of_lt hb)]; exact Heap.get?_push_of_some _ q
theorem cr_sortS (hc : X.calm = true) (hu : X.A.units + 2 < cLine) : CallR X (.builtin "sorted") (rSortS X) := by
  intro pins s σ H vs us Q I r rd
  obtain ⟨F, a, L, sub, rfl, ha, hkF, hne, q⟩ := rd
  have hk : ∀ p ∈ L, SqT X.K H p.1 (p.2.map V.int) := fun p hp => SqT.mono (hkF p hp) sub
  obtain ⟨es, ep, t, R⟩ := (show SetT0 X.prog X.w s.heap a L from (I.hok a _ ha).1).full fun p hp => I.isT (hk p hp)
  rw [Vals.ref1 r]
  have hti : ∀ p ∈ L, NLS.TI s.heap (.ref p.1) p.2 := fun p hp => by
    obtain ⟨its, rv, pl, _⟩ := I.tuple (hk p hp)
    exact ⟨_, _, rfl, pl, by simpa using rv.ints⟩
  refine nl_sorted_set R (I.ok.hd hc) hu hne hti fun s' p out c k g o hp hg hm fin => ?_
  obtain ⟨ys, v1, t1⟩ := tupL_of (X := X) (F := F) (s := s) (us := L.map fun q => Value.ref q.1) (fun u hu => by
    obtain ⟨q, hq, rfl⟩ := List.mem_map.mp hu
    exact ⟨q.1, q.2, rfl, hkF q hq, hti q hq⟩) (out := out) hm
  rw [fin] at t1
  have free : H p = none := I.hok.fresh hp
  have hlen : ys.length ≤ sizeLine := by
    have h1 : out.length = (sortLU (L.map (·.2))).length := by rw [← fin, List.length_map]
    have h2 : (sortLU (L.map (·.2))).length ≤ L.length := by
      have : ∀ l : List (List Int), (sortLU l).length ≤ l.length := by
        have ins : ∀ (x : List Int) (l : List (List Int)), (insLU x l).length ≤ l.length + 1 := by
          intro x l
          induction l with
          | nil => simp [insLU]
          | cons y l ih => unfold insLU; split <;> (try split) <;> simp <;> omega
        intro l
        induction l with
        | nil => simp [sortLU]
        | cons x l ih =>
          have := ins x (sortLU l)
          show (insLU x (sortLU l)).length ≤ _
          simp; omega
      exact Nat.le_trans (this _) (by simp)
    have := R.few
    rw [v1.length, h1, sizeLine_eq]; omega
  have J : Inv X pins σ (upd H p (.lst ys)) { s with heap := s'.heap, gens := s'.gens, drawn := s'.drawn, toks := s'.toks } :=
    I.call (ch := []) (Un.laid k hp free) (I.hok.laid k hp ⟨hlen, out, c, v1, hg⟩) (by rw [g]; exact I.bare) (fun _ z => nomatch z)
  rw [show s' = { s with heap := s'.heap, gens := s'.gens, drawn := s'.drawn, toks := s'.toks } by cases s'; cases s; cases o; rfl]
  exact ⟨.ref p, _, J, rfl, q ys p t1 free⟩
end
/-! ### the same as data -/
def rowT (r : List Int) : Da := .tup (r.map Da.int)
def rowOf : Da → Option (List Int)
  | .tup l => intsOf l
  | _ => none
def rowsD : List Da → Option (List (List Int))
  | [] => some []
  | d :: l => match rowOf d, rowsD l with
    | some r, some rs => some (r :: rs)
    | _, _ => none
theorem rowOf_eq {d : Da} {r : List Int} (h : rowOf d = some r) : d = rowT r := by
  cases d with
  | tup l => exact congrArg Da.tup (intsOf_eq h)
  | _ => cases h
theorem rowsD_eq : ∀ {l : List Da} {rs : List (List Int)}, rowsD l = some rs → l = rs.map rowT
  | [], rs, h => by cases h; rfl
  | d :: l, rs, h => by
    unfold rowsD at h
    cases e : rowOf d with
    | none => rw [e] at h; exact nomatch h
    | some r =>
      cases e2 : rowsD l with
      | none => rw [e, e2] at h; cases h
      | some rs' =>
        rw [e, e2] at h; cases h
        rw [rowOf_eq e, rowsD_eq e2]; rfl
section
variable {G : Gc} {W : Wd}
theorem reps_tupL : ∀ {rs : List (List Int)} {vs : List V}, Reps G W (rs.map rowT) vs → TupL G.K W.F vs rs
  | [], vs, h => by rw [h.inv_nil]; exact .nil
  | r :: rs, vs, h => by
    obtain ⟨v, t, rfl, h1, h2⟩ := h.inv_cons
    obtain ⟨a, us, rfl, q1, q2⟩ := h1.tup_inv
    rw [q2.ints] at q1
    exact .cons q1 (reps_tupL h2)
theorem tupL_reps : ∀ {rs : List (List Int)} {vs : List V}, TupL G.K W.F vs rs → Reps G W (rs.map rowT) vs
  | _, _, .nil => .nil
  | _, _, .cons (a := a) (r := r) h t => by
    refine .cons ?_ (tupL_reps t)
    rw [rowT, Rep]
    exact ⟨a, _, rfl, h, reps_ints r⟩
end
section
variable {X : Cx} {G : Gc} {Wx : WX} {e : Expr} {m : M Da} {pos p p2 pos2 : Pos}
/-- sorted(list of tuples of ints) -/
def slF (m : M Da) : M (List Da) := fun ρ S => (m ρ S).bind fun d S1 => match tryL S1 d with
  | some l => match rowsD l with
    | some rs => if Ok3 rs then .ok ((sortL rs).map rowT) S1 else .bad
    | none => .bad
  | none => .bad
theorem pdf_sortL (hu : X.A.units + 64 < cLine) (hm : X.mg "sorted" = none) (he : PE X e (tM G Wx m)) (hK : G.K = X.K := by rfl) (hg : Gl X "sorted" := by rfl) (na : starEach [e] X.env = (false, eval e X.env) :: starEach [] X.env := by rfl) :
    PE X (.Call (.Name "sorted" p) [e] [] pos) (tF G Wx (slF m)) :=
  (pe_callB (cr_sortL (by omega)) hg hm (by decide +kernel) (pa_cons he pa_nil na) (by decide) (by decide) na (by rfl)).imp fun σ H Q ⟨W, S, ρ, s, r, q⟩ => ⟨W, S, ρ, s, r, AftF.bind q fun d S1 v W1 H1 x1 s1 q1 k1 => by
    cases e1 : tryL S1 d with
    | none => rw [e1] at k1; exact k1.elim
    | some l =>
      rw [e1] at k1
      dsimp only at k1
      cases e2 : rowsD l with
      | none => rw [e2] at k1; exact k1.elim
      | some rs =>
        rw [e2] at k1
        dsimp only at k1
        by_cases h3 : Ok3 rs
        · rw [if_pos h3] at k1
          obtain ⟨a, vs, rfl, h1, h2⟩ := s1.tryL q1 e1
          rw [rowsD_eq e2] at h2
          have tl := reps_tupL h2
          rw [hK] at tl
          exact ⟨W1.F, a, vs, rs, s1.sub, rfl, .of h1, tl, h3, fun p ys hp ht => k1.new s1 (tupL_reps (by rw [hK]; exact ht)) hp⟩
        · rw [if_neg h3] at k1; exact k1.elim⟩
/-- sorted(set(list of tuples of ints)) -/
def ssTF (m : M Da) : M (List Da) := fun ρ S => (m ρ S).bind fun d S1 => match tryL S1 d with
  | some l => match rowsD l with
    | some rs => if rs.length < 64 ∧ [] ∉ rs then .ok ((sortLU rs).map rowT) S1 else .bad
    | none => .bad
  | none => .bad
theorem tupL_pairs {K : PySem.W.Frag} {F : Hp} : ∀ {vs : List V} {rs : List (List Int)}, TupL K F vs rs → ∃ ks : List (Addr × List Int), vs = ks.map (fun p => V.ref p.1) ∧ rs = ks.map (·.2) ∧ ∀ p ∈ ks, SqT K F p.1 (p.2.map V.int)
  | _, _, .nil => ⟨[], rfl, rfl, fun p hp => by cases hp⟩
  | _, _, .cons (a := a) (r := r) h t => by
    obtain ⟨ks, h1, h2, h3⟩ := tupL_pairs t
    refine ⟨(a, r) :: ks, by rw [h1]; rfl, by rw [h2]; rfl, fun p hp => ?_⟩
    rcases List.mem_cons.1 hp with z | z
    · rw [z]; exact h
    · exact h3 p z
theorem sortLU_same {l m : List (List Int)} (h : ∀ z, z ∈ l ↔ z ∈ m) : sortLU l = sortLU m := strict_uniq (fun z => by rw [mem_sortLU, mem_sortLU, h]) (sortLU_sorted l) (sortLU_sorted m)
theorem pdf_sortSet (hu : X.A.units + 64 < cLine) (hm : X.mg "sorted" = none) (hm2 : X.mg "set" = none) (he : PE X e (tM G Wx m)) (hc : X.calm = true := by rfl) (hK : G.K = X.K := by rfl) (hg : Gl X "sorted" := by rfl) (hg2 : Gl X "set" := by rfl)
    (na : starEach [e] X.env = (false, eval e X.env) :: starEach [] X.env := by rfl) (nb : starEach [Expr.Call (.Name "set" p2) [e] [] pos2] X.env = (false, eval (Expr.Call (.Name "set" p2) [e] [] pos2) X.env) :: starEach [] X.env := by rfl) :
    PE X (.Call (.Name "sorted" p) [.Call (.Name "set" p2) [e] [] pos2] [] pos) (tF G Wx (ssTF m)) :=
  (pe_callB (cr_sortS hc (by omega)) hg hm (by decide +kernel) (pa_cons (pe_callTy (cr_setOfT hc hu) hg2 hm2 (by decide +kernel) (pa_cons he pa_nil na) (by decide) (by decide) na (by rfl)) pa_nil nb) (by decide) (by decide) nb (by rfl)).imp fun σ H Q ⟨W, S, ρ, s, r, q⟩ => ⟨W, S, ρ, s, r, AftF.bind q fun d S1 v W1 H1 x1 s1 q1 k1 => by
    cases e1 : tryL S1 d with
    | none => rw [e1] at k1; exact k1.elim
    | some l =>
      rw [e1] at k1
      dsimp only at k1
      cases e2 : rowsD l with
      | none => rw [e2] at k1; exact k1.elim
      | some rs =>
        rw [e2] at k1
        dsimp only at k1
        by_cases h3 : rs.length < 64 ∧ [] ∉ rs
        · rw [if_pos h3] at k1
          obtain ⟨a, vs, rfl, h1, h2⟩ := s1.tryL q1 e1
          rw [rowsD_eq e2] at h2
          have tl := reps_tupL h2
          rw [hK] at tl
          obtain ⟨ks, ev, er, hk⟩ := tupL_pairs tl
          subst ev er
          refine ⟨a, ks, rfl, .of h1, fun p hp => SqT.mono (hk p hp) s1.sub, by simpa using h3.1, fun b L hb sub all => ?_⟩
          obtain ⟨x2, s2⟩ := Ext.add s1 (o := SetTO X.prog X.w b L) hb
          have same : sortLU (L.map (·.2)) = sortLU (ks.map (·.2)) := sortLU_same fun z => by
            constructor
            · intro hz
              obtain ⟨p, hp, rfl⟩ := List.mem_map.mp hz
              exact List.mem_map.mpr ⟨p, sub p hp, rfl⟩
            · intro hz
              obtain ⟨p, hp, rfl⟩ := List.mem_map.mp hz
              exact all p hp
          refine ⟨W1.F, b, L, fun c o h => by rw [upd_ne (ne_of_none (s1.sub c o h) hb)]; exact s1.sub c o h, rfl, upd_same, fun p hp => hk p (sub p hp), fun p hp z => h3.2 (List.mem_map.mpr ⟨p, sub p hp, z⟩), fun ys p ht hp2 => ?_⟩
          rw [same] at ht
          exact (k1.later x2).new s2 (tupL_reps (by rw [hK]; exact ht)) hp2
        · rw [if_neg h3] at k1; exact k1.elim⟩
end
end NL

set_option Elab.async false
set_option linter.all false
set_option autoImplicit false
set_option maxRecDepth 100000
set_option maxHeartbeats 4100000
namespace NL
open PySem PySem.Spec PyProof.Rows L2
/-! ### try with several clauses, each with a name or without -/
/-- an end, with the slot i wiped where there is one -/
def wipeE (o : Option Nat) (D : Ends) : Ends := match o with
  | none => D
  | some i => { nx := fun σ' H' => D.nx (σ'.set i none) H', rt := D.rt, bk := fun σ' H' => D.bk (σ'.set i none) H', ct := fun σ' H' => D.ct (σ'.set i none) H' }
def heldE (o : Option Nat) (a : Addr) (σ : L2.St) : L2.St := match o with
  | none => σ
  | some i => σ.set i (some (.ref a))
abbrev Cl := Value × Option Nat × (Addr → Value → Option Addr → TS)
def wCl (K : PySem.W.Frag) (Wout : WX) (D : Ends) : List Cl → WX
  | [] => Wout
  | (c, o, ts) :: r => fun cls d σ H => ∃ b, PySem.W.exmOne K cls c = some b ∧ (b = true → ∀ a, H a = none → ts a cls d (wipeE o D) (heldE o a σ) H) ∧ (b = false → wCl K Wout D r cls d σ H)
inductive ClOk (X : Cx) : List ExceptHandler → List Cl → Prop where
  | nil : ClOk X [] []
  | bare {x : Str} {c : Value} {ts : Addr → Value → Option Addr → TS} {b₀ : Stmt} {su : List Stmt} {np pq : Pos} {hds : List ExceptHandler} {l : List Cl} (hc : Names X x c)
      (h : ∀ (a : Addr) (oe : Obj) (cls : Value) (d : Option Addr) (pn : List (Addr × Obj)), Zc cls d oe → (∃ vs, oe.data = .fields vs) → PSs (X.suite a ((a, oe) :: pn)) (b₀ :: su) (ts a cls d)) (r : ClOk X hds l) :
      ClOk X (.ExceptHandler (some (.Name x np)) none (b₀ :: su) pq :: hds) ((c, none, ts) :: l)
  | held {x n : Str} {i : Nat} {c : Value} {ts : Addr → Value → Option Addr → TS} {b₀ : Stmt} {su : List Stmt} {np pq : Pos} {hds : List ExceptHandler} {l : List Cl} (hi : X.N[i]? = some n) (hln : X.env.kindOf n = some .local) (hc : Names X x c)
      (h : ∀ (a : Addr) (oe : Obj) (cls : Value) (d : Option Addr) (pn : List (Addr × Obj)), Zc cls d oe → (∃ vs, oe.data = .fields vs) → PSs (X.suite a ((a, oe) :: pn)) (b₀ :: su) (ts a cls d)) (r : ClOk X hds l) :
      ClOk X (.ExceptHandler (some (.Name x np)) (some n) (b₀ :: su) pq :: hds) ((c, some i, ts) :: l)
section
variable {X : Cx} {body : List Stmt} {h₀ : ExceptHandler} {hds : List ExceptHandler} {l : List Cl} {pos : Pos} {tb : WX → TS} {Wout : WX}
theorem ps_clauses (hs : X.stack = X.env :: X.outer) (hf : X.env.frame = some X.env.locals) (hN : X.N.Nodup) (tk : Takes X Wout)
    (hb : ∀ (W : WX) (pn : List (Addr × Obj)) (xe : Value → Shared → Prop), Takes (X.tr pn xe) W → PassesOwn (model X.prog X.w) X.A X.env xe → PSs (X.tr pn xe) body (tb W))
    (hh : ClOk X (h₀ :: hds) l) : PS X (.Try body (h₀ :: hds) [] [] pos) (fun D σ H => tb (wCl X.K Wout D l) D σ H) := by
  refine ⟨fun pins s σ H D I rd => ?_⟩
  have okX := I.ok
  have frX : X.A.frames = some (X.env :: X.outer) := by rw [okX.frames, hs]
  refine wpAny_Try_except (wpAny_mono ((hb (wCl X.K Wout D l) (X.pn ++ pins) (fun e t1 => wpAny (model X.prog X.w) X.A (noteFrame e X.env) (fun _ t2 => wpAny (model X.prog X.w) X.A (setFlight e none) (fun _ t3 => wpAny (model X.prog X.w) X.A (handleBy e X.env (h₀ :: hds)) (SP X pins D) X.xe t3) X.xe t2) X.xe t1) (fun u z up0 => ?_) PassesOwn.looking).run [] s σ H D (I.toTry _) rd) (fun f s1 hsp => ?_) (fun e s1 he => he))
  · -- an exception has left the body
    obtain ⟨a, B, t0, pins', σ', H', cls, d, rfl, J', nb, up, sky, na, os, ag, w⟩ := up0
    have J : Inv X pins σ' H' t0 := J'.ofTry okX
    have skyX : Sky B (X.env :: X.outer) a (Zc cls d) X.env.locals z.heap := by rw [← hs]; exact sky
    show wpAny (model X.prog X.w) X.A (noteFrame (Value.ref a) X.env) _ _ _; refine Sky.land Zc.steady frX hf skyX fun g3 in3 up3 => ?_
    have J3 : Inv X pins σ' H' { z with heap := g3 } := J.landed nb in3.1 (up.trans up3) os ag
    obtain ⟨o3, v3, e3, z3, d3⟩ := in3.there
    have far : a ∉ frs (X.env :: X.outer) := fun hm => by obtain ⟨_, o', e', nf⟩ := in3.2.2.1.mem hm; rw [e3] at e'; cases e'; exact nf _ d3
    have nL : a ≠ X.env.locals := fun q => far (List.mem_filterMap.mpr ⟨X.env, List.mem_cons_self, by rw [hf, q]⟩)
    have nF : a ∉ X.fs := fun hm => by obtain ⟨e, he, q⟩ := List.mem_filterMap.mp hm; exact far (List.mem_filterMap.mpr ⟨e, List.mem_cons_of_mem _ he, q⟩)
    have S3 := J3.suite e3 d3 na nL nF
    have LT : PySem.W.Looks (model X.prog X.w) g3 (typeOf (.ref a)) cls := fun A Q E s k q => wpAny_typeOf_ref (k _ _ e3) (by rw [z3.1]; exact q)
    have ask : ∀ {x : Str} {np : Pos} {c : Value}, Names X x c → ∀ {Q : Value → Shared → Prop} {E : Value → Shared → Prop}, Q c { z with heap := g3 } → wpAny (model X.prog X.w) (X.A.mark (some (.ref a))) (eval (.Name x np) X.env) Q E { z with heap := g3 } := fun {x np c} hc {Q E} q => by
      obtain ⟨hg, hdb, hm | ⟨hm, hv, hnn⟩⟩ := hc
      · exact ld_glob (X := X.suite a ((a, o3) :: (X.pn ++ pins))) S3 hg hm q hdb
      · exact ld_blt (X := X.suite a ((a, o3) :: (X.pn ++ pins))) S3 hg hm hv q hnn hdb
    have all : ∀ {hd2 : List ExceptHandler} {l2 : List Cl}, ClOk X hd2 l2 → wCl X.K Wout D l2 cls d σ' H' → wpAny (model X.prog X.w) X.A (handleBy (.ref a) X.env hd2) (SP X pins D) X.xe { z with heap := g3 } := by
      intro hd2 l2 hk
      induction hk with
      | nil =>
        intro wn
        refine wpAny_handleBy_nil ?_
        obtain ⟨_, _, _, oe, vs, T, oT, ts', he, hz, hd, hT, _⟩ := id in3
        unfold PySem.passOn; refine wpAny_bind (wpAny_field he hd hT ?_)
        rw [if_neg (show ¬ ((Value.ref T == Value.none) = true) by simp)]
        have last : wpAny (model X.prog X.w) X.A (setFlight (.ref a) X.env.frame) (fun _ t4 => wpAny (model X.prog X.w) X.A (throw (.ref a) : Sem Flow) (SP X pins D) X.xe t4) X.xe { z with heap := g3 } := by
          rw [hf]; exact HandSPX.setFlight_upZ in3 fun g4 in4 up4 => wpAny_throw (tk _ _ ⟨a, B, t0, pins, σ', H', cls, d, rfl, J, nb, (up.trans up3).trans up4, .inr (.inr (by rw [hs]; exact in4)), na, os, ag, wn⟩)
        first
          | exact wpAny_bind (wpAny_pure (wpAny_bind last))
          | exact wpAny_bind last
      | @bare x c ts b₀ su np pq hd3 l3 hc h r ih =>
        intro wn
        obtain ⟨b, hb1, yes, no⟩ := wn
        have LM := PySem.W.exm_one (M := model X.prog X.w) J3.kIn LT hb1
        refine wpAny_handleBy_cons (codeAny_handlers_test (ask hc (LM.here ?_))) (by intro q; cases q)
        cases b with
        | false => exact ih (no rfl)
        | true =>
          refine codeAny_handlers_suite (HandSPX.lands_againZ in3 fun g4 in4 up4 => ?_)
          have J4 : Inv X pins σ' H' { z with heap := g4 } := J.landed nb in4.1 ((up.trans up3).trans up4) os ag
          obtain ⟨o4, v4, e4, z4, d4⟩ := in4.there
          have S4 := J4.suite e4 d4 na nL nF
          refine wpAny_mono ((h a o4 cls d (X.pn ++ pins) z4 ⟨_, d4⟩).run [] _ _ H' _ S4 (yes rfl a na)) (fun f t6 hp => ?_) (fun _ _ z => False.elim z)
          cases f with
          | next => obtain ⟨σ6, H6, S6, q6⟩ := hp; exact ⟨_, _, S6.unsuite okX, q6⟩
          | brk => obtain ⟨σ6, H6, S6, q6⟩ := hp; exact ⟨_, _, S6.unsuite okX, q6⟩
          | cont => obtain ⟨σ6, H6, S6, q6⟩ := hp; exact ⟨_, _, S6.unsuite okX, q6⟩
          | ret u => obtain ⟨v6, σ6, H6, S6, r6, q6⟩ := hp; exact ⟨_, _, _, S6.unsuite okX, r6, q6⟩
      | @held x n i c ts b₀ su np pq hd3 l3 hi hln hc h r ih =>
        intro wn
        obtain ⟨b, hb1, yes, no⟩ := wn
        have LM := PySem.W.exm_one (M := model X.prog X.w) J3.kIn LT hb1
        refine wpAny_handleBy_cons (codeAny_handlers_test (ask hc (LM.here ?_))) (by intro q; cases q)
        cases b with
        | false => exact ih (no rfl)
        | true =>
          refine codeAny_handlers_suite_as (HandSPX.lands_againZ in3 fun g4 in4 up4 => ?_)
          have J4 : Inv X pins σ' H' { z with heap := g4 } := J.landed nb in4.1 ((up.trans up3).trans up4) os ag
          obtain ⟨o4, v4, e4, z4, d4⟩ := in4.there
          have S4 := J4.suite e4 d4 na nL nF
          refine store_ok (X := X.suite a ((a, o4) :: (X.pn ++ pins))) (v := .ref a) S4 hN hi (.inl hln) rfl (fun t5 S5 => ?_) (.inr hln)
          refine wpAny_mono ((h a o4 cls d (X.pn ++ pins) z4 ⟨_, d4⟩).run [] t5 _ H' _ S5 (yes rfl a na)) (fun f t6 hp => ?_) (fun _ _ z => False.elim z)
          have gone : ∀ {σ6 : L2.St} {H6 : Hp} {Q : Shared → Prop}, Inv (X.suite a ((a, o4) :: (X.pn ++ pins))) [] σ6 H6 t6 → (∀ t7, Inv X pins (σ6.set i none) H6 t7 → Q t7) →
              wpAny (model X.prog X.w) X.A (do bindName X.env n .none; unbindBehindTheSuite X.env n pq) (fun _ t7 => Q t7) X.xe t6 := fun {σ6 H6 Q} S6 hq => gone_ok (S6.unsuite okX) hN hi hln hq
          cases f with
          | next => obtain ⟨σ6, H6, S6, q6⟩ := hp; exact gone S6 fun t7 J7 => ⟨_, _, J7, q6⟩
          | brk => obtain ⟨σ6, H6, S6, q6⟩ := hp; exact gone S6 fun t7 J7 => ⟨_, _, J7, q6⟩
          | cont => obtain ⟨σ6, H6, S6, q6⟩ := hp; exact gone S6 fun t7 J7 => ⟨_, _, J7, q6⟩
          | ret u => obtain ⟨v6, σ6, H6, S6, r6, q6⟩ := hp; exact gone S6 fun t7 J7 => ⟨_, _, _, J7, r6, q6⟩
    exact all hh w
  · cases f with
    | next => obtain ⟨σ', H', J', q⟩ := hsp; exact wpAny_execs_nil ⟨σ', H', J'.ofTry okX, q⟩
    | brk => obtain ⟨σ', H', J', q⟩ := hsp; exact ⟨σ', H', J'.ofTry okX, q⟩
    | cont => obtain ⟨σ', H', J', q⟩ := hsp; exact ⟨σ', H', J'.ofTry okX, q⟩
    | ret u => obtain ⟨v, σ', H', J', r, q⟩ := hsp; exact ⟨v, σ', H', J'.ofTry okX, r, q⟩
end
/-! the same as data -/
def noExc : RS → RS
  | .exc _ _ _ _ => .bad
  | r => r
def clS : List ((Str → Option Bool) × Option Nat × Hd) → Str → Da → MS
  | [], c, d, ρ, S => .exc c d ρ S
  | (mat, o, g) :: r, c, d, ρ, S => match mat c with
    | some true => (match o with
      | none => noExc (g 0 none c ρ S)
      | some i => wipeRS i (g 0 none c (ρ.set i (some (.exc 0 none c d))) S))
    | some false => clS r c d ρ S
    | none => .bad
def trysS (cl : List ((Str → Option Bool) × Option Nat × Hd)) (f : MS) : MS := fun ρ S => match f ρ S with
  | .exc c d ρ1 S1 => clS cl c d ρ1 S1
  | .nx ρ S => .nx ρ S
  | .bk ρ S => .bk ρ S
  | .ct ρ S => .ct ρ S
  | .rt d S => .rt d S
  | .bad => .bad
inductive DCl (X : Cx) (G : Gc) : List ExceptHandler → List ((Str → Option Bool) × Option Nat × Hd) → Prop where
  | nil : DCl X G [] []
  | bare {x C : Str} {mat : Str → Option Bool} {g : Hd} {b₀ : Stmt} {su : List Stmt} {np pq : Pos} {hds : List ExceptHandler} {l : List ((Str → Option Bool) × Option Nat × Hd)} (hc : Names X x (.ref (G.cls C)))
      (hm : ∀ c b, mat c = some b → PySem.W.exmOne X.K (.ref (G.cls c)) (.ref (G.cls C)) = some b)
      (hsu : ∀ (a : Addr) (oe : Obj) (c : Str) (dx : Option Addr) (pn : List (Addr × Obj)), mat c = some true → Zc (.ref (G.cls c)) dx oe → (∃ vs, oe.data = .fields vs) → PSs (X.suite a ((a, oe) :: pn)) (b₀ :: su) (tS G WN (g a dx c)))
      (hind : ∀ (a : Addr) (dx : Option Addr) (c : Str) (ρ : En) (S : Store), g a dx c ρ S = g 0 none c ρ S) (r : DCl X G hds l) :
      DCl X G (.ExceptHandler (some (.Name x np)) none (b₀ :: su) pq :: hds) ((mat, none, g) :: l)
  | held {x n C : Str} {i : Nat} {mat : Str → Option Bool} {g : Hd} {b₀ : Stmt} {su : List Stmt} {np pq : Pos} {hds : List ExceptHandler} {l : List ((Str → Option Bool) × Option Nat × Hd)} (hi : X.N[i]? = some n) (hln : X.env.kindOf n = some .local) (hc : Names X x (.ref (G.cls C)))
      (hm : ∀ c b, mat c = some b → PySem.W.exmOne X.K (.ref (G.cls c)) (.ref (G.cls C)) = some b)
      (hsu : ∀ (a : Addr) (oe : Obj) (c : Str) (dx : Option Addr) (pn : List (Addr × Obj)), mat c = some true → Zc (.ref (G.cls c)) dx oe → (∃ vs, oe.data = .fields vs) → PSs (X.suite a ((a, oe) :: pn)) (b₀ :: su) (tS G WN (g a dx c)))
      (hind : ∀ (a : Addr) (dx : Option Addr) (c : Str) (d : Da) (ρ : En) (S : Store), wipeRS i (g a dx c (ρ.set i (some (.exc a dx c d))) S) = wipeRS i (g 0 none c (ρ.set i (some (.exc 0 none c d))) S)) (r : DCl X G hds l) :
      DCl X G (.ExceptHandler (some (.Name x np)) (some n) (b₀ :: su) pq :: hds) ((mat, some i, g) :: l)
section
variable {X : Cx} {G : Gc} {Wx : WX} {body : List Stmt} {h₀ : ExceptHandler} {hds : List ExceptHandler} {pos : Pos} {f : MS}
theorem AftS.noExc {W : Wd} {H : Hp} {r : RS} {D : Ends} (h : AftS G Wx W H (NL.noExc r) D) : AftS G WN W H r D := by
  cases r with
  | exc c d ρ S => exact h.elim
  | _ => exact h
theorem dcl_ok {cl : List ((Str → Option Bool) × Option Nat × Hd)} (k : DCl X G hds cl) : ∃ l, ClOk X hds l ∧ ∀ (D : Ends) (W : Wd) (H : Hp) (S : Store) (ρ : En) (σ : L2.St) (c : Str) (d : Da) (cls : Value) (dx : Option Addr),
    SR G W H S → RepE G W σ ρ → XRep G W c d cls dx → AftS G Wx W H (clS cl c d ρ S) D → wCl X.K Wx D l cls dx σ H := by
  induction k with
  | nil => exact ⟨[], .nil, fun D W H S ρ σ c d cls dx s r xr q => q cls dx σ W H (.refl _ _) s r xr⟩
  | @bare x C mat g b₀ su np pq hds l hc hm hsu hind _ ih =>
    obtain ⟨l2, h1, h2⟩ := ih
    refine ⟨_ :: l2, .bare (ts := fun a cls dx D σ H => ∃ c : Str, (mat c = some true ∧ cls = .ref (G.cls c)) ∧ tS G WN (g a dx c) D σ H) hc (fun a oe cls dx pn hz hfl => PSs.ex fun c => PSs.and fun ⟨e1, e2⟩ => by
      subst e2
      exact hsu a oe c dx pn e1 hz hfl) h1, fun D W H S ρ σ c d cls dx s r xr q => ?_⟩
    unfold clS at q
    cases em : mat c with
    | none => rw [em] at q; exact q.elim
    | some b =>
      rw [em] at q
      obtain ⟨rfl, u, xd, rd⟩ := xr
      refine ⟨b, hm c b em, fun eb a ha => ?_, fun eb => ?_⟩
      · subst eb
        refine ⟨c, ⟨em, rfl⟩, W, S, ρ, s, r, AftS.noExc (Wx := Wx) ?_⟩
        rw [hind]
        exact q
      · subst eb
        exact h2 D W H S ρ σ c d _ dx s r ⟨rfl, u, xd, rd⟩ q
  | @held x n C i mat g b₀ su np pq hds l hi hln hc hm hsu hind _ ih =>
    obtain ⟨l2, h1, h2⟩ := ih
    refine ⟨_ :: l2, .held (i := i) (ts := fun a cls dx D σ H => ∃ c : Str, (mat c = some true ∧ cls = .ref (G.cls c)) ∧ tS G WN (g a dx c) D σ H) hi hln hc (fun a oe cls dx pn hz hfl => PSs.ex fun c => PSs.and fun ⟨e1, e2⟩ => by
      subst e2
      exact hsu a oe c dx pn e1 hz hfl) h1, fun D W H S ρ σ c d cls dx s r xr q => ?_⟩
    unfold clS at q
    cases em : mat c with
    | none => rw [em] at q; exact q.elim
    | some b =>
      rw [em] at q
      obtain ⟨rfl, u, xd, rd⟩ := xr
      refine ⟨b, hm c b em, fun eb a ha => ?_, fun eb => ?_⟩
      · subst eb
        refine ⟨c, ⟨em, rfl⟩, W, S, ρ.set i (some (.exc a dx c d)), s, r.set (by rw [Rep]; exact ⟨rfl, u, xd, rd⟩), ?_⟩
        refine AftS.wipe (Wx := Wx) ?_
        rw [hind]
        exact q
      · subst eb
        exact h2 D W H S ρ σ c d _ dx s r ⟨rfl, u, xd, rd⟩ q
theorem psd_trys {cl : List ((Str → Option Bool) × Option Nat × Hd)} (hN : X.N.Nodup) (tk : Takes X Wx) (k : DCl X G (h₀ :: hds) cl)
    (hb : ∀ (W : WX) (pn : List (Addr × Obj)) (xe : Value → Shared → Prop), Takes (X.tr pn xe) W → PassesOwn (model X.prog X.w) X.A X.env xe → PSs (X.tr pn xe) body (tS G W f))
    (hs : X.stack = X.env :: X.outer := by rfl) (hf : X.env.frame = some X.env.locals := by rfl) : PS X (.Try body (h₀ :: hds) [] [] pos) (tS G Wx (trysS cl f)) := by
  obtain ⟨l, h1, h2⟩ := dcl_ok (Wx := Wx) k
  refine (ps_clauses (tb := fun W => tS G W f) hs hf hN tk hb h1).imp ?_
  rintro D σ H ⟨W, S, ρ, s, r, q⟩
  refine ⟨W, S, ρ, s, r, ?_⟩
  unfold trysS at q
  revert q
  cases f ρ S with
  | nx ρ1 S1 => exact fun q => q
  | rt d S1 => exact fun q => q
  | bk ρ1 S1 => exact fun q => q
  | ct ρ1 S1 => exact fun q => q
  | bad => exact fun q => q
  | exc c d ρ1 S1 =>
    intro q cls dx σ1 W1 H1 x1 s1 r1 xr
    exact h2 D W1 H1 S1 ρ1 σ1 c d cls dx s1 r1 xr (q.later x1)
end
end NL

set_option Elab.async false
set_option linter.all false
set_option autoImplicit false
set_option maxRecDepth 100000
set_option maxHeartbeats 4100000
namespace NL
open PySem PySem.Spec PyProof.Rows L2
/-! ### texts: split, join, index, in, str(int) -/
def strsOf : List Da → Option (List Str)
  | [] => some []
  | .str x :: l => (strsOf l).map (x :: ·)
  | _ :: _ => none
theorem strsOf_eq : ∀ {l : List Da} {ys : List Str}, strsOf l = some ys → l = ys.map Da.str
  | [], ys, h => by cases h; rfl
  | .str x :: l, ys, h => by
    unfold strsOf at h
    obtain ⟨zs, e, rfl⟩ := Option.map_eq_some_iff.mp h
    rw [strsOf_eq e]; rfl
  | .non :: _, _, h => nomatch h
  | .bl _ :: _, _, h => nomatch h
  | .int _ :: _, _, h => nomatch h
  | .tup _ :: _, _, h => nomatch h
  | .lst _ :: _, _, h => nomatch h
  | .cell _ :: _, _, h => nomatch h
  | .exc _ _ _ _ :: _, _, h => nomatch h
  | .src _ :: _, _, h => nomatch h
section
variable {G : Gc} {W : Wd}
theorem reps_strs : ∀ (ys : List Str), Reps G W (ys.map Da.str) (ys.map V.str)
  | [] => .nil
  | y :: ys => .cons (repS W y) (reps_strs ys)
theorem strs_reps : ∀ {ys : List Str} {vs : List V}, Reps G W (ys.map Da.str) vs → vs = ys.map V.str
  | [], vs, h => h.inv_nil
  | y :: ys, vs, h => by
    obtain ⟨v, r, rfl, h1, h2⟩ := h.inv_cons
    rw [h1.str_inv, strs_reps h2]; rfl
end
/-- the receiver is a text -/
def onStr {α : Type} (d : Da) (k : Str → Res α) : Res α := match d with
  | .str a => k a
  | _ => .bad
def splitF (fo fe : M Da) : M (List Da) := fun ρ S => (fo ρ S).bind fun d S1 => onStr d fun a => (fe ρ S1).bind fun y S2 => onStr y fun b =>
  if (b.length == 0) = false ∧ a.length + 2 ≤ big then .ok ((Txt.split a b).map Da.str) S2 else .bad
def sidxM (fo fe : M Da) : M Da := fun ρ S => (fo ρ S).bind fun d S1 => onStr d fun a => (fe ρ S1).bind fun y S2 => onStr y fun b => match Txt.index0 a b with
  | some k => .ok (.int (k : Nat)) S2
  | none => .bad
def joinM (fo fe : M Da) : M Da := fun ρ S => (fo ρ S).bind fun d S1 => onStr d fun a => (fe ρ S1).bind fun y S2 => match (seqOf S2 y).bind strsOf with
  | some ys => if (ys.map (·.length)).sum + ys.length * a.length ≤ 16777216 then .ok (.str (Txt.join a ys)) S2 else .bad
  | none => .bad
def inSD : Da → Da → Store → Option Da
  | .str i, .str j, _ => some (.bl (!(Builtin.Str.occurrences j i 0 j.length 1).isEmpty))
  | _, _, _ => none
def strD : List Da → Store → Option Da
  | [.int i], _ => if i.natAbs.log2 < 1920 then some (.str (toString i)) else none
  | _, _ => none
section
variable {X : Cx} {G : Gc} {Wx : WX} {o e e2 : Expr} {es : List Expr} {fo fe f g : M Da} {t : M (List Da)} {pos cpos apos p : Pos}
theorem pdf_split (ho : PE X o (tM G Wx fo)) (he : PE X e (tM G Wx fe)) (hs : starEach [e] X.env = [(false, eval e X.env)] := by rfl) (hbase : attributeBase o "split" X.env (eval o X.env) = eval o X.env := by rfl) (hline : (apos.endLine == pos.line) = true := by rfl) :
    PE X (.Call (.Attribute o "split" apos) [e] [] pos) (tF G Wx (splitF fo fe)) :=
  (pe_split ho he hs hbase hline).imp fun σ H Q ⟨W, S, ρ, s, r, q⟩ => ⟨W, S, ρ, s, r, AftF.bind q fun d S1 v W1 H1 x1 s1 q1 k1 => by
    cases d with
    | str a =>
      refine ⟨⟨a, q1.str_inv⟩, W1, S1, ρ, s1, r.mono x1.le, AftF.bind k1 fun y S2 u W2 H2 x2 s2 q2 k2 => ?_⟩
      cases y with
      | str b =>
        have k2 : AftF G Wx σ W2 H2 (if (b.length == 0) = false ∧ a.length + 2 ≤ big then .ok ((Txt.split a b).map Da.str) S2 else .bad) Q := k2
        by_cases h : (b.length == 0) = false ∧ a.length + 2 ≤ big
        · rw [if_pos h] at k2
          exact ⟨a, b, q1.str_inv, by rw [q2.str_inv], h.1, by rw [← big_eq]; exact h.2, fun p hp => k2.new s2 (reps_strs _) hp⟩
        · rw [if_neg h] at k2; exact k2.elim
      | _ => exact k2.elim
    | _ => exact k1.elim⟩
theorem pd_sidx (hc : X.calm = true := by rfl) (tk : Takes X Wx) (ho : PE X o (tM G Wx fo)) (he : PE X e (tM G Wx fe)) (hbase : attributeBase o "index" X.env (eval o X.env) = eval o X.env := by rfl)
    (hfew : ((backTo cpos (starEach [e] X.env)).all (fun x => !x.1) && (backToKw cpos (keywordEach [] X.env)).all (fun x => x.1.isSome) && decide ([e].length + ([] : List Keyword).length + (if ([] : List Keyword).isEmpty then 0 else 1) < 30)) = true := by rfl)
    (hline : (apos.endLine == cpos.line) = true := by rfl) (hs : starEach [e] X.env = (false, eval e X.env) :: starEach [] X.env := by rfl)
    (hplain : (backTo cpos (starEach [] X.env)).any (·.1) = false := by rfl) : PE X (.Call (.Attribute o "index" apos) [e] [] cpos) (tM G Wx (sidxM fo fe)) :=
  (pe_bmS PySem.F.plainAttrs_str PySem.F.slot_str_index PySem.F.type_str_index (mt_indexX hc tk) ho (pa_cons he pa_nil hs) hbase hfew hline hs hplain).imp fun σ H Q ⟨W, S, ρ, s, r, q⟩ => ⟨W, S, ρ, s, r, q.bind fun d S1 v W1 H1 x1 s1 q1 k1 => by
    cases d with
    | str a =>
      have ev := q1.str_inv
      subst ev
      refine ⟨rfl, W1, S1, ρ, s1, r.mono x1.le, Aft.bind k1 fun y S2 u W2 H2 x2 s2 q2 k2 => ?_⟩
      cases y with
      | str b =>
        have k2 : Aft (RV G) G Wx σ W2 H2 (match Txt.index0 a b with
          | some k => .ok (.int (k : Nat)) S2
          | none => .bad) Q := k2
        cases e0 : Txt.index0 a b with
        | none => rw [e0] at k2; exact k2.elim
        | some k =>
          rw [e0] at k2
          refine ⟨a, b, rfl, by rw [q2.str_inv], fun k' e1 => ?_, fun e1 => ?_⟩
          · rw [e0] at e1; cases e1
            exact k2.here s2 (repI W2 _)
          · rw [e0] at e1; cases e1
      | _ => exact k2.elim
    | _ => exact k1.elim⟩
theorem SR.seqOf {W : Wd} {H : Hp} {S : Store} {d : Da} {v : V} {l : List Da} (s : SR G W H S) (r : Rep G W d v) (h : NL.seqOf S d = some l) : ∃ a vs, v = .ref a ∧ (SqT G.K H a vs ∨ SqL G.K H a vs) ∧ Reps G W l vs := by
  have lst : NL.asL S d = some l → ∃ a vs, v = .ref a ∧ (SqT G.K H a vs ∨ SqL G.K H a vs) ∧ Reps G W l vs := fun h => by
    obtain ⟨p, vs, rfl, h1, h2⟩ := s.isL r h
    exact ⟨p, vs, rfl, .inr h1, h2⟩
  cases d with
  | tup l2 =>
    cases h
    obtain ⟨p, vs, rfl, h1, h2⟩ := r.tup_inv
    exact ⟨p, vs, rfl, .inl (s.sqT h1), h2⟩
  | _ => exact lst h
theorem pd_join (ho : PE X o (tM G Wx fo)) (he : PE X e (tM G Wx fe)) (hs : starEach [e] X.env = [(false, eval e X.env)] := by rfl) (hbase : attributeBase o "join" X.env (eval o X.env) = eval o X.env := by rfl) (hline : (apos.endLine == pos.line) = true := by rfl) (hK : G.K = X.K := by rfl) :
    PE X (.Call (.Attribute o "join" apos) [e] [] pos) (tM G Wx (joinM fo fe)) :=
  (pe_join ho he hs hbase hline).imp fun σ H Q ⟨W, S, ρ, s, r, q⟩ => ⟨W, S, ρ, s, r, q.bind fun d S1 v W1 H1 x1 s1 q1 k1 => by
    cases d with
    | str a =>
      have ev := q1.str_inv
      subst ev
      refine ⟨⟨a, rfl⟩, W1, S1, ρ, s1, r.mono x1.le, Aft.bind k1 fun y S2 u W2 H2 x2 s2 q2 k2 => ?_⟩
      cases e0 : (seqOf S2 y).bind strsOf with
      | none => rw [e0] at k2; exact k2.elim
      | some ys =>
        rw [e0] at k2
        dsimp only at k2
        by_cases h : (ys.map (·.length)).sum + ys.length * a.length ≤ 16777216
        · rw [if_pos h] at k2
          obtain ⟨l, e1, e2⟩ := Option.bind_eq_some_iff.mp e0
          have el := strsOf_eq e2
          subst el
          have hs2 : ∃ p, u = .ref p ∧ (SqL X.K H2 p (ys.map V.str) ∨ SqT X.K H2 p (ys.map V.str)) := by
            obtain ⟨p, vs, rfl, h1, h2⟩ := s2.seqOf q2 e1
            rw [strs_reps h2, hK] at h1
            exact ⟨p, rfl, h1.symm⟩
          obtain ⟨p, rfl, hp⟩ := hs2
          exact ⟨a, p, ys, rfl, rfl, hp, h, k2.here s2 (repS W2 _)⟩
        · rw [if_neg h] at k2; exact k2.elim
    | _ => exact k1.elim⟩
theorem or_inS : OpR X (compareOp .In) (rd2 G inSD) := op_in_str.imp fun x y H Q ⟨W, S, a, b, s, r1, r2, q⟩ => by
  unfold inSD at q
  split at q
  · exact ⟨_, _, r1.str_inv, r2.str_inv, q.here s (repB W _)⟩
  · exact q.elim
theorem cr_strI : CallR X (.type "str") (rdn G strD) := call_str_int.imp fun xs H Q ⟨W, S, l, s, r, q⟩ => by
  unfold strD at q
  split at q
  · rename_i i
    by_cases h : i.natAbs.log2 < 1920
    · rw [if_pos h] at q
      obtain ⟨v, rfl, rv⟩ := r.one
      exact ⟨i, by rw [rv.int_inv], h, q.here s (repS W _)⟩
    · rw [if_neg h] at q; exact q.elim
  · exact q.elim
/-! ### *e among the items of a display -/
def starM (f : M Da) (t : M (List Da)) : M (List Da) := fun ρ S => (f ρ S).bind fun d S1 => match seqOf S1 d with
  | some l => (t ρ S1).bind fun m S2 => .ok (l ++ m) S2
  | none => .bad
theorem pda_star (he : PE X e (tM G Wx f)) (hr : PA X es (tMs G Wx t)) (hs : starEach (.Starred e p :: es) X.env = (true, eval e X.env) :: starEach es X.env := by rfl) (hK : G.K = X.K := by rfl) : PA X (.Starred e p :: es) (tMs G Wx (starM f t)) :=
  (StX.pa_star he hr hs).imp fun σ H Q ⟨W, S, ρ, s, r, q⟩ => ⟨W, S, ρ, s, r, q.bind fun d S1 v W1 H1 x1 s1 q1 k1 => by
    cases e1 : NL.seqOf S1 d with
    | none => rw [e1] at k1; exact k1.elim
    | some l =>
      rw [e1] at k1
      obtain ⟨a, vs, rfl, h1, h2⟩ := s1.seqOf q1 e1
      rw [hK] at h1
      exact ⟨a, vs, rfl, h1, W1, S1, ρ, s1, r.mono x1.le, Aft.bind k1 fun m S2 us W2 H2 x2 s2 q2 k2 => k2.here s2 ((h2.mono x2.le).append q2)⟩⟩
/-! ### zip of two tuples -/
theorem walk_zipT2 {K : PySem.W.Frag} {a b : Addr} {xs ys : List V} {n : Nat} (hn : n = min xs.length ys.length) : Walk (RZ.ItzT K a b) n (fun H => SqT K H a xs ∧ SqT K H b ys) (YPair (fun i => xs[i]?) (fun i => ys[i]?)) := by
  subst hn
  refine ⟨fun i _ hi q => ?_, fun _ q => ⟨xs, ys, q.1, q.2, by omega⟩, fun i H v H2 _ q y => ?_⟩
  · have l1 : i < xs.length := by omega
    have l2 : i < ys.length := by omega
    exact ⟨xs, ys, xs[i], ys[i], q.1, q.2, by simp [l1], by simp [l2]⟩
  · obtain ⟨T, x, z, k1, k2, k3, k4, k5⟩ := y; exact ⟨T, x, z, k1, k2, k3, k4 xs q.1, k5 ys q.2⟩
def itZT (f g : M Da) : M (List Da) := fun ρ S => (f ρ S).bind fun d S1 => (g ρ S1).bind fun e S2 => match d, e with
  | .tup l, .tup m => .ok (zipL l m) S2
  | _, _ => .bad
theorem zipL_get {W : Wd} {l m : List Da} {vs us : List V} (r : Reps G W l vs) (r2 : Reps G W m us) {i : Nat} {x y : V} (hx : vs[i]? = some x) (hy : us[i]? = some y) : ∃ a b, (zipL l m)[i]? = some (.tup [a, b]) ∧ Rep G W a x ∧ Rep G W b y := by
  obtain ⟨d, hd, rd⟩ := r.getV hx
  obtain ⟨d2, hd2, rd2⟩ := r2.getV hy
  refine ⟨d, d2, ?_, rd, rd2⟩
  unfold zipL
  rw [List.getElem?_zipWith, hd, hd2]
theorem pid_zipT {elts : List Expr} {kk : Nat} {tpos : Pos} (hm : X.mg "zip" = none) (he : PE X e (tM G Wx f)) (he2 : PE X e2 (tM G Wx g)) (hg : Gl X "zip" := by rfl)
    (hs : starEach [e, e2] X.env = (false, eval e X.env) :: starEach [e2] X.env := by rfl) (hs2 : starEach [e2] X.env = (false, eval e2 X.env) :: starEach [] X.env := by rfl) (hpl : (backTo pos (starEach [e2] X.env)).any (·.1) = false := by rfl) (hK : G.K = X.K := by rfl) :
    PI X (.Tuple elts kk tpos) (.Call (.Name "zip" p) [e, e2] [] pos) (tI G Wx (itZT f g)) :=
  (RZ.pi_zipA hg hm (pa_cons he (pa_cons he2 pa_nil hs2) hs) hs hpl).imp fun σ H R ⟨W, S, ρ, s, r, q⟩ => ⟨W, S, ρ, s, r, q.bind fun d S1 v W1 H1 x1 s1 q1 k1 => ⟨W1, S1, ρ, s1, r.mono x1.le, k1.bind fun d2 S2 u W2 H2 x2 s2 q2 k2 => by
    cases d with
    | tup l =>
      cases d2 with
      | tup m =>
        obtain ⟨a, vs, rfl, ha, ra⟩ := (q1.mono x2.le).tup_inv
        obtain ⟨b, us, rfl, hb, rb⟩ := q2.tup_inv
        rw [hK] at ha hb
        exact ⟨a, b, vs, us, rfl, .inr ⟨s2.sqT ha, s2.sqT hb, k2.here s2 (itd_pair (walk_zipT2 (a := a) (b := b) (xs := vs) (ys := us) rfl) (by unfold zipL; rw [List.length_zipWith, ra.length, rb.length]) (fun W3 H3 S3 le s3 => ⟨s3.sqT (SqT.mono ha le.F), s3.sqT (SqT.mono hb le.F)⟩) fun i x y _ h1 h2 => zipL_get ra rb h1 h2)⟩⟩
      | _ => exact k2.elim
    | _ => exact k2.elim⟩⟩
end
end NL
namespace NL
open PySem PySem.Spec PyProof.Rows L2
/-! ### sorted(list of ints) -/
def insI (x : Int) : (List Int) → List Int
  | [] => [x]
  | y :: l => if y < x then y :: insI x l else x :: y :: l
def sortI (l : List Int) : List Int := l.foldr insI []
theorem insI_perm (x : Int) : ∀ l : List Int, (insI x l).Perm (x :: l)
  | [] => .refl _
  | y :: l => by
    unfold insI
    split
    · exact ((insI_perm x l).cons y).trans (.swap x y l)
    · exact .refl _
theorem sortI_perm : ∀ l, (sortI l).Perm l
  | [] => .refl _
  | x :: l => (insI_perm x (sortI l)).trans ((sortI_perm l).cons x)
theorem insI_sorted {x : Int} : ∀ {l : List Int}, l.Pairwise (· ≤ ·) → (insI x l).Pairwise (· ≤ ·)
  | [], _ => List.pairwise_singleton _ _
  | y :: l, h => by
    rw [List.pairwise_cons] at h
    unfold insI
    split
    · rename_i q
      refine List.pairwise_cons.mpr ⟨fun z hz => ?_, insI_sorted h.2⟩
      rcases List.mem_cons.1 ((insI_perm x l).mem_iff.mp hz) with e | e
      · omega
      · exact h.1 z e
    · rename_i q
      refine List.pairwise_cons.mpr ⟨fun z hz => ?_, List.pairwise_cons.mpr h⟩
      rcases List.mem_cons.1 hz with e | e
      · omega
      · have := h.1 z e; omega
theorem sortI_sorted : ∀ l, (sortI l).Pairwise (· ≤ ·)
  | [] => List.Pairwise.nil
  | x :: l => insI_sorted (sortI_sorted l)
theorem ints_uniq : ∀ {l m : List Int}, l.Perm m → l.Pairwise (· ≤ ·) → m.Pairwise (· ≤ ·) → l = m
  | [], m, p, _, _ => (List.nil_perm.mp p).symm
  | x :: l, [], p, _, _ => absurd p.length_eq (by simp)
  | x :: l, y :: m, p, h1, h2 => by
    rw [List.pairwise_cons] at h1 h2
    have e : x = y := by
      have a : y = x ∨ y ∈ l := List.mem_cons.1 (p.mem_iff.mpr List.mem_cons_self)
      have b : x = y ∨ x ∈ m := List.mem_cons.1 (p.mem_iff.mp List.mem_cons_self)
      rcases a with a | a
      · exact a.symm
      · rcases b with b | b
        · exact b
        · have := h2.1 x b; have := h1.1 y a; omega
    subst e
    rw [ints_uniq (List.perm_cons x |>.mp p) h1.2 h2.2]
def siF (m : M Da) : M (List Da) := fun ρ S => (m ρ S).bind fun d S1 => match (tryL S1 d).bind intsOf with
  | some ns => .ok ((sortI ns).map Da.int) S1
  | none => .bad
theorem pdf_sortI {X : Cx} {G : Gc} {Wx : WX} {e : Expr} {m : M Da} {pos p : Pos} (hm : X.mg "sorted" = none) (he : PE X e (tM G Wx m)) (hK : G.K = X.K := by rfl) (hg : Gl X "sorted" := by rfl) (na : starEach [e] X.env = (false, eval e X.env) :: starEach [] X.env := by rfl) :
    PE X (.Call (.Name "sorted" p) [e] [] pos) (tF G Wx (siF m)) :=
  (pe_callB cr_sortedI hg hm (by decide +kernel) (pa_cons he pa_nil na) (by decide) (by decide) na (by rfl)).imp fun σ H Q ⟨W, S, ρ, s, r, q⟩ => ⟨W, S, ρ, s, r, AftF.bind q fun d S1 v W1 H1 x1 s1 q1 k1 => by
    cases e1 : (tryL S1 d).bind intsOf with
    | none => rw [e1] at k1; exact k1.elim
    | some ns =>
      rw [e1] at k1
      obtain ⟨l, e2, e3⟩ := Option.bind_eq_some_iff.mp e1
      obtain ⟨a, vs, rfl, h1, h2⟩ := s1.tryL q1 e2
      have el := intsOf_eq e3
      subst el
      have ev := h2.ints
      subst ev
      refine ⟨a, ns, rfl, .of h1, fun ns' p pm hs hp => ?_⟩
      have := ints_uniq (pm.trans (sortI_perm ns).symm) hs (sortI_sorted ns)
      subst this
      exact k1.new s1 (reps_ints _) hp⟩
theorem ptd_inDct {X : Cx} {G : Gc} {Wx : WX} {e : Expr} {f : M Da} {x : Str} {kvs : List (Str × Int)} {p pos : Pos} (D : DctOk X.K X.w X.mg x kvs) (he : PE X e (tM G Wx f)) (hg : Gl X x := by rfl) (hd : (x == ("__debug__" : Str)) = false := by decide) (hm : behindInMarks .In (.Name x p) = false := by first | exact nobehind _ (by decide) (by decide) | rfl) :
    PT X (.Compare e [.In] [.Name x p] pos) (tMb G Wx (tstM (inDctM kvs f))) := by
  obtain ⟨d, es, n, h1, h2, h3⟩ := D.ex
  refine (pt_cmpR (op_in_kd h2) he (pe_glob (v := .ref d) hg h1 rfl hd) hm).imp fun σ H Q k => ?_
  obtain ⟨W, S, ρ, s, r, q⟩ := tst_imp k
  refine ⟨W, S, ρ, s, r, q.bind fun a S1 v W1 H1 x1 s1 q1 k1 => ?_⟩
  cases a with
  | str z =>
    obtain ⟨r, e1, e2⟩ := dct_at h2 h3 z
    refine ⟨z, r, q1.str_inv, rfl, e1, ?_⟩
    have k1 : Aft (RV G) G Wx σ W1 H1 (.ok (.bl (kvs.lookup z).isSome) S1) (fun v H1 => ∃ d, v = .bl d ∧ Q d H1) := k1
    have eb : r.isSome = (kvs.lookup z).isSome := by
      cases hz : kvs.lookup z with
      | none => rw [hz] at e2; rw [e2]; rfl
      | some i => rw [hz] at e2; obtain ⟨t, e2⟩ := e2; rw [e2]; rfl
    rw [eb]
    exact k1.here s1 (repB W1 _)
  | _ => exact k1.elim
end NL

set_option Elab.async false
set_option linter.all false
set_option maxRecDepth 100000
set_option maxHeartbeats 4100000
/-! itertools.combinations of a list: made, and each turn of it. -/
namespace NLC
open PySem PySem.Spec
open Sem (wp)
theorem mro_cmb : mroOf (.type "itertools.combinations") = pure [.type "itertools.combinations", .type "object"] := by rw [mroOf_type]; kernel_rfl
theorem new_cmb : typeLookup (.type "itertools.combinations") "__new__" = pure (some (.builtin "itertools.combinations.__new__")) := by rw [typeLookup_type, builtinLookup_eq_fast]; kernel_rfl
theorem init_cmb : Slot "itertools.combinations" "__init__" "object.__init__" :=
  Slot.of (n := "__init__") (owner := "object") (by rw [typeLookup_type]; rw [builtinLookup_eq_fast]; kernel_rfl) (by decide +kernel) (by decide +kernel) (by decide +kernel)
    (by first | exact Or.inl (by decide +kernel) | exact Or.inr (by decide +kernel)) (by rw [isSubtype_type]; kernel_rfl)
theorem sub_cmb : isSubtype (.type "itertools.combinations") (.type "itertools.combinations") = pure true := by rw [isSubtype_type]; kernel_rfl
theorem called_cmb : TypeCalled "itertools.combinations" "itertools.combinations.__new__" "object.__init__" :=
  ⟨by decide +kernel, by decide +kernel, ⟨_, _, mro_cmb⟩, madeBy_type mro_cmb new_cmb (by decide +kernel), by decide +kernel, sub_cmb, init_cmb⟩
theorem typeCall_cmb (a b : Value) : checkTypeCall "itertools.combinations" ⟨[a, b], []⟩ = pure () := by kernel_rfl
theorem newCall_cmb (a b : Value) : checkBuiltinCall "itertools.combinations.__new__" ⟨[.type "itertools.combinations", a, b], []⟩ = pure () := by kernel_rfl
theorem entry_cmb_new : entryFor table "itertools.combinations.__new__" = some Builtin.«itertools.combinations.__new__» := entryFor_of_tree (by kernel_rfl)
theorem iter_cmb : Slot "itertools.combinations" "__iter__" "itertools.combinations.__iter__" :=
  .of (owner := "itertools.combinations") (n := "__iter__") (by rw [typeLookup_type, builtinLookup_eq_fast]; kernel_rfl) (by decide +kernel) (by decide +kernel) (by decide +kernel)
    (by first | exact .inl (by decide +kernel) | exact .inr (by decide +kernel)) sub_cmb
theorem next_cmb : Slot "itertools.combinations" "__next__" "itertools.combinations.__next__" :=
  .of (owner := "itertools.combinations") (n := "__next__") (by rw [typeLookup_type, builtinLookup_eq_fast]; kernel_rfl) (by decide +kernel) (by decide +kernel) (by decide +kernel)
    (by first | exact .inl (by decide +kernel) | exact .inr (by decide +kernel)) sub_cmb
theorem entry_cmb_iter : entryFor table "itertools.combinations.__iter__" = some Builtin.«dict_keyiterator.__iter__» :=
  entryFor_alias (id' := "dict_keyiterator.__iter__") (by kernel_rfl) (by first | decide +kernel | rfl | (unfold String.splitOn; simp +decide [String.splitOnAux])) (by decide +kernel) (by kernel_rfl)
theorem entry_cmb_next : entryFor table "itertools.combinations.__next__" = some Builtin.«itertools.combinations.__next__» := entryFor_of_tree (by kernel_rfl)
theorem owner_cmb : Manifest.owners.lookup (String.ofList ['s', 'n', 'o', 'i', 't', 'a', 'n', 'i', 'b', 'm', 'o', 'c', '.', 's', 'l', 'o', 'o', 't', 'r', 'e', 't', 'i'].reverse) = some Manifest.sig_itertools_combinations := by kernel_rfl
theorem args_cmb_iter (a : Value) : argsOk "itertools.combinations.__iter__" ⟨[a], []⟩ := by
  unfold argsOk; rw [signature?_of (id := "itertools.combinations.__iter__") (n := ['_', '_', 'r', 'e', 't', 'i', '_', '_']) (o := ['s', 'n', 'o', 'i', 't', 'a', 'n', 'i', 'b', 'm', 'o', 'c', '.', 's', 'l', 'o', 'o', 't', 'r', 'e', 't', 'i']) (by kernel_rfl) owner_cmb]; kernel_rfl
theorem args_cmb_next (a : Value) : argsOk "itertools.combinations.__next__" ⟨[a], []⟩ := by
  unfold argsOk; rw [signature?_of (id := "itertools.combinations.__next__") (n := ['_', '_', 't', 'x', 'e', 'n', '_', '_']) (o := ['s', 'n', 'o', 'i', 't', 'a', 'n', 'i', 'b', 'm', 'o', 'c', '.', 's', 'l', 'o', 'o', 't', 'r', 'e', 't', 'i']) (by kernel_rfl) owner_cmb]; kernel_rfl
theorem noDict_cmb : typeHasDict (.type "itertools.combinations") = false := by decide +kernel
/-- a combinations object at it: its pool, its state, what it handed out last, its indices -/
abbrev cmbO (P : Addr) (st : Int) (last : Value) (ix : List Nat) : Obj := { cls := .type "itertools.combinations", dict := none, data := .fields ([Value.ref P, rawInt st, last] ++ ix.map fun (i : Nat) => rawInt i).toArray, slots := #[] }
abbrev CmbAt (h : Heap) (it : Addr) (P : Addr) (st : Int) (last : Value) (ix : List Nat) : Prop := h.get? it = some (cmbO P st last ix)
section
variable {prog : Program} {w : World} {A : Around} {E : Value → Shared → Prop} {s : Shared}
theorem class_cmb (a b : Value) : Builtin.Itertools.itClassAndRest "combinations" ⟨[.type "itertools.combinations", a, b], []⟩ = pure (.type "itertools.combinations", [a, b]) := by
  unfold Builtin.Itertools.itClassAndRest
  dsimp only
  rw [show ("itertools." ++ "combinations" : String) = "itertools.combinations" from by decide +kernel, sub_cmb]
  kernel_rfl
theorem named_cmb (a b : Value) : Builtin.Itertools.itBindNamed "combinations" ["iterable", "r"] 2 2 [a, b] [] = pure [some a, some b] := by kernel_rfl
theorem ssize_cmb {r : Nat} {t : Tok} (h : r ≤ 1000) : Builtin.Itertools.itSsizeArg (.int (r : Nat) t) = pure (r : Int) := by
  unfold Builtin.Itertools.itSsizeArg
  rw [show asIndex (.int (r : Nat) t) = pure (r : Int) from rfl, pure_bind]
  have a : decide ((r : Int) < -(2 ^ 63 : Int)) = false := decide_eq_false (by omega)
  have b : decide ((r : Int) ≥ 2 ^ 63) = false := decide_eq_false (by omega)
  dsimp only
  rw [a, b]
  rfl
theorem new_run {l : Addr} {o : Obj} {items : Array Value} {ep : Nat} {r : Nat} {t : Tok} {Q : PySem.Fin → Shared → Prop}
    (ho : s.heap.get? l = some o) (hc : o.cls = .type "list") (hd : o.data = .seq items ep) (hsz : items.size ≤ 1000) (hr : r ≤ items.size)
    (h : ∀ h1 h' : Heap, (∀ b o', s.heap.get? b = some o' → h1.get? b = some o') → (∀ b o', h1.get? b = some o' → h'.get? b = some o') → h'.IsTuple h1.objs.size items → CmbAt h' (h1.objs.size + 1) h1.objs.size 0 .none (List.range r) → Q (.done (.ret (.ref (h1.objs.size + 1)))) { s with heap := h' }) :
    wpAny (model prog w) A (Builtin.«itertools.combinations.__new__» ⟨[.type "itertools.combinations", .ref l, .int (r : Nat) t], []⟩) Q E s := by
  refine wpAny_bind (m := _) ?_
  refine wpAny_bind (m := _) (wpAny_of_eq (class_cmb _ _) ?_)
  refine wpAny_bind (m := _) (wpAny_of_eq (named_cmb _ _) ?_)
  refine wpAny_bind (m := _) (wpAny_of_eq (ssize_cmb (by omega)) ?_)
  refine wpAny_bind (m := _) (wpAny_collect_seq l (.inl rfl) ho hc hd (fun h1 k1 => ?_) (by unfold sizeLine; omega))
  have n0 : ¬ ((r : Int) < 0) := by omega
  have n1 : ¬ Builtin.Itertools.itTooMany (r : Int) = true := by
    unfold Builtin.Itertools.itTooMany
    simp only [decide_eq_true_eq]
    omega
  refine wpAny_ite_false (decide_eq_false n0) ?_
  refine wpAny_ite_false (decide_eq_false n1) ?_
  refine wpAny_bind (m := newTuple items.toList) ?_
  simp only [newTuple]
  refine wpAny_newObj_type ?_ (by show items.toList.toArray.size ≤ sizeLine; simp only [Array.toArray_toList]; unfold sizeLine; omega)
  refine wpAny_pure ?_
  dsimp only
  have nr : ¬ ((r : Int).toNat > items.toList.length) := by simp only [Array.length_toList]; omega
  rw [if_neg nr]
  refine wpAny_bind (m := Builtin.Itertools.itNewRecord _ _) ?_
  unfold Builtin.Itertools.itNewRecord
  rw [noDict_cmb, if_pos (by rfl), Int.toNat_natCast]
  refine wpAny_newObj_type ?_ ?_
  · refine wpAny_pure ?_
    have hs1 : (h1.push { cls := .type "tuple", data := .seq items.toList.toArray }).objs.size = h1.objs.size + 1 := by simp [Heap.push]
    show Q (.done (.ret (.ref (h1.push { cls := .type "tuple", data := .seq items.toList.toArray }).objs.size))) { s with heap := (h1.push { cls := .type "tuple", data := .seq items.toList.toArray }).push (cmbO h1.objs.size 0 .none (List.range r)) }
    rw [hs1]
    refine h h1 _ k1 (fun b o' e => Heap.get?_push_of_some _ (Heap.get?_push_of_some _ e)) ⟨_, Heap.get?_push_of_some _ (Heap.get?_push_size _ rfl), rfl, 0, by simp⟩ ?_
    rw [← hs1]
    exact Heap.get?_push_size (h1.push _) rfl
  · show (([Value.ref h1.objs.size, rawInt 0, Value.none] ++ (List.range r).map fun (i : Nat) => rawInt i).toArray).size ≤ sizeLine + 2
    simp only [List.size_toArray, List.length_append, List.length_map, List.length_range, List.length_cons, List.length_nil]
    unfold sizeLine
    omega
end
/-- the indices that come next -/
def stepC (n : Nat) (ix : List Nat) : Option (List Nat) :=
  ((List.range ix.length).reverse.find? fun i => ix.getD i 0 != i + n - ix.length).map fun i => ix.take i ++ (List.range (ix.length - i)).map (ix.getD i 0 + 1 + ·)
section
variable {prog : Program} {w : World} {A : Around} {E : Value → Shared → Prop} {s : Shared}
theorem toNat_raw (ix : List Nat) : (ix.map fun (i : Nat) => rawInt i).map (fun v => match v with | .int n _ => n.toNat | _ => 0) = ix := by
  induction ix with
  | nil => rfl
  | cons x l ih => rw [List.map_cons, List.map_cons, ih]; rfl
theorem numbers_cmb {h : Heap} {it P : Addr} {st : Int} {last : Value} {ix : List Nat} {Q : List Nat → Shared → Prop} (hh : s.heap = h) (hit : CmbAt h it P st last ix) (hQ : Q ix s) : wpAny (model prog w) A (Builtin.Itertools.itNumbersFrom (.ref it) 3) Q E s := by
  subst hh
  unfold Builtin.Itertools.itNumbersFrom
  refine wpAny_bind (wpAny_load hit ?_)
  refine wpAny_pure ?_
  have e : List.map (fun x => match x with | .int n _ => n.toNat | _ => 0) (List.drop 3 ([Value.ref P, rawInt st, last] ++ ix.map fun (i : Nat) => rawInt i).toArray.toList) = ix := by
    have e2 : List.drop 3 ([Value.ref P, rawInt st, last] ++ ix.map fun (i : Nat) => rawInt i).toArray.toList = ix.map fun (i : Nat) => rawInt i := by simp
    rw [e2, toNat_raw]
  exact e.symm ▸ hQ
theorem set_1 {P : Addr} {st : Int} {last v : Value} {ix : List Nat} : (([Value.ref P, rawInt st, last] ++ ix.map fun (i : Nat) => rawInt i).toArray).setIfInBounds 1 v = ([Value.ref P, v, last] ++ ix.map fun (i : Nat) => rawInt i).toArray := by simp
theorem set_2 {P : Addr} {st : Int} {last v : Value} {ix : List Nat} : (([Value.ref P, rawInt st, last] ++ ix.map fun (i : Nat) => rawInt i).toArray).setIfInBounds 2 v = ([Value.ref P, rawInt st, v] ++ ix.map fun (i : Nat) => rawInt i).toArray := by simp
theorem set_3 {P : Addr} {st : Int} {last : Value} {ix ix2 : List Nat} : (([Value.ref P, rawInt st, last] ++ ix.map fun (i : Nat) => rawInt i).toArray).extract 0 3 ++ (ix2.map fun (n : Nat) => rawInt n).toArray = ([Value.ref P, rawInt st, last] ++ ix2.map fun (i : Nat) => rawInt i).toArray := by
  apply Array.toList_inj.mp
  simp
theorem upd_1 {h : Heap} {it P : Addr} {st v : Int} {last : Value} {ix : List Nat} (hit : CmbAt h it P st last ix) : CmbAt (h.update it (Obj.mapFields (·.setIfInBounds 1 (rawInt v)))) it P v last ix := by
  have e := Heap.get?_update_self (Obj.mapFields (·.setIfInBounds 1 (rawInt v))) hit rfl
  refine e.trans ?_
  show some (Obj.mapFields _ (cmbO P st last ix)) = _
  unfold cmbO Obj.mapFields
  dsimp only
  rw [set_1]
theorem upd_2 {h : Heap} {it P : Addr} {st : Int} {last v : Value} {ix : List Nat} (hit : CmbAt h it P st last ix) : CmbAt (h.update it (Obj.mapFields (·.setIfInBounds 2 v))) it P st v ix := by
  have e := Heap.get?_update_self (Obj.mapFields (·.setIfInBounds 2 v)) hit rfl
  refine e.trans ?_
  unfold cmbO Obj.mapFields
  dsimp only
  rw [set_2]
theorem upd_3 {h : Heap} {it P : Addr} {st : Int} {last : Value} {ix ix2 : List Nat} (hit : CmbAt h it P st last ix) : CmbAt (h.update it (Obj.mapFields fun fs => fs.extract 0 3 ++ (ix2.map fun (n : Nat) => rawInt n).toArray)) it P st last ix2 := by
  have e := Heap.get?_update_self (Obj.mapFields fun fs => fs.extract 0 3 ++ (ix2.map fun (n : Nat) => rawInt n).toArray) hit rfl
  refine e.trans ?_
  unfold cmbO Obj.mapFields
  dsimp only
  rw [set_3]
/-- what is handed out -/
def pickV (items : Array Value) (ix : List Nat) : List Value := ix.map fun i => items.getD i .none
theorem hand_run {it P : Addr} {last : Value} {ix : List Nat} {items : Array Value} {Q : PySem.Fin → Shared → Prop} (hit : CmbAt s.heap it P 1 last ix) (hp : s.heap.IsTuple P items) (hne : it ≠ P) (hl : ix.length ≤ 1000)
    (h : ∀ h' : Heap, CmbAt h' it P 1 (.ref s.heap.objs.size) ix → h'.get? s.heap.objs.size = some { cls := .type "tuple", data := .seq (pickV items ix).toArray } → (∀ b o, b ≠ it → s.heap.get? b = some o → h'.get? b = some o) → Q (.done (.ret (.ref s.heap.objs.size))) { s with heap := h' }) :
    wpAny (model prog w) A ((do
      let items ← Builtin.Itertools.itPoolItems (.ref P)
      newTuple (ix.map fun i => items.getD i .none)) >>= fun result => do
        let before ← field (.ref it) 2
        setField (.ref it) 2 result
        letGo [before] [result]
        ret result) Q E s := by
  obtain ⟨o, e1, e2, n, e3⟩ := id hp
  refine wpAny_bind (m := _ >>= _) (wpAny_bind ?_)
  unfold Builtin.Itertools.itPoolItems
  refine wpAny_bind (wpAny_seqItems e1 e3 (wpAny_pure ?_))
  simp only [newTuple]
  refine wpAny_newObj_type ?_ (by show ((ix.map fun i => items.getD i .none).toArray).size ≤ sizeLine; simp only [List.size_toArray, List.length_map]; unfold sizeLine; omega)
  have hit1 : CmbAt (s.heap.push { cls := .type "tuple", data := .seq (pickV items ix).toArray }) it P 1 last ix := Heap.get?_push_of_some _ hit
  have lt : it < s.heap.objs.size := Heap.lt_size hit
  refine wpAny_bind (wpAny_field hit1 rfl (x := last) (by simp) ?_)
  refine wpAny_bind (wpAny_setField hit1 rfl (by simp) ?_)
  refine wpAny_bind (wpAny_letGo (wpAny_pure (h _ (upd_2 hit1) ?_ fun b o hb e => ?_)))
  · exact (Heap.get?_update_other _ _ (Nat.ne_of_lt lt)).trans (Heap.get?_push_size _ rfl)
  · exact (Heap.get?_update_other _ _ hb.symm).trans (Heap.get?_push_of_some _ e)
theorem stepC_eq (n : Nat) (ix : List Nat) : stepC n ix = (match (List.range ix.length).reverse.find? fun i => ix.getD i 0 != i + n - ix.length with
    | none => none
    | some i => some (ix.take i ++ (List.range (ix.length - i)).map (ix.getD i 0 + 1 + ·))) := by
  unfold stepC
  cases (List.range ix.length).reverse.find? fun i => ix.getD i 0 != i + n - ix.length <;> rfl
theorem handed {it P : Addr} {st : Int} {last : Value} {ix : List Nat} {items : Array Value} {Q : Option Value → Shared → Prop} (hit : CmbAt s.heap it P st last ix) (hp : s.heap.IsTuple P items) (hne : it ≠ P) (hl : ix.length ≤ 1000) (ix2 : List Nat) (hl2 : ix2.length ≤ 1000)
    (hc : (st = 0 ∧ ix2 = ix) ∨ (st = 1 ∧ stepC items.size ix = some ix2))
    (h : ∀ h' : Heap, CmbAt h' it P 1 (.ref s.heap.objs.size) ix2 → h'.get? s.heap.objs.size = some { cls := .type "tuple", data := .seq (pickV items ix2).toArray } → (∀ b o, b ≠ it → s.heap.get? b = some o → h'.get? b = some o) → Q (some (.ref s.heap.objs.size)) { s with heap := h' }) : wpAny (model prog w) A (pyNext (.ref it)) Q E s := by
  have hT : s.TypeIs (.ref it) "itertools.combinations" := ⟨_, hit, rfl⟩
  obtain ⟨o, e1, e2, n, e3⟩ := id hp
  unfold pyNext
  refine wpAny_bind (wpAny_attempt (wpAny_callSpecial?_slot (name := Str.ofString "__next__") hT next_cmb (wpAny_call_entry next_cmb hT entry_cmb_next ?_ (args_cmb_next _))))
  refine wpAny_bind (m := slotArgs _ _ _) (wpAny_of_eq (a := (.ref it, [])) (by rfl) ?_)
  refine wpAny_bind (wpAny_field hit rfl (x := .ref P) (by simp) ?_)
  refine wpAny_bind (numbers_cmb rfl hit ?_)
  refine wpAny_bind (m := Builtin.Itertools.itIntField _ _) ?_
  unfold Builtin.Itertools.itIntField
  refine wpAny_bind (wpAny_field hit rfl (x := rawInt st) (by simp) (wpAny_pure ?_))
  rcases hc with ⟨rfl, rfl⟩ | ⟨rfl, hc⟩
  · refine wpAny_bind (wpAny_setField hit rfl (by simp) ?_)
    have h1 := upd_1 (v := 1) hit
    have hp1 : (s.heap.update it (Obj.mapFields (·.setIfInBounds 1 (rawInt 1)))).IsTuple P items := ⟨o, (Heap.get?_update_other _ _ hne).trans e1, e2, n, e3⟩
    have sz : (s.heap.update it (Obj.mapFields (·.setIfInBounds 1 (rawInt 1)))).objs.size = s.heap.objs.size := by simp
    refine hand_run (s := { s with heap := s.heap.update it (Obj.mapFields (·.setIfInBounds 1 (rawInt 1))) }) h1 hp1 hne hl fun h' a b k => ?_
    dsimp only at a b k
    rw [sz] at a b
    show ∃ v, _ ∧ _
    rw [sz]
    exact ⟨_, rfl, wpAny_pure (h h' a b fun c oc hc e => k c oc hc ((Heap.get?_update_other _ _ hc.symm).trans e))⟩
  · show wpAny _ _ (Builtin.Itertools.itPoolItems (.ref P) >>= _) _ _ _
    refine wpAny_bind ?_
    unfold Builtin.Itertools.itPoolItems
    refine wpAny_bind (wpAny_seqItems e1 e3 (wpAny_pure ?_))
    split
    · rename_i nx heq
      have q : stepC items.size ix = some nx := (stepC_eq _ _).trans heq
      rw [q] at hc
      cases hc
      refine wpAny_bind ?_
      unfold Builtin.Itertools.itSetNumbersFrom
      refine wpAny_updateFields hit rfl ?_ ?_
      · have h1 := upd_3 (ix2 := ix2) hit
        have hp1 : (s.heap.update it (Obj.mapFields fun fs => fs.extract 0 3 ++ (ix2.map fun (n : Nat) => rawInt n).toArray)).IsTuple P items := ⟨o, (Heap.get?_update_other _ _ hne).trans e1, e2, n, e3⟩
        have sz : (s.heap.update it (Obj.mapFields fun fs => fs.extract 0 3 ++ (ix2.map fun (n : Nat) => rawInt n).toArray)).objs.size = s.heap.objs.size := by simp
        refine hand_run (s := { s with heap := s.heap.update it (Obj.mapFields fun fs => fs.extract 0 3 ++ (ix2.map fun (n : Nat) => rawInt n).toArray) }) h1 hp1 hne hl2 fun h' a b k => ?_
        dsimp only at a b k
        rw [sz] at a b
        show ∃ v, _ ∧ _
        rw [sz]
        exact ⟨_, rfl, wpAny_pure (h h' a b fun c oc hc e => k c oc hc ((Heap.get?_update_other _ _ hc.symm).trans e))⟩
      · rw [set_3]
        simp only [List.size_toArray, List.length_append, List.length_map, List.length_cons, List.length_nil]
        unfold sizeLine
        omega
    · rename_i heq
      have q : stepC items.size ix = none := (stepC_eq _ _).trans heq
      rw [q] at hc
      cases hc
theorem ended {it P : Addr} {last : Value} {ix : List Nat} {items : Array Value} {Q : Option Value → Shared → Prop} (hh : A.handled = none) (hit : CmbAt s.heap it P 1 last ix) (hp : s.heap.IsTuple P items) (hc : stepC items.size ix = none)
    (h : ∀ h' : Heap, (∀ b o, b ≠ it → s.heap.get? b = some o → h'.get? b = some o) → Q none { s with heap := h' }) : wpAny (model prog w) A (pyNext (.ref it)) Q E s := by
  have hT : s.TypeIs (.ref it) "itertools.combinations" := ⟨_, hit, rfl⟩
  obtain ⟨o, e1, e2, n, e3⟩ := id hp
  unfold pyNext
  refine wpAny_bind (wpAny_attempt (wpAny_callSpecial?_slot (name := Str.ofString "__next__") hT next_cmb (wpAny_call_entry next_cmb hT entry_cmb_next ?_ (args_cmb_next _))))
  refine wpAny_bind (m := slotArgs _ _ _) (wpAny_of_eq (a := (.ref it, [])) (by rfl) ?_)
  refine wpAny_bind (wpAny_field hit rfl (x := .ref P) (by simp) ?_)
  refine wpAny_bind (numbers_cmb rfl hit ?_)
  refine wpAny_bind (m := Builtin.Itertools.itIntField _ _) ?_
  unfold Builtin.Itertools.itIntField
  refine wpAny_bind (wpAny_field hit rfl (x := rawInt 1) (by simp) (wpAny_pure ?_))
  show wpAny _ _ (Builtin.Itertools.itPoolItems (.ref P) >>= _) _ _ _
  refine wpAny_bind ?_
  unfold Builtin.Itertools.itPoolItems
  refine wpAny_bind (wpAny_seqItems e1 e3 (wpAny_pure ?_))
  split
  · rename_i nx heq
    have q : stepC items.size ix = some nx := (stepC_eq _ _).trans heq
    rw [q] at hc
    cases hc
  · refine wpAny_bind (wpAny_setField hit rfl (by simp) ?_)
    show wpAny _ A.in1 (newExc (.type "StopIteration") [] >>= _) _ _ _; refine wpAny_bind ?_; simp only [newExc, newTuple]
    refine wpAny_bind (wpAny_newObj_type (wpAny_bind (m := firstArgMember _ _) (wpAny_of_eq (a := Value.none) (by first | rfl | (simp only [firstArgMember]; rfl)) (wpAny_newObj_type ?_ (by size_fits)))) (by size_fits))
    simp only [raiseNew]; refine wpAny_bind (wpAny_handled ?_); rw [show A.in1.handled = none from hh]
    refine wpAny_bind (wpAny_pure (wpAny_throw ?_)); refine wpAny_bind (wpAny_isInstance (T := "StopIteration") (b := true) ⟨_, Heap.get?_push_size _ rfl, rfl⟩ isSubtype_stop ?_)
    exact wpAny_pure (h _ fun b o hb e => Heap.get?_push_of_some _ (Heap.get?_push_of_some _ ((Heap.get?_update_other _ _ hb.symm).trans e)))
theorem iter_self {it P : Addr} {st : Int} {last : Value} {ix : List Nat} {Q : Value → Shared → Prop} (hit : CmbAt s.heap it P st last ix) (h : Q (.ref it) s) : wpAny (model prog w) A (pyIter (.ref it)) Q E s := by
  have hT : s.TypeIs (.ref it) "itertools.combinations" := ⟨_, hit, rfl⟩
  refine wpAny_pyIter_slot hT iter_cmb (wpAny_call_entry iter_cmb hT entry_cmb_iter ?_ (args_cmb_iter _))
  show wpAny _ A.in1 (ret (.ref it)) _ _ s
  exact wpAny_pure ⟨_, rfl, "itertools.combinations", _, hT, next_cmb.lookup, h⟩
theorem meets_new {l : Addr} {o : Obj} {items : Array Value} {ep : Nat} {r : Nat} {t : Tok} (hc : o.cls = .type "list") (hd : o.data = .seq items ep) (hsz : items.size ≤ 1000) (hr : r ≤ items.size) :
    Meets (Builtin.«itertools.combinations.__new__» ⟨[.type "itertools.combinations", .ref l, .int (r : Nat) t], []⟩) (fun _ R s => s.heap.get? l = some o ∧ ∀ h1 h' : Heap, (∀ b o', s.heap.get? b = some o' → h1.get? b = some o') → (∀ b o', h1.get? b = some o' → h'.get? b = some o') →
      h'.IsTuple h1.objs.size items → CmbAt h' (h1.objs.size + 1) h1.objs.size 0 .none (List.range r) → R (.ok (.ret (.ref (h1.objs.size + 1)))) { s with heap := h' }) := fun prog w A R s ⟨ho, h⟩ =>
  new_run ho hc hd hsz hr h
theorem call_comb {l : Addr} {o : Obj} {items : Array Value} {ep : Nat} {r : Nat} {t : Tok} {Q : Value → Shared → Prop} (ho : s.heap.get? l = some o) (hc : o.cls = .type "list") (hd : o.data = .seq items ep) (hsz : items.size ≤ 1000) (hr : r ≤ items.size)
    (h : ∀ h1 h' : Heap, (∀ b o', s.heap.get? b = some o' → h1.get? b = some o') → (∀ b o', h1.get? b = some o' → h'.get? b = some o') → h'.IsTuple h1.objs.size items → CmbAt h' (h1.objs.size + 1) h1.objs.size 0 .none (List.range r) → Q (.ref (h1.objs.size + 1)) { s with heap := h' }) :
    wpAny (model prog w) A (call (.type "itertools.combinations") [.ref l, .int (r : Nat) t]) Q E s := by
  refine callType_new called_cmb (by decide +kernel) (typeCall_cmb _ _) (newCall_cmb _ _) (fun obj => F.args_object_init_3 obj _ _) entry_cmb_new (meets_new (t := t) hc hd hsz hr) ⟨ho, fun h1 h' k1 k2 p c => ?_⟩
  show _ ∧ _
  exact ⟨⟨_, c, rfl⟩, h h1 h' k1 k2 p c⟩
end
open PyProof.Rows L2
/-! ### the turns -/
/-- the indices in order, each the next of the one before -/
def Chain (n : Nat) (L : List (List Nat)) : Prop := (∀ i x y, L[i]? = some x → L[i + 1]? = some y → stepC n x = some y) ∧ (∀ x, L[L.length - 1]? = some x → stepC n x = none) ∧ L ≠ [] ∧ ∀ x ∈ L, x.length ≤ 1000
/-- combinations of the items xs: those that L tells -/
def Itm (xs : List V) (L : List (List Nat)) : It :=
  ⟨fun i _ => i < L.length, fun i H v H' => ∃ T ix, v = .ref T ∧ H T = none ∧ L[i]? = some ix ∧ H' = upd H T (.tup (ix.map fun k => xs.getD k .non)), fun i _ => L.length ≤ i⟩
theorem vals_pick {xs : List V} {its : List Value} (r : Vals xs its) (ix : List Nat) : Vals (ix.map fun k => xs.getD k .non) (pickV its.toArray ix) := by
  unfold pickV
  induction ix with
  | nil => exact .nil
  | cons k ix ih =>
    refine .cons ?_ ih
    show L2.RelV (xs.getD k .non) (its.toArray.getD k .none)
    by_cases hk : k < xs.length
    · obtain ⟨u, hu, ru⟩ := r.get (List.getElem?_eq_getElem hk)
      have e1 : xs.getD k .non = xs[k] := by simp [List.getD, List.getElem?_eq_getElem hk]
      have e2 : its.toArray.getD k .none = u := by simp [hu]
      rw [e1, e2]
      exact ru
    · have hl := r.length
      have e1 : xs.getD k .non = .non := by simp [List.getD, List.getElem?_eq_none (Nat.le_of_not_lt hk)]
      have e2 : its.toArray.getD k .none = .none := by simp [List.getElem?_eq_none (show its.length ≤ k by omega)]
      rw [e1, e2]
      rfl
theorem turn_comb {P : Program} {w : World} {K : PySem.W.Frag} {tg : Expr} {xs : List V} {its : List Value} {L : List (List Nat)} {it PP : Addr} (hv : Vals xs its) (hL : Chain xs.length L) (hne : it ≠ PP) :
    Turn P w K tg (Itm xs L) [it, PP] it (fun i h => h.IsTuple PP its.toArray ∧ ∃ last, CmbAt h it PP (if i = 0 then 0 else 1) last (L.getD (i - 1) [])) where
  mem := by simp
  obj := fun i h st b hb => by
    obtain ⟨⟨o, e, c, n, d⟩, last, hc⟩ := st
    rcases List.mem_cons.1 hb with rfl | hb
    · exact ⟨_, hc, fun v z => nomatch z⟩
    · rw [List.mem_singleton.1 hb]
      exact ⟨o, e, fun u z => by rw [d] at z; exact nomatch z⟩
  keep := fun i h h' st k => by
    obtain ⟨⟨o, e, c, n, d⟩, last, hc⟩ := st
    exact ⟨⟨o, k PP (by simp) _ e, c, n, d⟩, last, k it (by simp) _ hc⟩
  item := by
    intro X eP ew eK hc i pins s σ H E I hf st hg
    subst eP ew eK
    obtain ⟨hp, last, hit⟩ := st
    have hlt : i < L.length := hg
    obtain ⟨h1, h2, h3, h4⟩ := hL
    have hi : L[i]? = some L[i] := List.getElem?_eq_getElem hlt
    have hsz : its.toArray.size = xs.length := by simp [hv.length]
    have hstep : ((if i = 0 then (0 : Int) else 1) = 0 ∧ L[i] = L.getD (i - 1) []) ∨ ((if i = 0 then (0 : Int) else 1) = 1 ∧ stepC its.toArray.size (L.getD (i - 1) []) = some L[i]) := by
      by_cases hz : i = 0
      · subst hz
        exact .inl ⟨rfl, by simp [List.getD, hi]⟩
      · refine .inr ⟨by rw [if_neg hz], ?_⟩
        have hj : L[i - 1]? = some (L[i - 1]'(by omega)) := List.getElem?_eq_getElem (by omega)
        rw [hsz]
        have e : L.getD (i - 1) [] = L[i - 1]'(by omega) := by simp [List.getD, hj]
        rw [e]
        refine h1 (i - 1) _ _ hj ?_
        rw [show i - 1 + 1 = i by omega]
        exact hi
    have hl1 : (L.getD (i - 1) []).length ≤ 1000 := by
      have hj : L[i - 1]? = some (L[i - 1]'(by omega)) := List.getElem?_eq_getElem (by omega)
      have e : L.getD (i - 1) [] = L[i - 1]'(by omega) := by simp [List.getD, hj]
      rw [e]
      exact h4 _ (List.getElem_mem _)
    refine handed hit hp hne hl1 L[i] (h4 _ (List.getElem_mem _)) hstep fun h' a b k => ?_
    have ltI : it < s.heap.objs.size := Heap.lt_size hit
    have hz2 : (L[i].map fun k => xs.getD k .non).length ≤ sizeLine := by
      have := h4 L[i] (List.getElem_mem _)
      rw [List.length_map]
      unfold sizeLine
      omega
    have new : ObjOk X.prog X.w (upd H s.heap.objs.size (.tup (L[i].map fun k => xs.getD k .non))) h' s.heap.objs.size (.tup (L[i].map fun k => xs.getD k .non)) :=
      ⟨hz2, _, vals_pick hv _, ⟨_, b, rfl, _, rfl⟩⟩
    have I1 : Inv X pins σ (upd H s.heap.objs.size (.tup (L[i].map fun k => xs.getD k .non))) { s with heap := h' } :=
      I.turnedNew (t' := s.toks) (ch := [it, PP]) (fun c o hb q => k c o (fun q' => hb (by simp [q'])) q) hf (Nat.le_refl _) new
    obtain ⟨o, e1, e2, n, e3⟩ := id hp
    refine ⟨_, rfl, go_of (s := { s with heap := h' }) (n := "itertools.combinations") a rfl rfl (by decide) ⟨.ref s.heap.objs.size, _, I1, rfl, ⟨_, _, rfl, I.hok.fresh (Nat.le_refl _), hi, rfl⟩, ⟨⟨o, k _ _ hne.symm e1, e2, n, e3⟩, .ref s.heap.objs.size, ?_⟩, fun c hcm => ?_⟩⟩
    · have e : L.getD (i + 1 - 1) [] = L[i] := by simp [List.getD, hi]
      rw [e, if_neg (by omega)]
      exact a
    · have hlt2 : c < s.heap.objs.size := by
        rcases List.mem_cons.1 hcm with rfl | hcm
        · exact ltI
        · rw [List.mem_singleton.1 hcm]; exact Heap.lt_size e1
      rw [upd_ne (Nat.ne_of_lt hlt2)]
      exact (hf c hcm).1
  done := by
    intro X eP ew eK hc i pins s σ H E I hf st hg
    subst eP ew eK
    obtain ⟨hp, last, hit⟩ := st
    have hge : L.length ≤ i := hg
    obtain ⟨h1, h2, h3, h4⟩ := hL
    have h0 : 0 < L.length := List.length_pos_iff.mpr h3
    have hsz : its.toArray.size = xs.length := by simp [hv.length]
    rw [if_neg (by omega)] at hit
    have hstep : stepC its.toArray.size (L.getD (i - 1) []) = none := by
      by_cases hi : i = L.length
      · subst hi
        have hj : L[L.length - 1]? = some (L[L.length - 1]'(by omega)) := List.getElem?_eq_getElem (by omega)
        have e : L.getD (L.length - 1) [] = L[L.length - 1]'(by omega) := by simp [List.getD, hj]
        rw [e, hsz]
        exact h2 _ hj
      · have e : L.getD (i - 1) [] = [] := by simp [List.getD, List.getElem?_eq_none (show L.length ≤ i - 1 by omega)]
        rw [e]
        rfl
    obtain ⟨f0, f1, _, f3, f4, f5⟩ := hf it List.mem_cons_self
    exact ended (I.ok.hd hc) hit hp hstep fun h' k => ⟨rfl, I.turned (t' := s.toks) (fun b o hb e => k b o hb e) f0 f1 f3 f4 f5⟩
  self := fun A i s Q E st h => iter_self st.2.choose_spec h
end NLC
namespace NL
open PySem PySem.Spec PyProof.Rows L2 NLC
/-! ### combinations as data -/
def iComb (K : PySem.W.Frag) (ta : TA) : TI := fun σ H R => ta σ H fun vs H1 => ∃ (a : Addr) (xs : List V) (r : Nat) (L : List (List Nat)), vs = [.ref a, .int r] ∧ SqL K H1 a xs ∧ xs.length ≤ 1000 ∧ r ≤ xs.length ∧ Chain xs.length L ∧ L.getD 0 [] = List.range r ∧ R (Itm xs L) H1
theorem pi_comb {X : Cx} {tg e e2 : Expr} {ta : TA} {p pos : Pos} (hg : Gl X "combinations") (hm : X.mg "combinations" = some (.type "itertools.combinations")) (ha : PA X [e, e2] ta)
    (hs : Arg1 X e [e2] := by rfl) (hpl : NoSt X pos [e2] := by rfl) : PI X tg (.Call (.Name "combinations" p) [e, e2] [] pos) (iComb X.K ta) := by
  refine PI.mk fun pins s σ H R I h => ?_
  refine Call_ (ld_glob I hg hm (PyProof.Rows.callWith_type1 (thn (ha.run pos pins s σ H _ I h) fun us s1 ⟨vs, H1, I1, r1, q1⟩ => ?_) hs hpl))
  obtain ⟨a, xs, r, L, ex, hq, hx, hr, hL, h0, q⟩ := q1
  subst ex
  cases r1 with
  | cons r1 rr =>
    cases rr with
    | cons r2 rr =>
      cases rr
      cases r1
      obtain ⟨t, rfl⟩ := r2
      obtain ⟨its, rv, pl, _⟩ := I1.list hq
      obtain ⟨o, n, e1, e2, _, e4⟩ := id pl
      have hsz : its.toArray.size = xs.length := by simp [rv.length]
      refine call_comb (t := t) e1 e2 e4 (by omega) (by omega) fun h1 h' k1 k2 p c => iter_self c ?_
      have J1 : Inv X pins σ H1 { s1 with heap := h1 } := I1.kept (t' := s1.toks) k1
      have J2 : Inv X pins σ H1 { s1 with heap := h' } := J1.kept (t' := s1.toks) k2
      refine ⟨h1.objs.size + 1, [h1.objs.size + 1, h1.objs.size], _, _, H1, rfl, J2, turn_comb rv hL (Nat.succ_ne_self _), ⟨p, .none, ?_⟩, fun b hb => ?_, q⟩
      · show CmbAt h' _ _ 0 _ (L.getD 0 [])
        rw [h0]
        exact c
      · have hle : h1.objs.size ≤ b := by
          rcases List.mem_cons.1 hb with rfl | hb
          · exact Nat.le_succ _
          · rw [List.mem_singleton.1 hb]; exact Nat.le_refl _
        exact J1.fpOk hle (J1.hok.fresh hle)
def chainL (n : Nat) : Nat → List Nat → List (List Nat)
  | 0, ix => [ix]
  | f + 1, ix => match stepC n ix with
    | some y => ix :: chainL n f y
    | none => [ix]
/-- the indices of all choices of r of n -/
def combIx (n r : Nat) : List (List Nat) := chainL n 200 (List.range r)
def chainB (n : Nat) (L : List (List Nat)) : Bool := (L.all fun x => decide (x.length ≤ 1000)) && (List.range L.length).all fun i => decide (stepC n (L.getD i []) = L[i + 1]?)
theorem chainL_ne {n f : Nat} {ix : List Nat} : chainL n f ix ≠ [] ∧ (chainL n f ix).getD 0 [] = ix := by
  cases f with
  | zero => exact ⟨List.cons_ne_nil _ _, rfl⟩
  | succ f =>
    unfold chainL
    split
    · exact ⟨List.cons_ne_nil _ _, rfl⟩
    · exact ⟨List.cons_ne_nil _ _, rfl⟩
theorem chain_of {n : Nat} {L : List (List Nat)} (h : chainB n L = true) (hn : L ≠ []) : Chain n L := by
  unfold chainB at h
  rw [Bool.and_eq_true, List.all_eq_true, List.all_eq_true] at h
  obtain ⟨h1, h2⟩ := h
  have at_ : ∀ i x, L[i]? = some x → stepC n x = L[i + 1]? := fun i x hx => by
    have hi : i < L.length := (List.getElem?_eq_some_iff.mp hx).1
    have := of_decide_eq_true (h2 i (List.mem_range.mpr hi))
    rw [show L.getD i [] = x by simp [List.getD, hx]] at this
    exact this
  refine ⟨fun i x y hx hy => (at_ i x hx).trans hy, fun x hx => ?_, hn, fun x hx => of_decide_eq_true (h1 x hx)⟩
  have hp : 0 < L.length := List.length_pos_iff.mpr hn
  rw [at_ _ x hx, List.getElem?_eq_none (by omega)]
def combM (f g : M Da) : M (List Da) := fun ρ S => (f ρ S).bind fun d S1 => (g ρ S1).bind fun e S2 => match d, e with
  | .lst l, .int r => if 0 ≤ r ∧ r.toNat ≤ l.length ∧ l.length ≤ 1000 ∧ chainB l.length (combIx l.length r.toNat) = true then .ok ((combIx l.length r.toNat).map fun ix => .tup (ix.map fun k => l.getD k .non)) S2 else .bad
  | _, _ => .bad
section
variable {X : Cx} {G : Gc} {Wx : WX}
theorem reps_pick {W : Wd} {l : List Da} {vs : List V} (r : Reps G W l vs) (ix : List Nat) : Reps G W (ix.map fun k => l.getD k .non) (ix.map fun k => vs.getD k .non) := by
  induction ix with
  | nil => exact .nil
  | cons k ix ih =>
    refine .cons ?_ ih
    have hl := r.length
    show Rep G W (l.getD k .non) (vs.getD k .non)
    by_cases hk : k < vs.length
    · obtain ⟨d, hd, rd⟩ := r.getV (List.getElem?_eq_getElem hk)
      have e1 : l.getD k .non = d := by simp [List.getD, hd]
      have e2 : vs.getD k .non = vs[k] := by simp [List.getD, List.getElem?_eq_getElem hk]
      rw [e1, e2]
      exact rd
    · have e1 : l.getD k .non = .non := by simp [List.getD, List.getElem?_eq_none (show l.length ≤ k by omega)]
      have e2 : vs.getD k .non = .non := by simp [List.getD, List.getElem?_eq_none (show vs.length ≤ k by omega)]
      rw [e1, e2]
      exact repN W
theorem itd_comb {W0 : Wd} {l : List Da} {vs : List V} {L : List (List Nat)} (r : Reps G W0 l vs) : ItD G W0 (Itm vs L) (L.map fun ix => .tup (ix.map fun k => l.getD k .non)) := by
  refine ⟨fun i W H S hi le s => by rw [List.length_map] at hi; exact hi, fun W H S le s => by show L.length ≤ _; rw [List.length_map]; exact Nat.le_refl _, fun i W H S x H' hi le s y => ?_⟩
  obtain ⟨T, ix, rfl, hT, hix, rfl⟩ := y
  obtain ⟨x1, s1⟩ := Ext.frz s (o := .tup (ix.map fun k => vs.getD k .non)) hT
  exact ⟨_, _, by rw [List.getElem?_map, hix]; rfl, x1, s1, RV.tup frz_same ((reps_pick r ix).mono (le.trans x1.le))⟩
theorem pid_comb {tg e e2 : Expr} {f g : M Da} {p pos : Pos} (hm : X.mg "combinations" = some (.type "itertools.combinations")) (he : PE X e (tM G Wx f)) (he2 : PE X e2 (tM G Wx g)) (hg : Gl X "combinations" := by rfl)
    (hs : starEach [e, e2] X.env = (false, eval e X.env) :: starEach [e2] X.env := by rfl) (hs2 : starEach [e2] X.env = (false, eval e2 X.env) :: starEach [] X.env := by rfl) (hpl : (backTo pos (starEach [e2] X.env)).any (·.1) = false := by rfl) (hK : G.K = X.K := by rfl) :
    PI X tg (.Call (.Name "combinations" p) [e, e2] [] pos) (tI G Wx (combM f g)) :=
  (pi_comb hg hm (pa_cons he (pa_cons he2 pa_nil hs2) hs) hs hpl).imp fun σ H R ⟨W, S, ρ, s, r, q⟩ => ⟨W, S, ρ, s, r, q.bind fun d S1 v W1 H1 x1 s1 q1 k1 => ⟨W1, S1, ρ, s1, r.mono x1.le, k1.bind fun d2 S2 u W2 H2 x2 s2 q2 k2 => by
    cases d with
    | lst l =>
      cases d2 with
      | int j =>
        obtain ⟨a, vs, rfl, ha, ra⟩ := (q1.mono x2.le).lst_inv
        cases q2.int_inv
        rw [hK] at ha
        have k2 : AftI G Wx σ W2 H2 (if 0 ≤ j ∧ j.toNat ≤ l.length ∧ l.length ≤ 1000 ∧ chainB l.length (combIx l.length j.toNat) = true then .ok ((combIx l.length j.toNat).map fun ix => .tup (ix.map fun k => l.getD k .non)) S2 else .bad) R := k2
        by_cases hc : 0 ≤ j ∧ j.toNat ≤ l.length ∧ l.length ≤ 1000 ∧ chainB l.length (combIx l.length j.toNat) = true
        · rw [if_pos hc] at k2
          obtain ⟨c1, c2, c3, c4⟩ := hc
          have hl := ra.length
          rw [hl] at c2 c3 c4 k2
          exact ⟨a, vs, j.toNat, combIx vs.length j.toNat, by rw [Int.toNat_of_nonneg c1], s2.sqL ha, c3, c2, chain_of c4 chainL_ne.1, chainL_ne.2, k2.here s2 (itd_comb ra)⟩
        · rw [if_neg hc] at k2
          exact k2.elim
      | _ => exact k2.elim
    | _ => exact k2.elim⟩⟩
end
end NL
namespace NL
open PySem PySem.Spec PyProof.Rows L2
/-! ### a cell grown by a fresh list -/
def extM (fo : M Da) (f : M (List Da)) : M Da := fun ρ S => (fo ρ S).bind fun d S1 => match cellL S1 d with
  | some _ => (f ρ S1).bind fun ys S2 => match cellL S2 d with
    | some (j, l) => if l.length + ys.length ≤ big then .ok .non (S2.set j (.lst (l ++ ys))) else .bad
    | none => .bad
  | none => .bad
section
variable {X : Cx} {G : Gc} {Wx : WX} {o e : Expr} {fo : M Da} {f : M (List Da)}
theorem pd_ext {apos cpos : Pos} (ho : PE X o (tM G Wx fo)) (he : PE X e (tF G Wx f))
    (hbase : attributeBase o "extend" X.env (eval o X.env) = eval o X.env := by rfl)
    (hfew : ((backTo cpos (starEach [e] X.env)).all (fun x => !x.1) && (backToKw cpos (keywordEach [] X.env)).all (fun x => x.1.isSome) && decide ([e].length + ([] : List Keyword).length + (if ([] : List Keyword).isEmpty then 0 else 1) < 30)) = true := by rfl) (hline : (apos.endLine == cpos.line) = true := by rfl) (hs : starEach [e] X.env = (false, eval e X.env) :: starEach [] X.env := by rfl) (hplain : (backTo cpos (starEach [] X.env)).any (·.1) = false := by rfl) :
    PE X (.Call (.Attribute o "extend" apos) [e] [] cpos) (tM G Wx (extM fo f)) :=
  (pe_bm PySem.F.plainAttrs_list PySem.F.slot_list_extend PySem.F.type_list_extend mt_extend ho (pa_cons he pa_nil hs) hbase hfew hline hs hplain).imp fun σ H Q ⟨W, S, ρ, s, r, q⟩ => ⟨W, S, ρ, s, r, q.bind fun d S1 v W1 H1 x1 s1 q1 k1 => by
    cases e1 : cellL S1 d with
    | none => simp only [e1] at k1; exact k1.elim
    | some jl =>
      obtain ⟨j, l⟩ := jl
      simp only [e1] at k1
      obtain ⟨a, vs, rfl, _, h1, _⟩ := s1.cellL q1 e1
      refine ⟨.inl ⟨rfl, vs, .of h1⟩, W1, S1, ρ, s1, r.mono x1.le, ?_⟩
      cases ef : f ρ S1 with
      | bad => rw [ef] at k1; exact k1.elim
      | exc c d S2 => rw [ef] at k1; exact k1
      | ok ys S2 =>
        rw [ef] at k1
        intro p zs W2 H2 x2 s2 rz hp _ _ _
        simp only [Res.bind] at k1
        cases e2 : cellL S2 d with
        | none => simp only [e2] at k1; exact k1.elim
        | some jl2 =>
          obtain ⟨j2, l2⟩ := jl2
          simp only [e2] at k1
          by_cases hl : l2.length + ys.length ≤ big
          · rw [if_pos hl] at k1
            obtain ⟨a2, vs2, ea, ha2, h2, h3⟩ := s2.cellL (q1.mono x2.le) e2
            cases ea
            obtain ⟨s3, x3⟩ := s2.write (c := .lst (l2 ++ ys)) ha2 ⟨_, upd_same, h3.append rz⟩
            exact ⟨a, p, vs2, zs, rfl, rfl, h2, hp, by rw [← h3.length, ← rz.length, ← big_eq]; exact hl, k1 _ _ _ (x2.trans x3) s3 (repN _)⟩
          · rw [if_neg hl] at k1
            exact k1.elim⟩
end
end NL

set_option Elab.async false
set_option linter.all false
set_option autoImplicit false
set_option maxRecDepth 100000
set_option maxHeartbeats 4100000
namespace NL
open PySem PySem.Spec PyProof.Rows L2
/-! ### calls with keywords alone -/
/-- the keywords ks in the parameters' order bind the rest -/
def KwB (K : PySem.W.Frag) (fd : FuncData) (ps ks : List Str) : Prop :=
  ∀ (s : Shared) (us ws : List Value), K.In s.heap → us.length + ws.length = ps.length → ws.length = ks.length → BindsTo s fd ⟨us, ks.zip ws⟩ (ps.zip (us ++ ws))
theorem kwb_of {K : PySem.W.Frag} {x qual : Str} {st : Stmt} {f : Addr} {fd : FuncData} {ps ks : List Str} (n : Nat) (hn : n + ks.length = ps.length) (F : Fun K x qual st f fd)
    (h : ∀ (kV doc pm : Value) (an : Option Addr) (cdv ct : Value) (us ws : List Value), us.length = n → ws.length = ks.length →
      bindArgs (PySem.W.fnOf x qual (defArgs st) (defBody st) (defScope st) .none kV doc pm an cdv ct) ⟨us, ks.zip ws⟩ = pure (ps.zip (us ++ ws))) : KwB K fd ps ks := by
  obtain ⟨_, _, kV, doc, pm, an, cdv, ct, _, rfl, _, _⟩ := F.ex
  exact fun s us ws _ h1 h2 => .of_eq (h kV doc pm an cdv ct us ws (by omega) h2)
section
variable {X : Cx} {k : Nat} {f C : Addr} {fd : FuncData} {ps ks : List Str} {sp : Sp} {E : L2.St → XK} {x m : Str} {p pos apos : Pos} {e o : Expr} {kws : List Keyword} {ta : TE} {tk : TA}
theorem ranK {pins : List (Addr × Obj)} {σ : L2.St} {H : Hp} {s : Shared} {Q : VK} {us ws : List Value} {vs zs : List V} (F : FnG X.prog X.w X.K X.mg X.base k f fd ps sp) (hr : RoomG k X.A) (hb : KwB X.K fd ps ks) (hx : PassesAt (L2.CX X.prog X.w) X σ (E σ))
    (I : Inv X pins σ H s) (r : Vals vs us) (rz : Vals zs ws) (l2 : zs.length = ks.length) (h : sp (vs ++ zs) H Q (E σ)) :
    wpAny (model X.prog X.w) X.A (call (.ref f) us (ks.zip ws)) (EP X pins σ Q) X.xe s := by
  have rr := r.append rz
  have b := hb s us ws I.kIn (by rw [← List.length_append, ← rr.length]; exact F.len _ _ _ _ h) (rz.length.symm.trans l2)
  refine wpAny_call (codeAny_mono (F.run hr I.env0 b rr h) ?_)
  rintro (er | fl) s2 hq
  · exact hx pins H s er s2 I hq
  · cases fl with
    | ret u => exact I.after hq
    | _ => exact hq.elim
abbrev KwAll (X : Cx) (pos : Pos) (kws : List Keyword) (ks : List Str) : Prop := (backToKw pos (keywordEach kws X.env)).all (·.1.isSome) = true ∧ (backToKw pos (keywordEach kws X.env)).filterMap (·.1) = ks ∧ ((backTo pos (starEach [] X.env)).any (·.1) || (backToKw pos (keywordEach kws X.env)).any (·.1.isNone)) = false
theorem peg_makeK (M : Mk X.K C f) (F : FnG X.prog X.w X.K X.mg X.base k f fd ps sp) (hr : RoomG (k + 1) X.A) (hg : Gl X x) (hm : X.mg x = some (.ref C)) (hb : KwB X.K fd ps ks) (hx : ∀ σ, PassesAt (L2.CX X.prog X.w) X σ (E σ))
    (ha : PK X kws tk) (hk : KwAll X pos kws ks) (hdb : (x == ("__debug__" : Str)) = false) : PE X (.Call (.Name x p) [] kws pos) (tMakeS C sp E fun σ H Q => tk σ H fun zs H1 => zs.length = ks.length ∧ Q zs H1) :=
  ⟨fun pins s σ H Q I h => wpAny_Call_Name_kw (ld_glob I hg hm (PySem.W.callWith_KW0 (h₀ := X.base) I.ok.mod.kin M.kp hk.1 (thn (ha.run pos pins s σ H _ I h) fun us s1 ⟨vs, H1, J, r, hl, q⟩ => ⟨J.kIn, by
    rw [hk.2.1]
    generalize hn : s1.heap.objs.size = n
    have q1 := q (n + 1) n (hn ▸ J.hok.fresh (Nat.le_succ _)) (hn ▸ J.hok.fresh (Nat.le_refl _)) (Nat.ne_of_lt (Nat.lt_succ_self _))
    subst hn
    have J2 := Inv.made (C := C) J
    have r0 : Vals [V.ref (s1.heap.objs.size + 1)] [Value.ref (s1.heap.objs.size + 1)] := .cons rfl .nil
    have rs : Vals ([V.ref (s1.heap.objs.size + 1)] ++ vs) ([Value.ref (s1.heap.objs.size + 1)] ++ us) := r0.append r
    have b := hb _ [Value.ref (s1.heap.objs.size + 1)] us J2.kIn (by rw [← List.length_append, ← rs.length]; exact F.len _ _ _ _ q1) (r.length.symm.trans hl)
    refine wpAny_call (make_map (f := f) J.kIn M.makes M.init (beq_iff_eq.mp M.fn) (codeAny_mono (F.run (hr.makingK C [] (ks.zip us)) (J2.env0.make C [] (ks.zip us)) b rs q1) ?_))
    rintro (er | fl) s2 hq
    · exact hx σ pins _ _ er s2 J2 hq
    · cases fl with
      | ret u =>
        obtain ⟨v, H3, J3, rv, ev, q3⟩ := J2.after hq
        subst ev
        exact ⟨rv, .ref (s1.heap.objs.size + 1), H3, J3, rfl, q3⟩
      | _ => exact hq.elim⟩) hk.2.2) hdb)⟩
abbrev MethEqK (X : Cx) (o : Expr) (m : Str) (apos pos : Pos) (kws : List Keyword) (pl : Sem Bool) : Prop :=
  eval (.Call (.Attribute o m apos) [] kws pos) X.env = (do let ov ← eval o X.env; standAt apos.atName; let (f, first) ← holding [ov] (getMethod ov m pl); callWith pos f first (backTo pos (starEach [] X.env)) (backToKw pos (keywordEach kws X.env)))
theorem peg_methK {pl : Sem Bool} (he : PE X o ta) (c : Cls X.K C) (hm : Meth X.K C m f) (F : FnG X.prog X.w X.K X.mg X.base k f fd ps sp) (hr : RoomG k X.A) (hb : KwB X.K fd ps ks) (hx : ∀ σ, PassesAt (L2.CX X.prog X.w) X σ (E σ)) (ha : PK X kws tk)
    (hk : KwAll X pos kws ks) (ht : MethEqK X o m apos pos kws pl) : PE X (.Call (.Attribute o m apos) [] kws pos) (tMethS C m sp E ta fun σ H Q => tk σ H fun zs H1 => zs.length = ks.length ∧ Q zs H1) :=
  ⟨fun pins s σ H Q I h => PySem.W.methodCall_KW (pl := pl) (thn (he.run pins s σ H _ I h) fun u s1 ⟨y, H1, J, ry, a, dx, fs, ey, ea, l, q⟩ => by
    subst ey
    cases ry
    exact getmeth_ok J ea c hm l (PySem.W.callWith_KW0 (first := [.ref a]) (h₀ := X.base) J.ok.mod.kin hm.kp hk.1 (thn (ha.run pos pins s1 σ H1 _ J q) fun us _ ⟨vs, _, J2, r, hl, q2⟩ => ⟨J2.kIn, by
      rw [hk.2.1]
      exact ranK (us := [.ref a]) (vs := [.ref a]) F hr hb (hx σ) J2 (.cons rfl .nil) r hl q2⟩) hk.2.2)) ht⟩
end
section
variable {X : Cx} {G : Gc} {Wx : WX} {k n : Nat} {f : Addr} {fd : FuncData} {ps ks : List Str} {x m c : Str} {p pos apos kpos : Pos} {e o : Expr} {kws : List Keyword} {fo fe : M Da} {t : M (List Da)} {mf : Mf} {nm : Option Str}
theorem PK.imp {kws : List Keyword} {t t' : TA} (h : PK X kws t) (k : ∀ σ H Q, t' σ H Q → t σ H Q) : PK X kws t' := ⟨fun pos pins s σ H Q I q => h.run pos pins s σ H Q I (k σ H Q q)⟩
theorem pkd_nil : PK X [] (tMs G Wx nilM) := PK.imp pk_nil fun σ H Q h => tR_c (R := RVs G) h fun W => .nil
theorem pkd_cons (he : PE X e (tM G Wx fe)) (hr : PK X kws (tMs G Wx t)) : PK X (⟨nm, e, kpos⟩ :: kws) (tMs G Wx (consM fe t)) :=
  PK.imp (pk_cons he hr) fun σ H Q ⟨W, S, ρ, s, r, q⟩ => ⟨W, S, ρ, s, r, q.bind fun a S1 v W1 H1 x1 s1 q1 k1 => ⟨W1, S1, ρ, s1, r.mono x1.le, k1.bind fun l S2 vs W2 H2 x2 s2 q2 k2 => k2.here s2 (.cons (q1.mono x2.le) q2)⟩⟩
structure MakeOkK (P : Program) (w : World) (K : PySem.W.Frag) (mg : Str → Option Value) (base : Heap) (G : Gc) (c : Str) (k n : Nat) (mf : Mf) (ks : List Str) : Prop where
  ex : ∃ f fd ps, FnG P w K mg base k f fd ps (spM G n mf) ∧ Mk K (G.cls c) f ∧ mg c = some (.ref (G.cls c)) ∧ KwB K fd ps ks
structure MethOkK (P : Program) (w : World) (K : PySem.W.Frag) (mg : Str → Option Value) (base : Heap) (G : Gc) (c m : Str) (k n : Nat) (mf : Mf) (ks : List Str) : Prop where
  ex : ∃ f fd ps, FnG P w K mg base k f fd ps (spM G n mf) ∧ Cls K (G.cls c) ∧ Meth K (G.cls c) m f ∧ KwB K fd ps ks
theorem pdk_make (C : MakeOkK X.prog X.w X.K X.mg X.base G c k n mf ks) (hr : RoomG (k + 1) X.A) (tk : Takes X Wx) (hn : ks.length + 1 = n) (ha : PK X kws (tMs G Wx t)) (hk : KwAll X pos kws ks := by exact ⟨rfl, rfl, rfl⟩) (hg : Gl X c := by rfl) (hdb : (c == ("__debug__" : Str)) = false := by decide) :
    PE X (.Call (.Name c p) [] kws pos) (tM G Wx (makeF c n mf t)) := by
  obtain ⟨f, fd, ps, F, M, hm, hb⟩ := C.ex
  refine (peg_makeK (E := WE Wx) M F hr hg hm hb (fun σ => passAt tk σ) ha hk hdb).imp fun σ H Q ⟨W, S, ρ, s, r, q⟩ => ⟨W, S, ρ, s, r, q.bind fun ds S1 vs W1 H1 x1 s1 q1 k1 => ?_⟩
  by_cases hl : ds.length + 1 = n
  · rw [if_pos hl] at k1
    refine ⟨by rw [← q1.length]; omega, fun x dx hx hd hne => ?_⟩
    obtain ⟨y1, t1⟩ := Ext.add s1 (o := .own x) hd
    have hx2 : upd H1 dx (.own x) x = none := by rw [upd_ne (Ne.symm hne)]; exact hx
    obtain ⟨y2, t2⟩ := Ext.add t1 (o := .ins (G.cls c) dx []) hx2
    obtain ⟨y3, t3⟩ := Ext.cel (c := .obj c []) t2 (y1.trans y2) hx ⟨dx, [], upd_same, .nil⟩ (t1.notin hx2) (t1.Fnone hx2)
    have hcell : Rep G (W1.cel x) (.cell S1.length) (.ref x) := by
      rw [Rep]
      refine ⟨x, ?_, rfl⟩
      show (W1.ι ++ [x])[S1.length]? = some x
      rw [← s1.len, List.getElem?_append_right (Nat.le_refl _), Nat.sub_self]; rfl
    refine ⟨by rw [← hl]; simp [q1.length], W1.cel x, _, .cell S1.length :: ds, t3, .cons hcell (q1.mono y3.le), ?_⟩
    have k2 := k1.later y3
    refine (Aft.bind (R := RV G) k2 fun r S2 v W2 H2 x2 s2 q2 k3 => ?_).fn
    cases r with
    | non => exact ⟨q2.non_inv, k3.here s2 (hcell.mono x2.le)⟩
    | _ => exact k3.elim
  · rw [if_neg hl] at k1; exact k1.elim
theorem pdk_meth {pl : Sem Bool} (C : MethOkK X.prog X.w X.K X.mg X.base G c m k n mf ks) (hr : RoomG k X.A) (tk : Takes X Wx) (hn : ks.length + 1 = n) (he : PE X o (tM G Wx fo)) (ha : PK X kws (tMs G Wx t)) (hk : KwAll X pos kws ks := by exact ⟨rfl, rfl, rfl⟩)
    (ht : MethEqK X o m apos pos kws pl := by rfl) :
    PE X (.Call (.Attribute o m apos) [] kws pos) (tM G Wx (methF c m n mf fo t)) := by
  obtain ⟨f, fd, ps, F, cl, hm, hb⟩ := C.ex
  refine (peg_methK (E := WE Wx) he cl hm F hr hb (fun σ => passAt tk σ) ha hk ht).imp fun σ H Q ⟨W, S, ρ, s, r, q⟩ => ⟨W, S, ρ, s, r, q.bind fun d S1 v W1 H1 x1 s1 q1 k1 => ?_⟩
  cases ho : objAt S1 c d with
  | none => simp only [ho] at k1; exact k1.elim
  | some jf =>
    obtain ⟨j, fs⟩ := jf
    simp only [ho] at k1
    cases hl : fs.lookup m with
    | some _ => simp only [hl] at k1; exact k1.elim
    | none =>
      simp only [hl] at k1
      obtain ⟨a, dx, vs, rfl, ha, h1, h2⟩ := s1.obj q1 ho
      refine ⟨a, dx, vs, rfl, h1, h2.lookup_none hl, W1, S1, ρ, s1, r.mono x1.le, k1.bind fun ds S2 us W2 H2 x2 s2 q2 k2 => ?_⟩
      by_cases hz : (d :: ds).length = n
      · rw [if_pos hz] at k2
        exact ⟨by rw [← q2.length]; rw [List.length_cons] at hz; omega, by rw [← hz]; simp [q2.length], W2, S2, d :: ds, s2, .cons (q1.mono x2.le) q2, k2.fn⟩
      · rw [if_neg hz] at k2; exact k2.elim
end
end NL

set_option Elab.async false
set_option linter.all false
set_option autoImplicit false
set_option maxRecDepth 100000
set_option maxHeartbeats 4100000
namespace NL
open PySem PySem.Spec PyProof.Rows L2

def kv_SIZES : List (Str × Int) := [("near", 3), ("far", 3)]
def xm_Barred : Str → Option Bool := matOf ["Barred"] ["NearError", "InvalidNumber", "InvalidLine", "NotAYard", "InvalidDeed", "NothingToUndo"]
def xm_InvalidDeed : Str → Option Bool := matOf ["InvalidDeed"] ["NearError", "InvalidNumber", "InvalidLine", "NotAYard", "Barred", "NothingToUndo"]
def xm_NothingToUndo : Str → Option Bool := matOf ["NothingToUndo"] ["NearError", "InvalidNumber", "InvalidLine", "NotAYard", "InvalidDeed", "Barred"]
def xh_reason (c : Str) : Bool := (["Barred"] : List Str).contains c
def xfOf (c : Str) : Option Str := ([("InvalidNumber", "given"), ("InvalidLine", "given"), ("NotAYard", "given"), ("InvalidDeed", "index"), ("Barred", "reason")] : List (Str × Str)).lookup c
/-- check_yard -/
def b_check_yard : MS := ifS (notT (tstM (isOM "Yard" (varM 0)))) (raiseS "NotAYard" (varM 0)) (skipS)
def m_check_yard : Mf := defM 1 b_check_yard
/-- is_string -/
def b_is_string : MS := retS (isiM .str (varM 0))
def m_is_string : Mf := defM 1 b_is_string
/-- has_form -/
def b_has_form : MS := seqS (ifS (orT (notT (tstM (isiM .tup (varM 0)))) (orT (tstM (opM eqD (callM lenD (consM (varM 0) (nilM))) (cM (.int 0)))) (notT (tstM (callF 1 m_is_string (consM (opM ixD (varM 0) (cM (.int 0))) (nilM))))))) (retS (cM (.bl false))) (skipS)) (retS (andM (inDctM kv_SIZES (opM ixD (varM 0) (cM (.int 0)))) (opM eqD (callM lenD (consM (varM 0) (nilM))) (ixDctM kv_SIZES (opM ixD (varM 0) (cM (.int 0)))))))
def m_has_form : Mf := defM 1 b_has_form
/-- is_whole -/
def b_is_whole : MS := retS (andM (isiM .int (varM 0)) (notM (isiM .bl (varM 0))))
def m_is_whole : Mf := defM 1 b_is_whole
/-- is_between -/
def b_is_between : MS := retS (andM (callF 1 m_is_whole (consM (varM 0) (nilM))) (chainM leD leD (varM 1) (varM 0) (varM 2)))
def m_is_between : Mf := defM 3 b_is_between
/-- is_place_of -/
def b_is_place_of : MS := retS (callF 3 m_is_between (consM (varM 1) (consM (cM (.int 0)) (consM (opM subD (callM lenD (consM (varM 0) (nilM))) (cM (.int 1))) (nilM)))))
def m_is_place_of : Mf := defM 2 b_is_place_of
/-- check_deed -/
def b_check_deed : MS := seqS (ifS (notT (tstM (callF 1 m_has_form (consM (varM 1) (nilM))))) (raiseS "InvalidDeed" (cM (.int 0))) (skipS)) (seqS (ifS (notT (tstM (callF 2 m_is_place_of (consM (varM 0) (consM (opM ixD (varM 1) (cM (.int 1))) (nilM)))))) (raiseS "InvalidDeed" (cM (.int 1))) (skipS)) (ifS (orT (notT (tstM (callF 2 m_is_place_of (consM (varM 0) (consM (opM ixD (varM 1) (cM (.int 2))) (nilM)))))) (tstM (opM eqD (opM ixD (varM 1) (cM (.int 2))) (opM ixD (varM 1) (cM (.int 1)))))) (raiseS "InvalidDeed" (cM (.int 2))) (skipS)))
def m_check_deed : Mf := defM 2 b_check_deed
/-- is_near_by -/
def b_is_near_by : MS := retS (opM inD (varM 1) (opM ixD (varM 0) (varM 2)))
def m_is_near_by : Mf := defM 3 b_is_near_by
/-- places_of -/
def b_places_of : MS := retS (frzM (lrgF (callM lenD (consM (varM 0) (nilM)))))
def m_places_of : Mf := defM 1 b_places_of
/-- has_between -/
def b_has_between : MS := seqS (setS 3 (frzM (lcM [4] (.one 4) (itL (callF 1 m_places_of (consM (varM 0) (nilM)))) (tstM (opM notInD (varM 4) (tupM (consM (varM 1) (consM (varM 2) (nilM)))))) (varM 4)))) (retS (callM anyD (consM (frzM (lcM [4] (.one 4) (itL (varM 3)) (yesM) (andM (callF 3 m_is_near_by (consM (varM 0) (consM (varM 4) (consM (varM 2) (nilM))))) (callF 3 m_is_near_by (consM (varM 0) (consM (varM 1) (consM (varM 4) (nilM)))))))) (nilM))))
def m_has_between : Mf := defM 5 b_has_between
/-- reason_against -/
def b_reason_against : MS := seqS (asgGS (tupT 3 (consT (nameT 2) (consT (nameT 3) (consT (nameT 4) (nilT))))) (varM 1)) (seqS (ifS (tstM (opM eqD (varM 2) (cM (.str "near")))) (retS (ifM (tstM (callF 3 m_is_near_by (consM (varM 0) (consM (varM 3) (consM (varM 4) (nilM)))))) (cM (.str "same")) (cM .non))) (skipS)) (seqS (ifS (notT (tstM (callF 3 m_is_near_by (consM (varM 0) (consM (varM 3) (consM (varM 4) (nilM))))))) (retS (cM (.str "none"))) (skipS)) (retS (ifM (tstM (callF 3 m_has_between (consM (varM 0) (consM (varM 3) (consM (varM 4) (nilM)))))) (cM (.str "through")) (cM .non)))))
def m_reason_against : Mf := defM 5 b_reason_against
/-- union_of -/
def b_union_of : MS := retS (callM tupleD (consM (frzM (ssF (opM addD (varM 0) (varM 1)))) (nilM)))
def m_union_of : Mf := defM 2 b_union_of
/-- without -/
def b_without : MS := retS (callM tupleD (consM (frzM (lcM [2] (.one 2) (itT (varM 0)) (tstM (opM neD (varM 2) (varM 1))) (varM 2))) (nilM)))
def m_without : Mf := defM 3 b_without
/-- space_behind -/
def b_space_behind : MS := seqS (asgGS (tupT 3 (consT (nameT 2) (consT (nameT 3) (consT (nameT 4) (nilT))))) (varM 1)) (seqS (ifS (tstM (opM eqD (varM 2) (cM (.str "near")))) (retS (callM tupleD (consM (frzM (lcM [5] (.one 5) (itT (varM 0)) (yesM) (ifM (tstM (opM inD (varM 4) (varM 5))) (callF 2 m_union_of (consM (varM 5) (consM (opM ixD (varM 0) (varM 3)) (nilM)))) (varM 5)))) (nilM)))) (skipS)) (retS (callM tupleD (consM (frzM (lcM [6, 5] (.many [6, 5]) (itET (varM 0)) (yesM) (ifM (tstM (opM eqD (varM 6) (varM 4))) (callF 2 m_without (consM (varM 5) (consM (varM 3) (nilM)))) (varM 5)))) (nilM)))))
def m_space_behind : Mf := defM 7 b_space_behind
/-- Yard.do -/
def b_Yard_do : MS := seqS (dropS (callF 2 m_check_deed (consM (fldM "Yard" "space" (varM 0)) (consM (varM 1) (nilM))))) (seqS (setS 2 (callF 2 m_reason_against (consM (fldM "Yard" "space" (varM 0)) (consM (varM 1) (nilM))))) (seqS (ifS (tstM (opM notND (varM 2) (cM .non))) (raiseS "Barred" (varM 2)) (skipS)) (seqS (dropS (appM (fldM "Yard" "past" (varM 0)) (fldM "Yard" "space" (varM 0)))) (seqS (setFS "Yard" "space" (varM 0) (callF 2 m_space_behind (consM (fldM "Yard" "space" (varM 0)) (consM (varM 1) (nilM))))) (setFS "Yard" "deeds" (varM 0) (opM addD (fldM "Yard" "deeds" (varM 0)) (tupM (consM (varM 1) (nilM)))))))))
def m_Yard_do : Mf := defM 3 b_Yard_do
/-- single_space -/
def b_single_space : MS := retS (callM tupleD (consM (frzM (lcM [1] (.one 1) (itR1 (varM 0)) (yesM) (tupM (consM (varM 1) (nilM))))) (nilM)))
def m_single_space : Mf := defM 2 b_single_space
/-- Yard.__init__ -/
def b_Yard_init : MS := seqS (ifS (notT (tstM (callF 3 m_is_between (consM (varM 1) (consM (cM (.int 1)) (consM (cM (.int 7)) (nilM))))))) (raiseS "InvalidNumber" (varM 1)) (skipS)) (seqS (setFS "Yard" "places" (varM 0) (varM 1)) (seqS (setFS "Yard" "space" (varM 0) (callF 1 m_single_space (consM (varM 1) (nilM)))) (seqS (setFS "Yard" "deeds" (varM 0) (tupM (nilM))) (setFS "Yard" "past" (varM 0) (celM (listM (nilM)))))))
def m_Yard_init : Mf := defM 2 b_Yard_init
/-- copy_of -/
def b_copy_of : MS := seqS (setS 1 (makeF "Yard" 2 m_Yard_init (consM (fldM "Yard" "places" (varM 0)) (nilM)))) (seqS (forS (.one 2) (itT (fldM "Yard" "deeds" (varM 0))) (dropS (methF "Yard" "do" 2 m_Yard_do (varM 1) (consM (varM 2) (nilM))))) (retS (varM 1)))
def m_copy_of : Mf := defM 3 b_copy_of
/-- Console.__init__ -/
def b_Console_init : MS := seqS (dropS (callF 1 m_check_yard (consM (varM 1) (nilM)))) (setFS "Console" "yard" (varM 0) (callF 1 m_copy_of (consM (varM 1) (nilM))))
def m_Console_init : Mf := defM 2 b_Console_init
/-- is_made_of -/
def b_is_made_of : MS := retS (andM (opM neD (varM 0) (cM (.str ""))) (callM allD (consM (frzM (lcM [2] (.one 2) (itS (varM 0)) (yesM) (opM inSD (varM 2) (varM 1)))) (nilM))))
def m_is_made_of : Mf := defM 3 b_is_made_of
/-- number_in -/
def b_number_in : MS := seqS (ifS (orT (notT (tstM (callF 2 m_is_made_of (consM (varM 0) (consM (cM (.str "0123456789")) (nilM)))))) (andT (tstM (opM gtD (callM lenD (consM (varM 0) (nilM))) (cM (.int 1)))) (tstM (opM eqD (opM ixD (varM 0) (cM (.int 0))) (cM (.str "0")))))) (retS (cM .non)) (skipS)) (seqS (setS 1 (cM (.int 0))) (seqS (forS (.one 2) (itS (varM 0)) (setS 1 (opM addD (opM mulD (cM (.int 10)) (varM 1)) (sidxM (cM (.str "0123456789")) (varM 2))))) (retS (varM 1))))
def m_number_in : Mf := defM 3 b_number_in
/-- numbers_in -/
def b_numbers_in : MS := seqS (setS 1 (callM tupleD (consM (frzM (lcM [2] (.one 2) (itL (varM 0)) (yesM) (callF 1 m_number_in (consM (varM 2) (nilM))))) (nilM)))) (retS (ifM (tstM (opM inD (cM .non) (varM 1))) (cM .non) (varM 1)))
def m_numbers_in : Mf := defM 3 b_numbers_in
/-- common_of -/
def b_common_of : MS := retS (callM tupleD (consM (frzM (lcM [2] (.one 2) (itT (varM 0)) (tstM (opM inD (varM 2) (varM 1))) (varM 2))) (nilM)))
def m_common_of : Mf := defM 3 b_common_of
/-- closing_by -/
def b_closing_by : MS := retS (callM tupleD (consM (frzM (lcM [2] (.one 2) (itL (callF 1 m_places_of (consM (varM 0) (nilM)))) (tstM (opM neD (callF 2 m_common_of (consM (opM ixD (varM 0) (varM 2)) (consM (varM 1) (nilM)))) (tupM (nilM)))) (varM 2))) (nilM)))
def m_closing_by : Mf := defM 3 b_closing_by
/-- is_lot_of -/
def b_is_lot_of : MS := seqS (ifS (orT (notT (tstM (isiM .tup (varM 1)))) (notT (tstM (callM allD (consM (frzM (lcM [2] (.one 2) (itT (varM 1)) (yesM) (callF 3 m_is_between (consM (varM 2) (consM (cM (.int 0)) (consM (opM subD (varM 0) (cM (.int 1))) (nilM))))))) (nilM)))))) (retS (cM (.bl false))) (skipS)) (retS (callM allD (consM (frzM (lcM [3, 4] (.many [3, 4]) (itZT (varM 1) (sliceM slTD (varM 1) (partM (cM (.int 1))) (noPartM))) (yesM) (opM ltD (varM 3) (varM 4)))) (nilM))))
def m_is_lot_of : Mf := defM 5 b_is_lot_of
/-- is_lot -/
def b_is_lot : MS := retS (callF 2 m_is_lot_of (consM (callM lenD (consM (varM 0) (nilM))) (consM (varM 1) (nilM))))
def m_is_lot : Mf := defM 2 b_is_lot
/-- lot_text -/
def b_lot_text : MS := retS (ifM (tstM (opM neD (varM 0) (tupM (nilM)))) (joinM (cM (.str " ")) (frzM (lcM [1] (.one 1) (itT (varM 0)) (yesM) (callM strD (consM (varM 1) (nilM)))))) (cM (.str "nobody")))
def m_lot_text : Mf := defM 2 b_lot_text
/-- said_of_closing -/
def b_said_of_closing : MS := retS (ifM (tstM (callF 2 m_is_lot (consM (fldM "Yard" "space" (varM 0)) (consM (varM 1) (nilM))))) (callF 1 m_lot_text (consM (callF 2 m_closing_by (consM (fldM "Yard" "space" (varM 0)) (consM (varM 1) (nilM)))) (nilM))) (cM (.str "not understood")))
def m_said_of_closing : Mf := defM 2 b_said_of_closing
/-- said_of_deed -/
def hd_said_of_deed_0 : Hd := fun a dx c => retS (xfM a dx c 2 (xh_reason c))
def hd_said_of_deed_1 : Hd := fun a dx c => retS (cM (.str "not understood"))
def b_said_of_deed : MS := seqS (trysS [(xm_InvalidDeed, none, hd_said_of_deed_1), (xm_Barred, some 2, hd_said_of_deed_0)] (dropS (methF "Yard" "do" 2 m_Yard_do (varM 0) (consM (varM 1) (nilM))))) (retS (cM (.str "done")))
def m_said_of_deed : Mf := defM 3 b_said_of_deed
/-- said_of_reach -/
def b_said_of_reach : MS := retS (ifM (tstM (callF 2 m_is_place_of (consM (fldM "Yard" "space" (varM 0)) (consM (varM 1) (nilM))))) (callF 1 m_lot_text (consM (opM ixD (fldM "Yard" "space" (varM 0)) (varM 1)) (nilM))) (cM (.str "none")))
def m_said_of_reach : Mf := defM 2 b_said_of_reach
/-- are_tied -/
def b_are_tied : MS := retS (orM (callF 3 m_is_near_by (consM (varM 0) (consM (varM 1) (consM (varM 2) (nilM))))) (callF 3 m_is_near_by (consM (varM 0) (consM (varM 2) (consM (varM 1) (nilM))))))
def m_are_tied : Mf := defM 3 b_are_tied
/-- held_with -/
def b_held_with : MS := seqS (asgGS (tupT 2 (consT (nameT 2) (consT (nameT 3) (nilT)))) (tupM (consM (frzM (listM (consM (varM 1) (nilM)))) (consM (cM (.int 0)) (nilM))))) (seqS (whileL (tstM (opM ltD (varM 3) (callM lenD (consM (varM 2) (nilM))))) (seqS (asgGS (tupT 2 (consT (nameT 4) (consT (nameT 3) (nilT)))) (tupM (consM (opM ixD (varM 2) (varM 3)) (consM (opM addD (varM 3) (cM (.int 1))) (nilM))))) (setS 2 (frzM (catF (varM 2) (frzM (lcM [5] (.one 5) (itL (callF 1 m_places_of (consM (varM 0) (nilM)))) (andT (tstM (opM notInD (varM 5) (varM 2))) (tstM (callF 3 m_are_tied (consM (varM 0) (consM (varM 4) (consM (varM 5) (nilM))))))) (varM 5))))))) 1000) (retS (callM tupleD (consM (frzM (siF (varM 2))) (nilM)))))
def m_held_with : Mf := defM 6 b_held_with
/-- parts_by -/
def b_parts_by : MS := retS (callM tupleD (consM (frzM (ssTF (frzM (lcM [1] (.one 1) (itL (callF 1 m_places_of (consM (varM 0) (nilM)))) (yesM) (callF 2 m_held_with (consM (varM 0) (consM (varM 1) (nilM)))))))) (nilM)))
def m_parts_by : Mf := defM 2 b_parts_by
/-- Yard.parts -/
def b_Yard_parts : MS := retS (callM lenD (consM (callF 1 m_parts_by (consM (fldM "Yard" "space" (varM 0)) (nilM))) (nilM)))
def m_Yard_parts : Mf := defM 1 b_Yard_parts
/-- all_lots -/
def b_all_lots : MS := seqS (setS 1 (celM (listM (nilM)))) (seqS (forS (.one 2) (itR1 (opM addD (varM 0) (cM (.int 1)))) (dropS (extM (varM 1) (lcM [3] (.one 3) (combM (frzM (lrgF (varM 0))) (callM intD (consM (varM 2) (nilM)))) (yesM) (varM 3))))) (retS (frzM (slF (varM 1)))))
def m_all_lots : Mf := defM 4 b_all_lots
/-- is_within -/
def b_is_within : MS := retS (callM allD (consM (frzM (lcM [2] (.one 2) (itT (varM 0)) (yesM) (opM inD (varM 2) (varM 1)))) (nilM)))
def m_is_within : Mf := defM 3 b_is_within
/-- is_open_by -/
def b_is_open_by : MS := retS (callM allD (consM (frzM (lcM [2] (.one 2) (itT (varM 1)) (yesM) (callF 2 m_is_within (consM (opM ixD (varM 0) (varM 2)) (consM (varM 1) (nilM)))))) (nilM)))
def m_is_open_by : Mf := defM 3 b_is_open_by
/-- open_lots_by -/
def b_open_lots_by : MS := retS (callM tupleD (consM (frzM (lcM [1] (.one 1) (itL (callF 1 m_all_lots (consM (callM lenD (consM (varM 0) (nilM))) (nilM)))) (tstM (callF 2 m_is_open_by (consM (varM 0) (consM (varM 1) (nilM))))) (varM 1))) (nilM)))
def m_open_lots_by : Mf := defM 2 b_open_lots_by
/-- Yard.undo -/
def b_Yard_undo : MS := seqS (ifS (tstM (opM eqD (fldM "Yard" "past" (varM 0)) (frzM (listM (nilM))))) (raise0S "NothingToUndo") (skipS)) (seqS (setFS "Yard" "space" (varM 0) (popM (fldM "Yard" "past" (varM 0)))) (setFS "Yard" "deeds" (varM 0) (sliceM slTD (fldM "Yard" "deeds" (varM 0)) (noPartM) (partM (unM negD (cM (.int 1)))))))
def m_Yard_undo : Mf := defM 1 b_Yard_undo
/-- said_of_undo -/
def hd_said_of_undo_0 : Hd := fun a dx c => retS (cM (.str "nothing"))
def b_said_of_undo : MS := seqS (trysS [(xm_NothingToUndo, none, hd_said_of_undo_0)] (dropS (methF "Yard" "undo" 1 m_Yard_undo (varM 0) nilM))) (retS (cM (.str "done")))
def m_said_of_undo : Mf := defM 1 b_said_of_undo
/-- said_of_word -/
def b_said_of_word : MS := seqS (ifS (tstM (opM eqD (varM 1) (cM (.str "undo")))) (retS (callF 1 m_said_of_undo (consM (varM 0) (nilM)))) (skipS)) (seqS (ifS (tstM (opM eqD (varM 1) (cM (.str "opens")))) (retS (callM strD (consM (callM lenD (consM (callF 1 m_open_lots_by (consM (fldM "Yard" "space" (varM 0)) (nilM))) (nilM))) (nilM)))) (skipS)) (seqS (ifS (tstM (opM eqD (varM 1) (cM (.str "words")))) (neverS) (skipS)) (retS (ifM (tstM (opM eqD (varM 1) (cM (.str "parts")))) (callM strD (consM (methF "Yard" "parts" 1 m_Yard_parts (varM 0) nilM) (nilM))) (cM (.str "not understood"))))))
def m_said_of_word : Mf := defM 2 b_said_of_word
/-- words_of -/
def b_words_of : MS := seqS (setS 1 (frzM (splitF (varM 0) (cM (.str " "))))) (retS (ifM (tstM (opM inD (cM (.str "")) (varM 1))) (cM .non) (varM 1)))
def m_words_of : Mf := defM 2 b_words_of
/-- Console.say -/
def b_Console_say : MS := seqS (ifS (notT (tstM (callF 1 m_is_string (consM (varM 1) (nilM))))) (raiseS "InvalidLine" (varM 1)) (skipS)) (seqS (setS 2 (callF 1 m_words_of (consM (varM 1) (nilM)))) (seqS (setS 3 (ifM (tstM (opM notND (varM 2) (cM .non))) (callF 1 m_numbers_in (consM (sliceM slLD (varM 2) (partM (cM (.int 1))) (noPartM)) (nilM))) (cM .non))) (seqS (ifS (tstM (opM isND (varM 3) (cM .non))) (retS (cM (.str "not understood"))) (skipS)) (seqS (ifS (tstM (inDctM kv_SIZES (opM ixD (varM 2) (cM (.int 0))))) (retS (callF 2 m_said_of_deed (consM (fldM "Console" "yard" (varM 0)) (consM (tupM (consM (opM ixD (varM 2) (cM (.int 0))) (starM (varM 3) (nilM)))) (nilM))))) (skipS)) (seqS (ifS (tstM (opM eqD (opM ixD (varM 2) (cM (.int 0))) (cM (.str "closing")))) (retS (callF 2 m_said_of_closing (consM (fldM "Console" "yard" (varM 0)) (consM (varM 3) (nilM))))) (skipS)) (seqS (ifS (andT (tstM (opM eqD (opM ixD (varM 2) (cM (.int 0))) (cM (.str "reach")))) (tstM (opM eqD (callM lenD (consM (varM 3) (nilM))) (cM (.int 1))))) (retS (callF 2 m_said_of_reach (consM (fldM "Console" "yard" (varM 0)) (consM (opM ixD (varM 3) (cM (.int 0))) (nilM))))) (skipS)) (retS (ifM (tstM (opM eqD (callM lenD (consM (varM 2) (nilM))) (cM (.int 1)))) (callF 2 m_said_of_word (consM (fldM "Console" "yard" (varM 0)) (consM (opM ixD (varM 2) (cM (.int 0))) (nilM)))) (cM (.str "not understood"))))))))))
def m_Console_say : Mf := defM 4 b_Console_say
/-- _law_alone -/
def b__law_alone : MS := retS (callM tupleD (consM (frzM (lcM [1] (.one 1) (itR1 (varM 0)) (yesM) (tupM (consM (varM 1) (nilM))))) (nilM)))
def m__law_alone : Mf := defM 2 b__law_alone
/-- _law_take -/
def b__law_take : MS := seqS (ifS (tstM (opM gtD (opM ixD (varM 0) (cM (.int 0))) (cM (.int 0)))) (seqS (asgGS (tupT 2 (consT (subT (varM 0) (cM (.int 0))) (consT (nameT 2) (nilT)))) (callM divmodD (consM (opM ixD (varM 0) (cM (.int 0))) (consM (varM 1) (nilM))))) (retS (varM 2))) (skipS)) (seqS (asgGS (subT (varM 0) (cM (.int 2))) (opM addD (opM ixD (varM 0) (cM (.int 2))) (cM (.int 1)))) (seqS (asgGS (subT (varM 0) (cM (.int 1))) (opM modD (callM intD (consM (opM addD (opM addD (opM mulD (opM ixD (varM 0) (cM (.int 1))) (cM (.int 69621))) (opM mulD (opM ixD (varM 0) (cM (.int 2))) (cM (.int 30011)))) (cM (.int 7))) (nilM))) (cM (.int 2147483587)))) (retS (opM modD (callM intD (consM (opM addD (opM fdivD (opM ixD (varM 0) (cM (.int 1))) (cM (.int 256))) (opM ixD (varM 0) (cM (.int 2)))) (nilM))) (varM 1)))))
def m__law_take : Mf := defM 3 b__law_take
/-- _law_of -/
def b__law_of : MS := retS (opM ixD (varM 1) (callF 2 m__law_take (consM (varM 0) (consM (callM lenD (consM (varM 1) (nilM))) (nilM)))))
def m__law_of : Mf := defM 2 b__law_of
/-- _law_deed -/
def b__law_deed : MS := seqS (setS 2 (callF 2 m__law_take (consM (varM 0) (consM (varM 1) (nilM))))) (seqS (setS 3 (opM modD (callM intD (consM (opM addD (opM addD (varM 2) (cM (.int 1))) (callF 2 m__law_take (consM (varM 0) (consM (opM subD (varM 1) (cM (.int 1))) (nilM))))) (nilM))) (varM 1))) (retS (tupM (consM (callF 2 m__law_of (consM (varM 0) (consM (tupM (consM (cM (.str "near")) (consM (cM (.str "near")) (consM (cM (.str "far")) (nilM))))) (nilM)))) (consM (varM 2) (consM (varM 3) (nilM)))))))
def m__law_deed : Mf := defM 4 b__law_deed
/-- _law_did -/
def b__law_did : MS := seqS (asgGS (tupT 3 (consT (nameT 2) (consT (nameT 3) (consT (nameT 4) (nilT))))) (varM 1)) (seqS (ifS (tstM (opM eqD (varM 2) (cM (.str "near")))) (seqS (ifS (tstM (opM inD (varM 3) (opM ixD (varM 0) (varM 4)))) (retS (tupM (consM (cM (.str "same")) (consM (varM 0) (nilM))))) (skipS)) (retS (tupM (consM (cM (.str "done")) (consM (callM tupleD (consM (frzM (lcM [6] (.one 6) (itT (varM 0)) (yesM) (callM tupleD (consM (frzM (ssF (opM addD (varM 6) (ifM (tstM (opM inD (varM 4) (varM 6))) (opM ixD (varM 0) (varM 3)) (tupM (nilM)))))) (nilM))))) (nilM))) (nilM)))))) (skipS)) (seqS (ifS (tstM (opM notInD (varM 3) (opM ixD (varM 0) (varM 4)))) (retS (tupM (consM (cM (.str "none")) (consM (varM 0) (nilM))))) (skipS)) (seqS (ifS (tstM (opM neD (frzM (lcM [7] (.one 7) (itT (opM ixD (varM 0) (varM 4))) (andT (tstM (opM notInD (varM 7) (tupM (consM (varM 3) (consM (varM 4) (nilM)))))) (tstM (opM inD (varM 3) (opM ixD (varM 0) (varM 7))))) (varM 7))) (frzM (listM (nilM))))) (retS (tupM (consM (cM (.str "through")) (consM (varM 0) (nilM))))) (skipS)) (seqS (setS 5 (callM tupleD (consM (frzM (lcM [8] (.one 8) (itT (opM ixD (varM 0) (varM 4))) (tstM (opM neD (varM 8) (varM 3))) (varM 8))) (nilM)))) (retS (tupM (consM (cM (.str "done")) (consM (opM addD (opM addD (sliceM slTD (varM 0) (noPartM) (partM (varM 4))) (tupM (consM (varM 5) (nilM)))) (sliceM slTD (varM 0) (partM (opM addD (varM 4) (cM (.int 1)))) (noPartM))) (nilM)))))))))
def m__law_did : Mf := defM 9 b__law_did
/-- _law_line -/
def b__law_line : MS := retS (opM addD (opM addD (opM addD (opM addD (opM ixD (varM 0) (cM (.int 0))) (cM (.str " "))) (callM strD (consM (opM ixD (varM 0) (cM (.int 1))) (nilM)))) (cM (.str " "))) (callM strD (consM (opM ixD (varM 0) (cM (.int 2))) (nilM))))
def m__law_line : Mf := defM 1 b__law_line
/-- _law_places -/
def b__law_places : MS := retS (joinM (cM (.str " ")) (frzM (lcM [1] (.one 1) (itT (varM 0)) (yesM) (callM strD (consM (varM 1) (nilM))))))
def m__law_places : Mf := defM 2 b__law_places
/-- _law_well -/
def b__law_well : MS := seqS (setS 2 (ifM (tstM (opM ltD (varM 1) (callM lenD (consM (varM 0) (nilM))))) (callM intD (consM (opM ixD (varM 0) (varM 1)) (nilM))) (cM (.int 0)))) (seqS (setS 3 (opM addD (cM (.int 40503)) (opM mulD (cM (.int 7919)) (varM 1)))) (seqS (forS (.one 4) (itL (frzM (catF (sliceM slLD (varM 0) (noPartM) (partM (cM (.int 9)))) (frzM (listM (consM (varM 2) (nilM))))))) (setS 3 (opM modD (callM intD (consM (opM addD (opM addD (opM mulD (varM 3) (cM (.int 48271))) (opM modD (callM intD (consM (varM 4) (nilM))) (cM (.int 2147483579)))) (cM (.int 13))) (nilM))) (cM (.int 2147483629))))) (retS (celM (listM (consM (ifM (orT (tstM (opM ltD (varM 2) (cM (.int 0)))) (tstM (opM geD (varM 2) (opM powD (cM (.int 10)) (cM (.int 18)))))) (callM absD (consM (varM 2) (nilM))) (cM (.int 0))) (consM (varM 3) (consM (cM (.int 0)) (nilM)))))))))
def m__law_well : Mf := defM 5 b__law_well
/-- law -/
def l_law_0 : MS := seqS (ifS (tstM (opM eqD (callF 2 m__law_take (consM (varM 2) (consM (cM (.int 4)) (nilM)))) (cM (.int 0)))) (seqS (setS 8 (ifM (tstM (opM gtD (callM lenD (consM (varM 5) (nilM))) (cM (.int 1)))) (cM (.str "done")) (cM (.str "nothing")))) (seqS (ifS (tstM (opM neD (methF "Console" "say" 2 m_Console_say (varM 6) (consM (cM (.str "undo")) (nilM))) (varM 8))) (retS (cM (.bl false))) (skipS)) (setS 5 (ifM (tstM (opM eqD (varM 8) (cM (.str "done")))) (sliceM slLD (varM 5) (noPartM) (partM (unM negD (cM (.int 1))))) (varM 5))))) (seqS (setS 9 (callF 2 m__law_deed (consM (varM 2) (consM (varM 3) (nilM))))) (seqS (asgGS (tupT 2 (consT (nameT 8) (consT (nameT 10) (nilT)))) (callF 2 m__law_did (consM (opM ixD (varM 5) (unM negD (cM (.int 1)))) (consM (varM 9) (nilM))))) (seqS (ifS (tstM (opM neD (methF "Console" "say" 2 m_Console_say (varM 6) (consM (callF 1 m__law_line (consM (varM 9) (nilM))) (nilM))) (varM 8))) (retS (cM (.bl false))) (skipS)) (setS 5 (frzM (catF (varM 5) (ifM (tstM (opM eqD (varM 8) (cM (.str "done")))) (frzM (listM (consM (varM 10) (nilM)))) (frzM (listM (nilM))))))))))) (seqS (setS 11 (callF 2 m__law_take (consM (varM 2) (consM (varM 3) (nilM))))) (seqS (ifS (tstM (opM neD (methF "Console" "say" 2 m_Console_say (varM 6) (consM (opM addD (cM (.str "reach ")) (callM strD (consM (varM 11) (nilM)))) (nilM))) (callF 1 m__law_places (consM (opM ixD (opM ixD (varM 5) (unM negD (cM (.int 1)))) (varM 11)) (nilM))))) (retS (cM (.bl false))) (skipS)) (ifS (orT (tstM (opM neD (fldM "Yard" "space" (varM 4)) (callF 1 m__law_alone (consM (varM 3) (nilM))))) (tstM (opM neD (fldM "Yard" "deeds" (varM 4)) (tupM (nilM))))) (retS (cM (.bl false))) (skipS))))
def l_law_1 : MS := seqS (setS 2 (callF 2 m__law_well (consM (varM 0) (consM (varM 1) (nilM))))) (seqS (setS 3 (opM addD (cM (.int 2)) (callF 2 m__law_take (consM (varM 2) (consM (cM (.int 5)) (nilM)))))) (seqS (parS [4, 5] (consM (makeF "Yard" 2 m_Yard_init (consM (varM 3) (nilM))) (consM (frzM (listM (consM (callF 1 m__law_alone (consM (varM 3) (nilM))) (nilM)))) (nilM)))) (seqS (setS 6 (makeF "Console" 2 m_Console_init (consM (varM 4) (nilM)))) (seqS (ifS (tstM (opM neD (methF "Console" "say" 2 m_Console_say (varM 6) (consM (cM (.str "undo")) (nilM))) (cM (.str "nothing")))) (retS (cM (.bl false))) (skipS)) (seqS (forS (.one 7) (itR1 (cM (.int 10))) (l_law_0)) (ifS (tstM (opM neD (methF "Console" "say" 2 m_Console_say (makeF "Console" 2 m_Console_init (consM (varM 4) (nilM))) (consM (cM (.str "opens")) (nilM))) (methF "Console" "say" 2 m_Console_say (makeF "Console" 2 m_Console_init (consM (varM 4) (nilM))) (consM (cM (.str "opens")) (nilM))))) (retS (cM (.bl false))) (skipS)))))))
def b_law : MS := seqS (forS (.one 1) (itR1 (cM (.int 3))) (l_law_1)) (retS (cM (.bl true)))
def m_law : Mf := defM 12 b_law
end NL

set_option Elab.async false
set_option linter.all false
set_option autoImplicit false
set_option maxRecDepth 100000
set_option maxHeartbeats 4100000
namespace NL
open PySem PySem.Spec PyProof.Rows L2

theorem atI3_0 (a b c : Da) : L2.atI [a, b, c] 0 = some a := by rfl
theorem atI3_1 (a b c : Da) : L2.atI [a, b, c] 1 = some b := by rfl
theorem atI3_2 (a b c : Da) : L2.atI [a, b, c] 2 = some c := by rfl
theorem ixN3_0 : ixN 3 0 = some 0 := by rfl
theorem ixN3_1 : ixN 3 1 = some 1 := by rfl
theorem ixN3_2 : ixN 3 2 = some 2 := by rfl
theorem take_ok {j : Nat} {S : Store} {x y z m : Int} (h : S[j]? = some (.lst [.int x, .int y, .int z])) (hm : 0 < m) (hm2 : m < 1073741824) :
    ∃ d x' y' z', m__law_take [.cell j, .int m] S = .ok (.int d) (S.set j (.lst [.int x', .int y', .int z'])) ∧ 0 ≤ d ∧ d < m := by
  have hj : j < S.length := (List.getElem?_eq_some_iff.mp h).1
  have hs : ∀ c, (S.set j c)[j]? = some c := fun c => List.getElem?_set_self hj
  unfold m__law_take defM b__law_take
  by_cases hx : 0 < x
  · refine ⟨x % m, x / m, y, z, ?_, Int.emod_nonneg _ (by omega), Int.emod_lt_of_pos _ hm⟩
    simp [seqS, ifS, tstM, opM, varM, cM, ixD, asL, h, Res.bind, Res.thenS, RS.seq, RS.res, ofO, gtD, ii, atI3_0, hx, asgGS, onlyNx, tupT, consT, subT, nameT, nilT, callM, divmodD, consM, nilM, hm, hm2, retS, ixN3_0, List.set]
  · refine ⟨((y * 69621 + (z + 1) * 30011 + 7) % 2147483587 / 256 + (z + 1)) % m, x, (y * 69621 + (z + 1) * 30011 + 7) % 2147483587, z + 1, ?_, Int.emod_nonneg _ (by omega), Int.emod_lt_of_pos _ hm⟩
    simp [seqS, ifS, tstM, opM, varM, cM, ixD, asL, h, hs, List.set_set, Res.bind, Res.thenS, RS.seq, RS.res, ofO, gtD, ii, atI3_0, atI3_1, atI3_2, hx, asgGS, onlyNx, subT, callM, intD, addD, mulD, modD, fdivD, consM, nilM, hm, hm2, retS, skipS, ixN3_0, ixN3_1, ixN3_2, List.set, lim64]
theorem len_src (l : List Da) (S : Store) : lenD [.src l] S = some (.int l.length) := rfl
theorem forL_inv {tg : Tg} {body : MS} {P : En → Store → Prop} : ∀ {ds : List Da} {ρ : En} {S : Store}, P ρ S → (∀ d ∈ ds, ∀ ρ S, P ρ S → ∃ ρ1, bindT tg d ρ = some ρ1 ∧ ∃ ρ2 S2, body ρ1 S = .nx ρ2 S2 ∧ P ρ2 S2) → ∃ ρ2 S2, forL tg body ds ρ S = .nx ρ2 S2 ∧ P ρ2 S2
  | [], ρ, S, h, _ => ⟨ρ, S, rfl, h⟩
  | d :: ds, ρ, S, h, k => by
    obtain ⟨ρ1, h1, ρ2, S2, h2, h3⟩ := k d List.mem_cons_self ρ S h
    obtain ⟨ρ3, S3, h4, h5⟩ := forL_inv h3 fun d hd => k d (List.mem_cons_of_mem _ hd)
    refine ⟨ρ3, S3, ?_, h5⟩
    unfold forL
    rw [h1]
    dsimp only
    rw [h2]
    exact h4
theorem well_ok {ns : List Int} {lap : Nat} (S : Store) (hn : ns.length ≤ 63) (hl : lap ≤ 2) : ∃ x y, m__law_well [.src (ns.map Da.int), .int lap] S = .ok (.cell S.length) (S ++ [.lst [.int x, .int y, .int 0]]) := by
  have hat : ∀ h : lap < ns.length, L2.atI (ns.map Da.int) (lap : Int) = some (.int (ns.getD lap 0)) := fun h => by
    unfold L2.atI ixN
    simp [h]
  have hown : ∃ o : Int, ifM (tstM (opM ltD (varM 1) (callM lenD (consM (varM 0) (nilM))))) (callM intD (consM (opM ixD (varM 0) (varM 1)) (nilM))) (cM (.int 0)) [some (.src (ns.map Da.int)), some (.int lap), none, none, none] S = .ok (.int o) S := by
    by_cases h : lap < ns.length
    · refine ⟨ns.getD lap 0, ?_⟩
      have h2 : ((lap : Nat) : Int) < ((ns.length : Nat) : Int) := by omega
      simp [ifM, tstM, opM, varM, callM, consM, nilM, Res.bind, ofO, ltD, ii, len_src, h2, ixD, asL, hat h, intD]
    · refine ⟨0, ?_⟩
      have h2 : ¬ ((lap : Nat) : Int) < ((ns.length : Nat) : Int) := by omega
      simp [ifM, tstM, opM, varM, callM, consM, nilM, Res.bind, ofO, ltD, ii, len_src, h2, cM]
  obtain ⟨o, ho⟩ := hown
  unfold m__law_well defM b__law_well
  have e1 : ((List.map some [Da.src (ns.map Da.int), Da.int lap] ++ List.replicate (5 - [Da.src (ns.map Da.int), Da.int (lap : Int)].length) none) : En) = [some (.src (ns.map Da.int)), some (.int lap), none, none, none] := rfl
  rw [e1]
  generalize hB : (setS 3 (opM modD (callM intD (consM (opM addD (opM addD (opM mulD (varM 3) (cM (.int 48271))) (opM modD (callM intD (consM (varM 4) (nilM))) (cM (.int 2147483579)))) (cM (.int 13))) (nilM))) (cM (.int 2147483629)))) = B
  have hloop : ∀ ds : List Int, ∀ r4 : Option Da, ∀ st : Int, ∃ ρ2 S2, forL (.one 4) B (ds.map Da.int) [some (.src (ns.map Da.int)), some (.int lap), some (.int o), some (.int st), r4] S = .nx ρ2 S2 ∧ (∃ (st2 : Int) (r : Option Da), ρ2 = [some (.src (ns.map Da.int)), some (.int lap), some (.int o), some (.int st2), r]) ∧ S2 = S := fun ds r4 st => by
    refine forL_inv (P := fun ρ2 S2 => (∃ (st2 : Int) (r : Option Da), ρ2 = [some (.src (ns.map Da.int)), some (.int lap), some (.int o), some (.int st2), r]) ∧ S2 = S) ⟨⟨st, r4, rfl⟩, rfl⟩ ?_
    rintro d hd ρ S2 ⟨⟨st2, r, rfl⟩, rfl⟩
    obtain ⟨i, _, rfl⟩ := List.mem_map.mp hd
    refine ⟨_, rfl, ?_⟩
    subst hB
    refine ⟨_, _, ?_, ⟨(st2 * 48271 + i % 2147483579 + 13) % 2147483629, some (.int i), rfl⟩, rfl⟩
    simp [setS, opM, varM, cM, callM, consM, nilM, intD, addD, mulD, modD, ii, Res.bind, Res.thenS, ofO, List.set, lim64]
  have hsl : sliceM slLD (varM 0) (noPartM) (partM (cM (.int 9))) [some (.src (ns.map Da.int)), some (.int lap), some (.int o), some (.int (40503 + 7919 * lap)), none] S = .ok (.lst ((cutD ns none (some 9)).map Da.int)) S := by
    simp [sliceM, varM, noPartM, partM, cM, Res.bind, slLD, asL, ofO, cutD]
  have hlen : (cutD ns none (some 9)).length ≤ 63 := by
    unfold cutD
    simp only [List.length_take, List.length_drop]
    omega
  obtain ⟨ρ2, S2, h1, ⟨st2, r, rfl⟩, rfl⟩ := hloop (cutD ns none (some 9) ++ [o]) none (40503 + 7919 * lap)
  have hb2 : (cutD ns none (some 9)).length + 1 ≤ big := by unfold big; omega
  refine ⟨if o < 0 ∨ o ≥ 10 ^ 18 then (if o < 0 then -o else o) else 0, st2, ?_⟩
  rw [List.map_append] at h1
  have h0 : setS 2 (ifM (tstM (opM ltD (varM 1) (callM lenD (consM (varM 0) (nilM))))) (callM intD (consM (opM ixD (varM 0) (varM 1)) (nilM))) (cM (.int 0))) [some (.src (ns.map Da.int)), some (.int lap), none, none, none] S2 = .nx [some (.src (ns.map Da.int)), some (.int lap), some (.int o), none, none] S2 := by
    show (ifM _ _ _ _ _).thenS _ _ = _
    rw [ho]; rfl
  have h2 : setS 3 (opM addD (cM (.int 40503)) (opM mulD (cM (.int 7919)) (varM 1))) [some (.src (ns.map Da.int)), some (.int lap), some (.int o), none, none] S2 = .nx [some (.src (ns.map Da.int)), some (.int lap), some (.int o), some (.int (40503 + 7919 * lap)), none] S2 := by
    simp [setS, opM, varM, cM, addD, mulD, ii, Res.bind, Res.thenS, ofO, List.set, lim64]
  have h3 : forS (.one 4) (itL (frzM (catF (sliceM slLD (varM 0) (noPartM) (partM (cM (.int 9)))) (frzM (listM (consM (varM 2) (nilM))))))) B [some (.src (ns.map Da.int)), some (.int lap), some (.int o), some (.int (40503 + 7919 * lap)), none] S2 = .nx [some (.src (ns.map Da.int)), some (.int lap), some (.int o), some (.int st2), r] S2 := by
    rw [← h1]
    simp only [forS, itL, frzM, catF, hsl, Res.bind]
    simp [listM, consM, nilM, varM, Res.bind, Res.thenS, tryL, hb2, show (1 : Nat) ≤ big from by decide]
  unfold seqS RS.seq
  rw [h0]
  dsimp only
  rw [h2]
  dsimp only
  rw [h3]
  dsimp only
  by_cases c1 : o < 0
  · simp [retS, celM, listM, consM, nilM, ifM, orT, tstM, opM, ltD, geD, powD, ii, callM, absD, varM, cM, c1, Res.bind, Res.thenS, RS.res, ofO, show (3 : Nat) ≤ big from by decide]
  · by_cases c2 : (1000000000000000000 : Int) ≤ o
    · simp [retS, celM, listM, consM, nilM, ifM, orT, tstM, opM, ltD, geD, powD, ii, callM, absD, varM, cM, c1, c2, Res.bind, Res.thenS, RS.res, ofO, show (3 : Nat) ≤ big from by decide]
    · simp [retS, celM, listM, consM, nilM, ifM, orT, tstM, opM, ltD, geD, powD, ii, callM, absD, varM, cM, c1, c2, Res.bind, Res.thenS, RS.res, ofO, show (3 : Nat) ≤ big from by decide]
theorem ints_some : ∀ l : List Int, intsOf (l.map Da.int) = some l
  | [] => rfl
  | x :: l => by rw [List.map_cons, intsOf, ints_some l]; rfl
/-! ### spaces as lists of rows -/
def rowD (r : List Int) : Da := .tup (r.map Da.int)
def spD (sp : List (List Int)) : Da := .tup (sp.map rowD)
def unrow : Da → List Int
  | .tup l => (intsOf l).getD []
  | _ => []
theorem unrow_row (r : List Int) : unrow (rowD r) = r := by simp [unrow, rowD, ints_some]
def row (sp : List (List Int)) (i : Int) : List Int := (sp[i.toNat]?).getD []
theorem ixN_ok {n : Nat} {i : Int} (h0 : 0 ≤ i) (h : i.toNat < n) : ixN n i = some i.toNat := by
  unfold ixN
  have h1 : ¬ i < 0 := by omega
  have h2 : i < (n : Int) := by omega
  simp [h1, h2, h0]
theorem atI_ok {α : Type} {l : List α} {i : Int} (h0 : 0 ≤ i) (h : i.toNat < l.length) : L2.atI l i = some l[i.toNat] := by
  unfold L2.atI
  rw [ixN_ok h0 h]
  simp [h]
theorem atI_row {sp : List (List Int)} {i : Int} (h0 : 0 ≤ i) (h : i < sp.length) : L2.atI (sp.map rowD) i = some (rowD (row sp i)) := by
  have h1 : i.toNat < sp.length := by omega
  rw [atI_ok h0 (by simpa using h1)]
  simp [row, h1]
theorem ixD_row {sp : List (List Int)} {i : Int} {S : Store} (h0 : 0 ≤ i) (h : i < sp.length) : ixD (spD sp) (.int i) S = some (rowD (row sp i)) := atI_row h0 h
theorem flat_ints (l : List Int) : (l.map Da.int).all flatD = true := by induction l with | nil => rfl | cons x l ih => simpa [flatD] using ih
theorem any_ints (a : Int) (l : List Int) : ((l.map Da.int).any fun y => eqF y (.int a)) = decide (a ∈ l) := by
  induction l with
  | nil => rfl
  | cons x l ih =>
    rw [List.map_cons, List.any_cons, ih]
    have e : eqF (.int x) (.int a) = (x == a) := rfl
    rw [e]
    by_cases h : x = a
    · subst h; simp
    · have h2 : ¬ a = x := fun z => h z.symm
      simp [h, h2]
theorem inD_row (a : Int) (r : List Int) (S : Store) : inD (.int a) (rowD r) S = some (.bl (decide (a ∈ r))) := by
  unfold inD inB rowD seqOf
  simp only [flat_ints, flatD, any_ints, and_self, if_true, Option.map]
theorem notInD_row (a : Int) (r : List Int) (S : Store) : notInD (.int a) (rowD r) S = some (.bl (!decide (a ∈ r))) := by
  unfold notInD inB rowD seqOf
  simp only [flat_ints, flatD, any_ints, and_self, if_true, Option.map]
theorem eqv_int (a b : Int) (S : Store) : eqvD S (.int a) (.int b) = some (decide (a = b)) := by
  have e : eqvD S (.int a) (.int b) = some (a == b) := rfl
  rw [e]
  by_cases h : a = b <;> simp [h]
theorem eqv_str (a b : Str) (S : Store) : eqvD S (.str a) (.str b) = some (decide (a = b)) := rfl
theorem eqD_int (a b : Int) (S : Store) : eqD (.int a) (.int b) S = some (.bl (decide (a = b))) := by unfold eqD; rw [eqv_int]; rfl
theorem neD_int (a b : Int) (S : Store) : neD (.int a) (.int b) S = some (.bl (!decide (a = b))) := by unfold neD; rw [eqv_int]; rfl
theorem eqD_str (a b : Str) (S : Store) : eqD (.str a) (.str b) S = some (.bl (decide (a = b))) := rfl
theorem neD_str (a b : Str) (S : Store) : neD (.str a) (.str b) S = some (.bl (!decide (a = b))) := rfl
/-! ### comprehensions whose turns change nothing -/
theorem lcL_pure {tg : Tg} {cond : M Bool} {elt : M Da} {ρ : En} {S : Store} {c : Da → Bool} {e : Da → Da} : ∀ {ds : List Da}, (∀ d ∈ ds, ∃ ρ1, bindT tg d ρ = some ρ1 ∧ cond ρ1 S = .ok (c d) S ∧ (c d = true → elt ρ1 S = .ok (e d) S)) →
    lcL tg cond elt ρ ds S = some ((ds.filter c).map e, S)
  | [], _ => rfl
  | d :: ds, h => by
    obtain ⟨ρ1, h1, h2, h3⟩ := h d List.mem_cons_self
    have ih := lcL_pure (c := c) (e := e) fun x hx => h x (List.mem_cons_of_mem _ hx)
    unfold lcL
    rw [h1]
    dsimp only
    rw [h2]
    cases hc : c d with
    | false => dsimp only; rw [ih, List.filter_cons, hc]; rfl
    | true => dsimp only; rw [h3 hc]; dsimp only; rw [ih, List.filter_cons, hc]; rfl
theorem lcM_pure {own : List Nat} {tg : Tg} {src : M (List Da)} {cond : M Bool} {elt : M Da} {ρ : En} {S : Store} {ds : List Da} (c : Da → Bool) (e : Da → Da) (hs : src ρ S = .ok ds S) (hb : ds.length ≤ big)
    (h : ∀ d ∈ ds, ∃ ρ1, bindT tg d (wipeD ρ own) = some ρ1 ∧ cond ρ1 S = .ok (c d) S ∧ (c d = true → elt ρ1 S = .ok (e d) S)) : lcM own tg src cond elt ρ S = .ok ((ds.filter c).map e) S := by
  unfold lcM
  rw [hs]
  show (if ds.length ≤ big then optR (lcL tg cond elt (wipeD ρ own) ds S) else .bad) = _
  rw [if_pos hb, lcL_pure h]
  rfl
theorem consM1_ok {f : M Da} {ρ : En} {S S1 : Store} {d : Da} (h : f ρ S = .ok d S1) : consM f nilM ρ S = .ok [d] S1 := by unfold consM; rw [h]; rfl
theorem callM_ok {op : List Da → Store → Option Da} {t : M (List Da)} {ρ : En} {S S1 : Store} {l : List Da} {d : Da} (h : t ρ S = .ok l S1) (ho : op l S1 = some d) : callM op t ρ S = .ok d S1 := by unfold callM; rw [h]; simp only [Res.bind, ho, ofO]
theorem callF_ok {n : Nat} {m : Mf} {t : M (List Da)} {ρ : En} {S S1 S2 : Store} {l : List Da} {d : Da} (h : t ρ S = .ok l S1) (hn : l.length = n) (ho : m l S1 = .ok d S2) : callF n m t ρ S = .ok d S2 := by unfold callF; rw [h]; simp only [Res.bind, hn, if_true]; exact ho
theorem opM_ok {op : Da → Da → Store → Option Da} {f g : M Da} {ρ : En} {S S1 S2 : Store} {a b d : Da} (hf : f ρ S = .ok a S1) (hg : g ρ S1 = .ok b S2) (ho : op a b S2 = some d) : opM op f g ρ S = .ok d S2 := by
  unfold opM; rw [hf]; simp only [Res.bind]; rw [hg]; simp only [ho, ofO]
theorem tstM_ok {f : M Da} {ρ : En} {S S1 : Store} {t : Bool} (h : f ρ S = .ok (.bl t) S1) : tstM f ρ S = .ok t S1 := by unfold tstM; rw [h]; rfl
theorem frz_ok {f : M (List Da)} {ρ : En} {S S1 : Store} {l : List Da} (h : f ρ S = .ok l S1) : frzM f ρ S = .ok (.lst l) S1 := by unfold frzM; rw [h]; rfl
theorem tupLc_ok {f : M (List Da)} {ρ : En} {S S1 : Store} {l : List Da} (h : f ρ S = .ok l S1) : callM tupleD (consM (frzM f) nilM) ρ S = .ok (.tup l) S1 := by
  unfold callM consM
  rw [frz_ok h]
  rfl
theorem seqS_nx {f g : MS} {ρ ρ1 : En} {S S1 : Store} (h : f ρ S = .nx ρ1 S1) : seqS f g ρ S = g ρ1 S1 := by unfold seqS; rw [h]; rfl
theorem seqS_exc {f g : MS} {ρ ρ1 : En} {S S1 : Store} {c : Str} {d : Da} (h : f ρ S = .exc c d ρ1 S1) : seqS f g ρ S = .exc c d ρ1 S1 := by unfold seqS; rw [h]; rfl
theorem seqS_rt {f g : MS} {ρ : En} {S S1 : Store} {d : Da} (h : f ρ S = .rt d S1) : seqS f g ρ S = .rt d S1 := by unfold seqS; rw [h]; rfl
theorem retS_ok {f : M Da} {ρ : En} {S S1 : Store} {d : Da} (h : f ρ S = .ok d S1) : retS f ρ S = .rt d S1 := by unfold retS; rw [h]; rfl
theorem setS_ok {i : Nat} {f : M Da} {ρ : En} {S S1 : Store} {d : Da} (h : f ρ S = .ok d S1) : setS i f ρ S = .nx (ρ.set i (some d)) S1 := by unfold setS; rw [h]; rfl
theorem dropS_ok {f : M Da} {ρ : En} {S S1 : Store} {d : Da} (h : f ρ S = .ok d S1) : dropS f ρ S = .nx ρ S1 := by unfold dropS; rw [h]; rfl
theorem ifS_t {c : M Bool} {f g : MS} {ρ : En} {S S1 : Store} (h : c ρ S = .ok true S1) : ifS c f g ρ S = f ρ S1 := by unfold ifS; rw [h]; rfl
theorem ifS_f {c : M Bool} {f g : MS} {ρ : En} {S S1 : Store} (h : c ρ S = .ok false S1) : ifS c f g ρ S = g ρ S1 := by unfold ifS; rw [h]; rfl
theorem parS_ok {is : List Nat} {t : M (List Da)} {ρ : En} {S S1 : Store} {ds : List Da} (h : t ρ S = .ok ds S1) (hl : ds.length = is.length) : parS is t ρ S = .nx (setAll ρ (is.zip ds)) S1 := by
  unfold parS
  rw [h]
  simp only [Res.thenS]
  rw [if_pos hl]
/-! ### the program's small defs -/
theorem near_by_ok {sp : List (List Int)} {p t : Int} {S : Store} (h0 : 0 ≤ t) (h : t < sp.length) : m_is_near_by [spD sp, .int p, .int t] S = .ok (.bl (decide (p ∈ row sp t))) S := by
  unfold m_is_near_by b_is_near_by
  simp [seqS, ifS, orT, andT, notT, tstM, retS, skipS, setS, dropS, cM, callM, callF, consM, nilM, ifM, andM, notM, orM, varM, listM, frzM, opM, unM, dispM, Res.bind, Res.thenS, ofO, RS.seq, RS.res, defM, List.set, ixD_row h0 h, inD_row]
theorem places_of_ok {sp : List (List Int)} {S : Store} (h : sp.length ≤ 7) : m_places_of [spD sp] S = .ok (.lst (rngL 0 sp.length)) S := by
  unfold m_places_of b_places_of
  have h2 : (sp.length : Int) ≤ 16777216 := by omega
  simp [seqS, ifS, orT, andT, notT, tstM, retS, skipS, setS, dropS, cM, callM, callF, consM, nilM, ifM, andM, notM, orM, varM, listM, frzM, opM, unM, dispM, Res.bind, Res.thenS, ofO, RS.seq, RS.res, defM, List.set, spD, lenD, h2, lrgF]
theorem union_of_ok {r t : List Int} {S : Store} (h : r.length + t.length < 64) : m_union_of [rowD r, rowD t] S = .ok (rowD (sortU (r ++ t))) S := by
  unfold m_union_of b_union_of
  have h1 : r.length + t.length ≤ big := by unfold big; omega
  have h2 : intsOf (r.map Da.int ++ t.map Da.int) = some (r ++ t) := by rw [← List.map_append, ints_some]
  simp [seqS, ifS, orT, andT, notT, tstM, retS, skipS, setS, dropS, cM, callM, callF, consM, nilM, ifM, andM, notM, orM, varM, listM, frzM, opM, unM, dispM, Res.bind, Res.thenS, ofO, RS.seq, RS.res, defM, List.set, rowD, addD, h1, ssF, h2, h, tupleD, asL]
theorem without_ok {r : List Int} {a : Int} {S : Store} (h : r.length ≤ 64) : m_without [rowD r, .int a] S = .ok (rowD (r.filter fun x => !decide (x = a))) S := by
  unfold m_without b_without
  have hl : lcM [2] (.one 2) (itT (varM 0)) (tstM (opM neD (varM 2) (varM 1))) (varM 2) [some (rowD r), some (.int a), none] S = .ok ((r.filter fun x => !decide (x = a)).map Da.int) S := by
    have := lcM_pure (own := [2]) (tg := .one 2) (src := itT (varM 0)) (cond := tstM (opM neD (varM 2) (varM 1))) (elt := varM 2) (ρ := [some (rowD r), some (.int a), none]) (S := S) (ds := r.map Da.int)
      (fun d => match d with | .int x => !decide (x = a) | _ => false) id (by simp [seqS, ifS, orT, andT, notT, tstM, retS, skipS, setS, dropS, cM, callM, callF, consM, nilM, ifM, andM, notM, orM, varM, listM, frzM, opM, unM, dispM, Res.bind, Res.thenS, ofO, RS.seq, RS.res, defM, List.set, itT, rowD]) (by unfold big; simp; omega) fun d hd => by
        obtain ⟨x, _, rfl⟩ := List.mem_map.mp hd
        exact ⟨_, rfl, by simp [seqS, ifS, orT, andT, notT, tstM, retS, skipS, setS, dropS, cM, callM, callF, consM, nilM, ifM, andM, notM, orM, varM, listM, frzM, opM, unM, dispM, Res.bind, Res.thenS, ofO, RS.seq, RS.res, defM, List.set, wipeD, neD_int], fun _ => by simp [seqS, ifS, orT, andT, notT, tstM, retS, skipS, setS, dropS, cM, callM, callF, consM, nilM, ifM, andM, notM, orM, varM, listM, frzM, opM, unM, dispM, Res.bind, Res.thenS, ofO, RS.seq, RS.res, defM, List.set, wipeD]⟩
    rw [this, List.map_id, List.filter_map]
    rfl
  have e1 := tupLc_ok hl
  show (RS.res ((retS (callM tupleD (consM (frzM (lcM [2] (.one 2) (itT (varM 0)) (tstM (opM neD (varM 2) (varM 1))) (varM 2))) nilM))) [some (rowD r), some (.int a), none] S)) = _
  unfold retS
  rw [e1]
  rfl
/-- a space over n places: a square of rows, each strictly rising, of places, with its own place, and what is near what is near -/
structure Good (n : Nat) (sp : List (List Int)) : Prop where
  len : sp.length = n
  rise : ∀ r ∈ sp, r.Pairwise (· < ·)
  rng : ∀ r ∈ sp, ∀ x ∈ r, 0 ≤ x ∧ x < n
  own : ∀ i : Int, 0 ≤ i → i < n → i ∈ row sp i
  tr : ∀ i j k : Int, 0 ≤ i → i < n → j ∈ row sp i → k ∈ row sp j → k ∈ row sp i
theorem row_mem {sp : List (List Int)} {i : Int} (h0 : 0 ≤ i) (h : i < sp.length) : row sp i ∈ sp := by
  have h1 : i.toNat < sp.length := by omega
  unfold row
  rw [List.getElem?_eq_getElem h1]
  exact List.getElem_mem h1
theorem rise_len : ∀ {l : List Int} {a : Int} {n : Nat}, l.Pairwise (· < ·) → (∀ x ∈ l, a ≤ x ∧ x < a + n) → l.length ≤ n
  | [], _, _, _, _ => Nat.zero_le _
  | x :: l, a, 0, _, h => by have := h x List.mem_cons_self; omega
  | x :: l, a, n + 1, hp, h => by
    rw [List.pairwise_cons] at hp
    have hx := h x List.mem_cons_self
    have := rise_len (l := l) (a := a + 1) (n := n) hp.2 fun y hy => by
      have h1 := hp.1 y hy
      have h2 := h y (List.mem_cons_of_mem _ hy)
      omega
    simp; omega
theorem Good.short {n : Nat} {sp : List (List Int)} (g : Good n sp) {r : List Int} (h : r ∈ sp) : r.length ≤ n := rise_len (a := 0) (g.rise r h) fun x hx => by have := g.rng r h x hx; omega
def betw (sp : List (List Int)) (n : Nat) (a b : Int) : Bool := ((List.range n).map fun i : Nat => (i : Int)).any fun c => !(decide (c = a) || decide (c = b)) && (decide (c ∈ row sp b) && decide (a ∈ row sp c))
theorem truths_map (f : Int → Bool) : ∀ l : List Int, truths (l.map fun x => Da.bl (f x)) = some (l.map f)
  | [] => rfl
  | x :: l => by rw [List.map_cons, truths, truths_map f l]; rfl
theorem rngL_ints (n : Nat) : rngL 0 n = ((List.range n).map fun i : Nat => (i : Int)).map Da.int := by
  unfold rngL
  rw [List.map_map]
  apply List.map_congr_left
  intro i _
  simp
theorem mem_ints {n : Nat} {x : Int} : x ∈ ((List.range n).map fun i : Nat => (i : Int)) ↔ 0 ≤ x ∧ x < n := by
  rw [List.mem_map]
  constructor
  · rintro ⟨i, h, rfl⟩
    rw [List.mem_range] at h
    omega
  · intro h
    exact ⟨x.toNat, by rw [List.mem_range]; omega, by omega⟩
theorem has_between_ok {n : Nat} {sp : List (List Int)} {a b : Int} {S : Store} (hl : sp.length = n) (h7 : n ≤ 7) (b0 : 0 ≤ b) (bn : b < n) : m_has_between [spD sp, .int a, .int b] S = .ok (.bl (betw sp n a b)) S := by
  unfold m_has_between b_has_between
  have e1 : lcM [4] (.one 4) (itL (callF 1 m_places_of (consM (varM 0) (nilM)))) (tstM (opM notInD (varM 4) (tupM (consM (varM 1) (consM (varM 2) (nilM)))))) (varM 4) [some (spD sp), some (.int a), some (.int b), none, none] S =
      .ok ((((List.range n).map fun i : Nat => (i : Int)).filter fun c => !(decide (c = a) || decide (c = b))).map Da.int) S := by
    have := lcM_pure (own := [4]) (tg := .one 4) (src := itL (callF 1 m_places_of (consM (varM 0) (nilM)))) (cond := tstM (opM notInD (varM 4) (tupM (consM (varM 1) (consM (varM 2) (nilM)))))) (elt := varM 4)
      (ρ := [some (spD sp), some (.int a), some (.int b), none, none]) (S := S) (ds := rngL 0 n)
      (fun d => match d with | .int x => !(decide (x = a) || decide (x = b)) | _ => false) id (by simp [seqS, ifS, orT, andT, notT, tstM, retS, skipS, setS, dropS, cM, callM, callF, consM, nilM, ifM, andM, notM, orM, varM, listM, frzM, opM, unM, dispM, Res.bind, Res.thenS, ofO, RS.seq, RS.res, defM, List.set, itL, places_of_ok (sp := sp) (S := S) (by omega), hl]) (by unfold big; simp [rngL]; omega) fun d hd => by
        rw [rngL_ints] at hd
        obtain ⟨x, _, rfl⟩ := List.mem_map.mp hd
        have hn : notInD (.int x) (.tup [.int a, .int b]) S = some (.bl (!(decide (x = a) || decide (x = b)))) := by
          have := notInD_row x [a, b] S
          unfold rowD at this
          rw [List.map_cons, List.map_cons, List.map_nil] at this
          rw [this]
          simp
        have h2 : (2 : Nat) ≤ big := by decide
        exact ⟨_, rfl, by simp [seqS, ifS, orT, andT, notT, tstM, retS, skipS, setS, dropS, cM, callM, callF, consM, nilM, ifM, andM, notM, orM, varM, listM, frzM, opM, unM, dispM, Res.bind, Res.thenS, ofO, RS.seq, RS.res, defM, List.set, wipeD, hn, h2], fun _ => by simp [seqS, ifS, orT, andT, notT, tstM, retS, skipS, setS, dropS, cM, callM, callF, consM, nilM, ifM, andM, notM, orM, varM, listM, frzM, opM, unM, dispM, Res.bind, Res.thenS, ofO, RS.seq, RS.res, defM, List.set, wipeD]⟩
    rw [this, List.map_id, rngL_ints, List.filter_map]
    rfl
  have e2 : setS 3 (frzM (lcM [4] (.one 4) (itL (callF 1 m_places_of (consM (varM 0) (nilM)))) (tstM (opM notInD (varM 4) (tupM (consM (varM 1) (consM (varM 2) (nilM)))))) (varM 4))) [some (spD sp), some (.int a), some (.int b), none, none] S =
      .nx [some (spD sp), some (.int a), some (.int b), some (.lst ((((List.range n).map fun i : Nat => (i : Int)).filter fun c => !(decide (c = a) || decide (c = b))).map Da.int)), none] S := by
    unfold setS
    rw [frz_ok e1]
    rfl
  generalize hth : (((List.range n).map fun i : Nat => (i : Int)).filter fun c => !(decide (c = a) || decide (c = b))) = th at e2
  have hin : ∀ x ∈ th, 0 ≤ x ∧ x < n := fun x hx => by
    rw [← hth] at hx
    exact mem_ints.mp (List.mem_filter.mp hx).1
  have hshort : th.length ≤ 7 := by
    rw [← hth]
    refine Nat.le_trans (List.length_filter_le _ _) ?_
    simp; omega
  have e3 : lcM [4] (.one 4) (itL (varM 3)) (yesM) (andM (callF 3 m_is_near_by (consM (varM 0) (consM (varM 4) (consM (varM 2) (nilM))))) (callF 3 m_is_near_by (consM (varM 0) (consM (varM 1) (consM (varM 4) (nilM))))))
      [some (spD sp), some (.int a), some (.int b), some (.lst (th.map Da.int)), none] S = .ok (th.map fun x => .bl (decide (x ∈ row sp b) && decide (a ∈ row sp x))) S := by
    have := lcM_pure (own := [4]) (tg := .one 4) (src := itL (varM 3)) (cond := yesM) (elt := andM (callF 3 m_is_near_by (consM (varM 0) (consM (varM 4) (consM (varM 2) (nilM))))) (callF 3 m_is_near_by (consM (varM 0) (consM (varM 1) (consM (varM 4) (nilM))))))
      (ρ := [some (spD sp), some (.int a), some (.int b), some (.lst (th.map Da.int)), none]) (S := S) (ds := th.map Da.int) (fun _ => true) (fun d => match d with | .int x => .bl (decide (x ∈ row sp b) && decide (a ∈ row sp x)) | _ => .non)
      (by simp [seqS, ifS, orT, andT, notT, tstM, retS, skipS, setS, dropS, cM, callM, callF, consM, nilM, ifM, andM, notM, orM, varM, listM, frzM, opM, unM, dispM, Res.bind, Res.thenS, ofO, RS.seq, RS.res, defM, List.set, itL]) (by unfold big; simp; omega) fun d hd => by
        obtain ⟨x, hx, rfl⟩ := List.mem_map.mp hd
        have hb := hin x hx
        refine ⟨_, rfl, rfl, fun _ => ?_⟩
        have n1 := near_by_ok (sp := sp) (p := x) (t := b) (S := S) b0 (by omega)
        have n2 := near_by_ok (sp := sp) (p := a) (t := x) (S := S) hb.1 (by omega)
        by_cases q : x ∈ row sp b
        · simp [seqS, ifS, orT, andT, notT, tstM, retS, skipS, setS, dropS, cM, callM, callF, consM, nilM, ifM, andM, notM, orM, varM, listM, frzM, opM, unM, dispM, Res.bind, Res.thenS, ofO, RS.seq, RS.res, defM, List.set, wipeD, n1, n2, q]
        · simp [seqS, ifS, orT, andT, notT, tstM, retS, skipS, setS, dropS, cM, callM, callF, consM, nilM, ifM, andM, notM, orM, varM, listM, frzM, opM, unM, dispM, Res.bind, Res.thenS, ofO, RS.seq, RS.res, defM, List.set, wipeD, n1, n2, q]
    rw [this]
    have f1 : ∀ l : List Da, l.filter (fun _ => true) = l := fun l => by induction l with | nil => rfl | cons x l ih => simp [ih]
    rw [f1, List.map_map]
    rfl
  show RS.res (seqS (setS 3 (frzM _)) _ [some (spD sp), some (.int a), some (.int b), none, none] S) = _
  rw [seqS_nx e2]
  have e4 : callM anyD (consM (frzM (lcM [4] (.one 4) (itL (varM 3)) (yesM) (andM (callF 3 m_is_near_by (consM (varM 0) (consM (varM 4) (consM (varM 2) (nilM))))) (callF 3 m_is_near_by (consM (varM 0) (consM (varM 1) (consM (varM 4) (nilM)))))))) (nilM))
      [some (spD sp), some (.int a), some (.int b), some (.lst (th.map Da.int)), none] S = .ok (.bl (betw sp n a b)) S := by
    refine callM_ok (consM1_ok (frz_ok e3)) ?_
    have tt := truths_map (fun x => decide (x ∈ row sp b) && decide (a ∈ row sp x)) th
    simp only [anyD, asL, Option.bind, tt, Option.map]
    congr 2
    unfold betw
    rw [← hth, List.any_map, List.any_filter]
    rfl
  unfold retS
  rw [e4]
  rfl
/-! ### deeds -/
/-- the reason against a deed, or none -/
def reason (sp : List (List Int)) (n : Nat) (w : Str) (a b : Int) : Option Str :=
  if w = "near" then (if a ∈ row sp b then some ("same" : Str) else none) else if a ∈ row sp b then (if betw sp n a b = true then some ("through" : Str) else none) else some ("none" : Str)
def optD : Option Str → Da
  | some x => .str x
  | none => .non
def deedD (w : Str) (a b : Int) : Da := .tup [.str w, .int a, .int b]
def isWord (w : Str) : Prop := w = "near" ∨ w = "far"
theorem unpack3 {w : Str} {a b : Int} {r0 : Da} {r2 r3 r4 : Option Da} {rest : En} {S : Store} : asgGS (tupT 3 (consT (nameT 2) (consT (nameT 3) (consT (nameT 4) (nilT))))) (varM 1) (some r0 :: some (deedD w a b) :: r2 :: r3 :: r4 :: rest) S =
    .nx (some r0 :: some (deedD w a b) :: some (.str w) :: some (.int a) :: some (.int b) :: rest) S := by
  simp [asgGS, varM, Res.thenS, deedD, tupT, consT, nameT, nilT, RS.seq, onlyNx]
theorem reason_ok {n : Nat} {sp : List (List Int)} {w : Str} {a b : Int} {S : Store} (hl : sp.length = n) (h7 : n ≤ 7) (hw : isWord w) (a0 : 0 ≤ a) (an : a < n) (b0 : 0 ≤ b) (bn : b < n) : m_reason_against [spD sp, deedD w a b] S = .ok (optD (reason sp n w a b)) S := by
  unfold m_reason_against
  show RS.res (b_reason_against [some (spD sp), some (deedD w a b), none, none, none] S) = _
  unfold b_reason_against
  rw [seqS_nx unpack3]
  have n1 := near_by_ok (sp := sp) (p := a) (t := b) (S := S) b0 (by omega)
  have hb := has_between_ok (sp := sp) (a := a) (b := b) (S := S) hl h7 b0 bn
  have hq := eqD_str w "near" S
  unfold reason
  by_cases q1 : w = "near"
  · rw [if_pos q1]
    rw [decide_eq_true q1] at hq
    by_cases q2 : a ∈ row sp b
    · rw [if_pos q2]; simp [seqS, ifS, orT, andT, notT, tstM, retS, skipS, setS, dropS, cM, callM, callF, consM, nilM, ifM, andM, notM, orM, varM, listM, frzM, opM, unM, dispM, Res.bind, Res.thenS, ofO, RS.seq, RS.res, defM, List.set, hq, n1, q2, optD]
    · rw [if_neg q2]; simp [seqS, ifS, orT, andT, notT, tstM, retS, skipS, setS, dropS, cM, callM, callF, consM, nilM, ifM, andM, notM, orM, varM, listM, frzM, opM, unM, dispM, Res.bind, Res.thenS, ofO, RS.seq, RS.res, defM, List.set, hq, n1, q2, optD]
  · rw [if_neg q1]
    rw [decide_eq_false q1] at hq
    by_cases q2 : a ∈ row sp b
    · rw [if_pos q2]
      by_cases q3 : betw sp n a b = true
      · rw [if_pos q3]; simp [seqS, ifS, orT, andT, notT, tstM, retS, skipS, setS, dropS, cM, callM, callF, consM, nilM, ifM, andM, notM, orM, varM, listM, frzM, opM, unM, dispM, Res.bind, Res.thenS, ofO, RS.seq, RS.res, defM, List.set, hq, n1, hb, q2, q3, optD]
      · rw [if_neg q3]; simp [seqS, ifS, orT, andT, notT, tstM, retS, skipS, setS, dropS, cM, callM, callF, consM, nilM, ifM, andM, notM, orM, varM, listM, frzM, opM, unM, dispM, Res.bind, Res.thenS, ofO, RS.seq, RS.res, defM, List.set, hq, n1, hb, q2, q3, optD]
    · rw [if_neg q2]; simp [seqS, ifS, orT, andT, notT, tstM, retS, skipS, setS, dropS, cM, callM, callF, consM, nilM, ifM, andM, notM, orM, varM, listM, frzM, opM, unM, dispM, Res.bind, Res.thenS, ofO, RS.seq, RS.res, defM, List.set, hq, n1, q2, optD]
theorem fits {n : Nat} {sp : List (List Int)} {x : Int} {S : Store} (hl : sp.length = n) (x0 : 0 ≤ x) (xn : x < n) : m_is_place_of [spD sp, .int x] S = .ok (.bl true) S := by
  have e : m_is_between [.int x, .int 0, .int (sp.length - 1)] S = .ok (.bl true) S := by
    have h1 : x ≤ (sp.length : Int) - 1 := by omega
    have w1 : m_is_whole [.int x] S = .ok (.bl true) S := rfl
    unfold m_is_between
    show RS.res (b_is_between [some (.int x), some (.int 0), some (.int (sp.length - 1))] S) = _
    unfold b_is_between
    simp [seqS, ifS, orT, andT, notT, tstM, retS, skipS, setS, dropS, cM, callM, callF, consM, nilM, ifM, andM, notM, orM, varM, listM, frzM, opM, unM, dispM, Res.bind, Res.thenS, ofO, RS.seq, RS.res, defM, List.set, w1, chainM, leD, ii, x0, h1]
  unfold m_is_place_of
  show RS.res (b_is_place_of [some (spD sp), some (.int x)] S) = _
  unfold b_is_place_of
  have e2 : (spD sp) = .tup (sp.map rowD) := rfl
  simp [seqS, ifS, orT, andT, notT, tstM, retS, skipS, setS, dropS, cM, callM, callF, consM, nilM, ifM, andM, notM, orM, varM, listM, frzM, opM, unM, dispM, Res.bind, Res.thenS, ofO, RS.seq, RS.res, defM, List.set, e2, lenD, subD, ii, e]
theorem check_ok {n : Nat} {sp : List (List Int)} {w : Str} {a b : Int} {S : Store} (hl : sp.length = n) (hw : isWord w) (a0 : 0 ≤ a) (an : a < n) (b0 : 0 ≤ b) (bn : b < n) (hab : a ≠ b) : m_check_deed [spD sp, deedD w a b] S = .ok .non S := by
  have hf : m_has_form [deedD w a b] S = .ok (.bl true) S := by rcases hw with rfl | rfl <;> kernel_rfl
  have fa := fits (S := S) hl a0 an
  have fb := fits (S := S) hl b0 bn
  have i1 : ixD (deedD w a b) (.int 1) S = some (.int a) := rfl
  have i2 : ixD (deedD w a b) (.int 2) S = some (.int b) := rfl
  have hq := eqD_int b a S
  have hba : ¬ b = a := fun z => hab z.symm
  unfold m_check_deed
  show RS.res (b_check_deed [some (spD sp), some (deedD w a b)] S) = _
  unfold b_check_deed
  simp [seqS, ifS, orT, andT, notT, tstM, retS, skipS, setS, dropS, cM, callM, callF, consM, nilM, ifM, andM, notM, orM, varM, listM, frzM, opM, unM, dispM, Res.bind, Res.thenS, ofO, RS.seq, RS.res, defM, List.set, hf, fa, fb, i1, i2, hq, hba]
/-- the space behind a deed that is let -/
def behind (sp : List (List Int)) (w : Str) (a b : Int) : List (List Int) :=
  if w = "near" then sp.map fun r => if b ∈ r then sortU (r ++ row sp a) else r
  else (List.range sp.length).zipWith (fun (i : Nat) (r : List Int) => if (i : Int) = b then r.filter (fun x => !decide (x = a)) else r) sp
theorem behind_ok {n : Nat} {sp : List (List Int)} {w : Str} {a b : Int} {S : Store} (g : Good n sp) (h7 : n ≤ 7) (hw : isWord w) (a0 : 0 ≤ a) (an : a < n) : m_space_behind [spD sp, deedD w a b] S = .ok (spD (behind sp w a b)) S := by
  have hl := g.len
  unfold m_space_behind
  show RS.res (b_space_behind [some (spD sp), some (deedD w a b), none, none, none, none, none] S) = _
  unfold b_space_behind
  rw [seqS_nx unpack3]
  have hq := eqD_str w "near" S
  by_cases q1 : w = "near"
  · have hi := ixD_row (sp := sp) (S := S) a0 (by omega)
    have e1 : lcM [5] (.one 5) (itT (varM 0)) (yesM) (ifM (tstM (opM inD (varM 4) (varM 5))) (callF 2 m_union_of (consM (varM 5) (consM (opM ixD (varM 0) (varM 3)) (nilM)))) (varM 5))
        [some (spD sp), some (deedD w a b), some (.str w), some (.int a), some (.int b), none, none] S = .ok ((behind sp w a b).map rowD) S := by
      have := lcM_pure (own := [5]) (tg := .one 5) (src := itT (varM 0)) (cond := yesM) (elt := ifM (tstM (opM inD (varM 4) (varM 5))) (callF 2 m_union_of (consM (varM 5) (consM (opM ixD (varM 0) (varM 3)) (nilM)))) (varM 5))
        (ρ := [some (spD sp), some (deedD w a b), some (.str w), some (.int a), some (.int b), none, none]) (S := S) (ds := sp.map rowD) (fun _ => true)
        (fun d => rowD (if b ∈ unrow d then sortU (unrow d ++ row sp a) else unrow d)) (by simp [seqS, ifS, orT, andT, notT, tstM, retS, skipS, setS, dropS, cM, callM, callF, consM, nilM, ifM, andM, notM, orM, varM, listM, frzM, opM, unM, dispM, Res.bind, Res.thenS, ofO, RS.seq, RS.res, defM, List.set, itT, spD]) (by unfold big; simp; omega) fun d hd => by
          obtain ⟨r, hr, rfl⟩ := List.mem_map.mp hd
          refine ⟨_, rfl, rfl, fun _ => ?_⟩
          have s1 := g.short hr
          have s2 := g.short (row_mem (sp := sp) a0 (by omega))
          have hu := union_of_ok (r := r) (t := row sp a) (S := S) (by omega)
          have hin := inD_row b r S
          by_cases q : b ∈ r
          · simp [seqS, ifS, orT, andT, notT, tstM, retS, skipS, setS, dropS, cM, callM, callF, consM, nilM, ifM, andM, notM, orM, varM, listM, frzM, opM, unM, dispM, Res.bind, Res.thenS, ofO, RS.seq, RS.res, defM, List.set, wipeD, hin, q, hu, hi, unrow_row]
          · simp [seqS, ifS, orT, andT, notT, tstM, retS, skipS, setS, dropS, cM, callM, callF, consM, nilM, ifM, andM, notM, orM, varM, listM, frzM, opM, unM, dispM, Res.bind, Res.thenS, ofO, RS.seq, RS.res, defM, List.set, wipeD, hin, q, unrow_row]
      rw [this]
      have f1 : ∀ l : List Da, l.filter (fun _ => true) = l := fun l => by induction l with | nil => rfl | cons x l ih => simp [ih]
      rw [f1, List.map_map]
      unfold behind
      rw [if_pos q1, List.map_map]
      congr 1
      apply List.map_congr_left
      intro r _
      simp [unrow_row]
    rw [seqS_rt (d := spD (behind sp w a b)) (S1 := S)]
    · rfl
    · rw [decide_eq_true q1] at hq
      rw [ifS_t (S1 := S) (by simp [seqS, ifS, orT, andT, notT, tstM, retS, skipS, setS, dropS, cM, callM, callF, consM, nilM, ifM, andM, notM, orM, varM, listM, frzM, opM, unM, dispM, Res.bind, Res.thenS, ofO, RS.seq, RS.res, defM, List.set, hq])]
      exact retS_ok (tupLc_ok e1)
  · rw [seqS_nx (ρ1 := [some (spD sp), some (deedD w a b), some (.str w), some (.int a), some (.int b), none, none]) (S1 := S) (by rw [decide_eq_false q1] at hq; rw [ifS_f (S1 := S) (by simp [seqS, ifS, orT, andT, notT, tstM, retS, skipS, setS, dropS, cM, callM, callF, consM, nilM, ifM, andM, notM, orM, varM, listM, frzM, opM, unM, dispM, Res.bind, Res.thenS, ofO, RS.seq, RS.res, defM, List.set, hq])]; rfl)]
    have e1 : lcM [6, 5] (.many [6, 5]) (itET (varM 0)) (yesM) (ifM (tstM (opM eqD (varM 6) (varM 4))) (callF 2 m_without (consM (varM 5) (consM (varM 3) (nilM)))) (varM 5))
        [some (spD sp), some (deedD w a b), some (.str w), some (.int a), some (.int b), none, none] S = .ok ((behind sp w a b).map rowD) S := by
      have := lcM_pure (own := [6, 5]) (tg := .many [6, 5]) (src := itET (varM 0)) (cond := yesM) (elt := ifM (tstM (opM eqD (varM 6) (varM 4))) (callF 2 m_without (consM (varM 5) (consM (varM 3) (nilM)))) (varM 5))
        (ρ := [some (spD sp), some (deedD w a b), some (.str w), some (.int a), some (.int b), none, none]) (S := S) (ds := enumL (sp.map rowD)) (fun _ => true)
        (fun d => match d with | .tup [.int i, e] => rowD (if i = b then (unrow e).filter (fun x => !decide (x = a)) else unrow e) | _ => .non) (by simp [seqS, ifS, orT, andT, notT, tstM, retS, skipS, setS, dropS, cM, callM, callF, consM, nilM, ifM, andM, notM, orM, varM, listM, frzM, opM, unM, dispM, Res.bind, Res.thenS, ofO, RS.seq, RS.res, defM, List.set, itET, spD]) (by rw [enumL_length]; unfold big; simp; omega) fun d hd => by
          unfold enumL at hd
          obtain ⟨k, hk, rfl⟩ := List.mem_iff_getElem.mp hd
          simp only [List.getElem_zipWith, List.getElem_map, List.getElem_range]
          have hk2 : k < sp.length := by simpa using hk
          have hr : sp[k] ∈ sp := List.getElem_mem hk2
          refine ⟨[some (spD sp), some (deedD w a b), some (.str w), some (.int a), some (.int b), some (rowD sp[k]), some (.int k)], by simp [bindT, setAll, wipeD, List.set], rfl, fun _ => ?_⟩
          have hwo := without_ok (r := sp[k]) (a := a) (S := S) (by have := g.short hr; omega)
          have he := eqD_int (k : Int) b S
          by_cases q : (k : Int) = b
          · rw [decide_eq_true q] at he
            simp [seqS, ifS, orT, andT, notT, tstM, retS, skipS, setS, dropS, cM, callM, callF, consM, nilM, ifM, andM, notM, orM, varM, listM, frzM, opM, unM, dispM, Res.bind, Res.thenS, ofO, RS.seq, RS.res, defM, List.set, he, hwo, unrow_row]
            simp [q]
          · rw [decide_eq_false q] at he
            simp [seqS, ifS, orT, andT, notT, tstM, retS, skipS, setS, dropS, cM, callM, callF, consM, nilM, ifM, andM, notM, orM, varM, listM, frzM, opM, unM, dispM, Res.bind, Res.thenS, ofO, RS.seq, RS.res, defM, List.set, he, q, unrow_row]
      rw [this]
      have f1 : ∀ l : List Da, l.filter (fun _ => true) = l := fun l => by induction l with | nil => rfl | cons x l ih => simp [ih]
      rw [f1]
      unfold behind enumL
      rw [if_neg q1]
      congr 1
      refine List.ext_getElem (by simp) ?_
      intro k h1 h2
      simp [unrow_row]
    exact congrArg RS.res (retS_ok (tupLc_ok e1))
/-! ### a yard -/
def yf (n : Int) (sp : List (List Int)) (dl : List Da) (p : Nat) : List (Str × Da) := [("places", .int n), ("space", spD sp), ("deeds", .tup dl), ("past", .cell p)]
def yardC (n : Int) (sp : List (List Int)) (dl : List Da) (p : Nat) : Cell := .obj "Yard" (yf n sp dl p)
theorem yard_fld {n : Int} {sp : List (List Int)} {dl : List Da} {p j i : Nat} {f : Str} {d : Da} {ρ : En} {S : Store} (h : S[j]? = some (yardC n sp dl p)) (hρ : ρ[i]? = some (some (.cell j))) (hf : (yf n sp dl p).lookup f = some d) : fldM "Yard" f (varM i) ρ S = .ok d S := by
  have e : objAt S "Yard" (.cell j) = some (j, yf n sp dl p) := by
    unfold objAt
    dsimp only
    rw [h]
    exact if_pos rfl
  unfold fldM varM
  rw [hρ]
  simp only [Res.bind, e, hf, ofO]
theorem yard_set {n : Int} {sp : List (List Int)} {dl : List Da} {p j i : Nat} {f : Str} {d : Da} {ρ : En} {S S1 : Store} {fe : M Da} {c2 : Cell} (he : fe ρ S = .ok d S1) (h : S1[j]? = some (yardC n sp dl p)) (hρ : ρ[i]? = some (some (.cell j))) (hp : Cell.obj "Yard" (putD f d (yf n sp dl p)) = c2) : setFS "Yard" f (varM i) fe ρ S = .nx ρ (S1.set j c2) := by
  have e : objAt S1 "Yard" (.cell j) = some (j, yf n sp dl p) := by
    unfold objAt
    dsimp only
    rw [h]
    exact if_pos rfl
  unfold setFS varM
  rw [he, hρ]
  simp only [Res.thenS, e]
  rw [if_pos (by show 4 < 1000; decide), hp]
theorem put_space {n : Int} {sp sp2 : List (List Int)} {dl : List Da} {p : Nat} : Cell.obj "Yard" (putD "space" (spD sp2) (yf n sp dl p)) = yardC n sp2 dl p := by kernel_rfl
theorem put_deeds {n : Int} {sp : List (List Int)} {dl dl2 : List Da} {p : Nat} : Cell.obj "Yard" (putD "deeds" (.tup dl2) (yf n sp dl p)) = yardC n sp dl2 p := by kernel_rfl
theorem lk_places {n : Int} {sp : List (List Int)} {dl : List Da} {p : Nat} : (yf n sp dl p).lookup ("places" : Str) = some (Da.int n) := by kernel_rfl
theorem lk_space {n : Int} {sp : List (List Int)} {dl : List Da} {p : Nat} : (yf n sp dl p).lookup ("space" : Str) = some (spD sp) := by kernel_rfl
theorem lk_deeds {n : Int} {sp : List (List Int)} {dl : List Da} {p : Nat} : (yf n sp dl p).lookup ("deeds" : Str) = some (Da.tup dl) := by kernel_rfl
theorem lk_past {n : Int} {sp : List (List Int)} {dl : List Da} {p : Nat} : (yf n sp dl p).lookup ("past" : Str) = some (Da.cell p) := by kernel_rfl
theorem lk_do {n : Int} {sp : List (List Int)} {dl : List Da} {p : Nat} : (yf n sp dl p).lookup ("do" : Str) = none := by kernel_rfl
theorem consM2 {f g : M Da} {ρ : En} {S S1 S2 : Store} {a b : Da} (hf : f ρ S = .ok a S1) (hg : g ρ S1 = .ok b S2) : consM f (consM g nilM) ρ S = .ok [a, b] S2 := by
  unfold consM
  simp only [hf, Res.bind]
  simp only [hg, nilM]
theorem var_ok {ρ : En} {i : Nat} {d : Da} {S : Store} (h : ρ[i]? = some (some d)) : varM i ρ S = .ok d S := by unfold varM; rw [h]
section
variable {n : Nat} {sp : List (List Int)} {dl pl : List Da} {p j : Nat} {w : Str} {a b : Int} {S : Store}
/-- do: a deed that is let -/
theorem do_ok (g : Good n sp) (h7 : n ≤ 7) (hj : S[j]? = some (yardC n sp dl p)) (hp : S[p]? = some (.lst pl)) (hpl : pl.length < big) (hdl : dl.length < big) (hw : isWord w) (a0 : 0 ≤ a) (an : a < n) (b0 : 0 ≤ b) (bn : b < n) (hab : a ≠ b)
    (hr : reason sp n w a b = none) : m_Yard_do [.cell j, deedD w a b] S = .ok .non ((S.set p (.lst (pl ++ [spD sp]))).set j (yardC n (behind sp w a b) (dl ++ [deedD w a b]) p)) := by
  have hjp : p ≠ j := fun z => by subst z; rw [hj] at hp; cases hp
  have jl : j < S.length := (List.getElem?_eq_some_iff.mp hj).1
  have pl1 : p < S.length := (List.getElem?_eq_some_iff.mp hp).1
  unfold m_Yard_do
  show RS.res (b_Yard_do [some (.cell j), some (deedD w a b), none] S) = _
  unfold b_Yard_do
  have f1 := yard_fld (i := 0) (ρ := [some (.cell j), some (deedD w a b), none]) hj rfl lk_space
  have e1 := dropS_ok (callF_ok (n := 2) (consM2 f1 (var_ok (i := 1) rfl)) rfl (check_ok (S := S) g.len hw a0 an b0 bn hab))
  rw [seqS_nx e1]
  have e2 := setS_ok (i := 2) (callF_ok (n := 2) (consM2 f1 (var_ok (i := 1) rfl)) rfl (reason_ok (S := S) g.len h7 hw a0 an b0 bn))
  rw [seqS_nx e2, hr]
  have e3 : ifS (tstM (opM notND (varM 2) (cM .non))) (raiseS "Barred" (varM 2)) skipS [some (.cell j), some (deedD w a b), some .non] S = .nx [some (.cell j), some (deedD w a b), some .non] S := rfl
  rw [show (List.set [some (Da.cell j), some (deedD w a b), none] 2 (some (optD none)) : En) = [some (.cell j), some (deedD w a b), some .non] from rfl, seqS_nx e3]
  have f2 := yard_fld (i := 0) (ρ := [some (.cell j), some (deedD w a b), some .non]) hj rfl lk_space
  have f3 := yard_fld (i := 0) (ρ := [some (.cell j), some (deedD w a b), some .non]) hj rfl lk_past
  have e4 : appM (fldM "Yard" "past" (varM 0)) (fldM "Yard" "space" (varM 0)) [some (.cell j), some (deedD w a b), some .non] S = .ok .non (S.set p (.lst (pl ++ [spD sp]))) := by
    have c : cellL S (.cell p) = some (p, pl) := by unfold cellL; dsimp only; rw [hp]
    unfold appM
    rw [f3]
    simp only [Res.bind, c, f2]
    rw [if_pos hpl]
  rw [seqS_nx (dropS_ok e4)]
  have hj1 : (S.set p (.lst (pl ++ [spD sp])))[j]? = some (yardC n sp dl p) := by rw [List.getElem?_set_ne hjp]; exact hj
  have f4 := yard_fld (i := 0) (ρ := [some (.cell j), some (deedD w a b), some .non]) hj1 rfl lk_space
  have e5 := yard_set (i := 0) (f := "space") (callF_ok (n := 2) (consM2 f4 (var_ok (i := 1) rfl)) rfl (behind_ok (w := w) (a := a) (b := b) (S := S.set p (.lst (pl ++ [spD sp]))) g h7 hw a0 an)) hj1 rfl put_space
  rw [seqS_nx e5]
  have hj2 : ((S.set p (.lst (pl ++ [spD sp]))).set j (yardC n (behind sp w a b) dl p))[j]? = some (yardC n (behind sp w a b) dl p) := List.getElem?_set_self (by simpa using jl)
  have f5 := yard_fld (i := 0) (ρ := [some (.cell j), some (deedD w a b), some .non]) hj2 rfl lk_deeds
  have h1 : (1 : Nat) ≤ big := by decide
  have h2 : dl.length + 1 ≤ big := hdl
  have e6 : opM addD (fldM "Yard" "deeds" (varM 0)) (tupM (consM (varM 1) nilM)) [some (.cell j), some (deedD w a b), some .non] ((S.set p (.lst (pl ++ [spD sp]))).set j (yardC n (behind sp w a b) dl p)) =
      .ok (.tup (dl ++ [deedD w a b])) ((S.set p (.lst (pl ++ [spD sp]))).set j (yardC n (behind sp w a b) dl p)) := by
    unfold opM
    rw [f5]
    simp [dispM, consM, nilM, varM, Res.bind, h1, addD, h2, ofO]
  rw [yard_set (i := 0) (f := "deeds") e6 hj2 rfl put_deeds, List.set_set]
  rfl
/-- do: a barred one -/
theorem do_barred {x : Str} (g : Good n sp) (h7 : n ≤ 7) (hj : S[j]? = some (yardC n sp dl p)) (hw : isWord w) (a0 : 0 ≤ a) (an : a < n) (b0 : 0 ≤ b) (bn : b < n) (hab : a ≠ b)
    (hr : reason sp n w a b = some x) : m_Yard_do [.cell j, deedD w a b] S = .exc "Barred" (.str x) S := by
  unfold m_Yard_do
  show RS.res (b_Yard_do [some (.cell j), some (deedD w a b), none] S) = _
  unfold b_Yard_do
  have f1 := yard_fld (i := 0) (ρ := [some (.cell j), some (deedD w a b), none]) hj rfl lk_space
  have e1 := dropS_ok (callF_ok (n := 2) (consM2 f1 (var_ok (i := 1) rfl)) rfl (check_ok (S := S) g.len hw a0 an b0 bn hab))
  rw [seqS_nx e1]
  have e2 := setS_ok (i := 2) (callF_ok (n := 2) (consM2 f1 (var_ok (i := 1) rfl)) rfl (reason_ok (S := S) g.len h7 hw a0 an b0 bn))
  rw [seqS_nx e2, hr]
  rfl
end
/-! ### what is good stays good -/
theorem sortU_same {r : List Int} (h : r.Pairwise (· < ·)) : sortU r = r := sorted_eq (sortU_sorted r) h fun k => mem_sortU
theorem row_map {sp : List (List Int)} {f : List Int → List Int} {i : Int} (h0 : 0 ≤ i) (h : i < sp.length) : row (sp.map f) i = f (row sp i) := by
  have h1 : i.toNat < sp.length := by omega
  simp [row, h1]
theorem row_zip {sp : List (List Int)} {f : Nat → List Int → List Int} {i : Int} (h0 : 0 ≤ i) (h : i < sp.length) : row ((List.range sp.length).zipWith f sp) i = f i.toNat (row sp i) := by
  have h1 : i.toNat < sp.length := by omega
  simp [row, h1]
theorem row_out {sp : List (List Int)} {i : Int} (h : (sp.length : Int) ≤ i) : row sp i = [] := by
  have : sp[i.toNat]? = none := List.getElem?_eq_none (by omega)
  unfold row
  rw [this]; rfl
theorem Good.rowRise {n : Nat} {sp : List (List Int)} (g : Good n sp) {i : Int} (h0 : 0 ≤ i) (h : i < n) : (row sp i).Pairwise (· < ·) := g.rise _ (row_mem h0 (by rw [g.len]; exact h))
theorem Good.rowRng {n : Nat} {sp : List (List Int)} (g : Good n sp) {i x : Int} (h0 : 0 ≤ i) (h : i < n) (hx : x ∈ row sp i) : 0 ≤ x ∧ x < n := g.rng _ (row_mem h0 (by rw [g.len]; exact h)) x hx
theorem good_of {n : Nat} {sp : List (List Int)} (len : sp.length = n) (rise : ∀ i : Int, 0 ≤ i → i < n → (row sp i).Pairwise (· < ·)) (rng : ∀ i x : Int, 0 ≤ i → i < n → x ∈ row sp i → 0 ≤ x ∧ x < n)
    (own : ∀ i : Int, 0 ≤ i → i < n → i ∈ row sp i) (tr : ∀ i j k : Int, 0 ≤ i → i < n → j ∈ row sp i → k ∈ row sp j → k ∈ row sp i) : Good n sp := by
  have all : ∀ r ∈ sp, ∃ i : Int, 0 ≤ i ∧ i < n ∧ row sp i = r := fun r hr => by
    obtain ⟨k, hk, rfl⟩ := List.mem_iff_getElem.mp hr
    exact ⟨(k : Int), by omega, by omega, by simp [row, hk]⟩
  exact ⟨len, fun r hr => by obtain ⟨i, h0, h, rfl⟩ := all r hr; exact rise i h0 h, fun r hr x hx => by obtain ⟨i, h0, h, rfl⟩ := all r hr; exact rng i x h0 h hx, own, tr⟩
theorem good_near {n : Nat} {sp : List (List Int)} {a b : Int} (g : Good n sp) (a0 : 0 ≤ a) (an : a < n) : Good n (behind sp "near" a b) := by
  have e : behind sp "near" a b = sp.map fun r => if b ∈ r then sortU (r ++ row sp a) else r := if_pos rfl
  rw [e]
  have rw1 : ∀ i : Int, 0 ≤ i → i < n → row (sp.map fun r => if b ∈ r then sortU (r ++ row sp a) else r) i = if b ∈ row sp i then sortU (row sp i ++ row sp a) else row sp i := fun i h0 h => row_map (f := fun r => if b ∈ r then sortU (r ++ row sp a) else r) h0 (by rw [g.len]; exact h)
  have mem : ∀ i x : Int, 0 ≤ i → i < n → (x ∈ row (sp.map fun r => if b ∈ r then sortU (r ++ row sp a) else r) i ↔ x ∈ row sp i ∨ (b ∈ row sp i ∧ x ∈ row sp a)) := fun i x h0 h => by
    rw [rw1 i h0 h]
    by_cases q : b ∈ row sp i
    · rw [if_pos q, mem_sortU, List.mem_append]; simp [q]
    · rw [if_neg q]; simp [q]
  refine good_of (by rw [List.length_map]; exact g.len) (fun i h0 h => ?_) (fun i x h0 h hx => ?_) (fun i h0 h => (mem i i h0 h).mpr (.inl (g.own i h0 h))) fun i j k h0 h hj hk => ?_
  · rw [rw1 i h0 h]
    split
    · exact sortU_sorted _
    · exact g.rowRise h0 h
  · rcases (mem i x h0 h).mp hx with q | ⟨_, q⟩
    · exact g.rowRng h0 h q
    · exact g.rowRng a0 an q
  · have jr : 0 ≤ j ∧ j < n := by
      rcases (mem i j h0 h).mp hj with q | ⟨_, q⟩
      · exact g.rowRng h0 h q
      · exact g.rowRng a0 an q
    rw [mem i k h0 h]
    rcases (mem i j h0 h).mp hj with q | ⟨q1, q2⟩
    · rcases (mem j k jr.1 jr.2).mp hk with z | ⟨z1, z2⟩
      · exact .inl (g.tr i j k h0 h q z)
      · exact .inr ⟨g.tr i j b h0 h q z1, z2⟩
    · rcases (mem j k jr.1 jr.2).mp hk with z | ⟨z1, z2⟩
      · exact .inr ⟨q1, g.tr a j k a0 an q2 z⟩
      · exact .inr ⟨q1, z2⟩
theorem good_far {n : Nat} {sp : List (List Int)} {a b : Int} (g : Good n sp) (b0 : 0 ≤ b) (bn : b < n) (hab : a ≠ b) (ht : betw sp n a b = false) : Good n (behind sp "far" a b) := by
  have nf : ¬ (("far" : Str) = "near") := by decide +kernel
  have e : behind sp "far" a b = (List.range sp.length).zipWith (fun (i : Nat) (r : List Int) => if (i : Int) = b then r.filter (fun x => !decide (x = a)) else r) sp := if_neg nf
  rw [e]
  generalize hsp : (List.range sp.length).zipWith (fun (i : Nat) (r : List Int) => if (i : Int) = b then r.filter (fun x => !decide (x = a)) else r) sp = sp2
  have rw1 : ∀ i : Int, 0 ≤ i → i < n → row sp2 i = if i = b then (row sp i).filter (fun x => !decide (x = a)) else row sp i := fun i h0 h => by
    rw [← hsp, row_zip (f := fun (i : Nat) (r : List Int) => if (i : Int) = b then r.filter (fun x => !decide (x = a)) else r) h0 (by rw [g.len]; exact h)]
    have : ((i.toNat : Nat) : Int) = i := by omega
    rw [this]
  have mem : ∀ i x : Int, 0 ≤ i → i < n → (x ∈ row sp2 i ↔ x ∈ row sp i ∧ ¬ (i = b ∧ x = a)) := fun i x h0 h => by
    rw [rw1 i h0 h]
    by_cases q : i = b
    · rw [if_pos q, List.mem_filter]; simp [q]
    · rw [if_neg q]; simp [q]
  have nob : ∀ c : Int, 0 ≤ c → c < n → c ≠ a → c ≠ b → c ∈ row sp b → ¬ a ∈ row sp c := fun c c0 cn ca cb h1 h2 => by
    unfold betw at ht
    rw [List.any_eq_false] at ht
    have := ht c (mem_ints.mpr ⟨c0, cn⟩)
    simp [ca, cb, h1, h2] at this
  refine good_of (by rw [← hsp]; simp [g.len]) (fun i h0 h => ?_) (fun i x h0 h hx => g.rowRng h0 h ((mem i x h0 h).mp hx).1) (fun i h0 h => (mem i i h0 h).mpr ⟨g.own i h0 h, fun z => hab (z.2.symm.trans z.1)⟩) fun i j k h0 h hj hk => ?_
  · rw [rw1 i h0 h]
    split
    · exact (g.rowRise h0 h).filter _
    · exact g.rowRise h0 h
  · obtain ⟨q1, q2⟩ := (mem i j h0 h).mp hj
    have jr := g.rowRng h0 h q1
    obtain ⟨z1, z2⟩ := (mem j k jr.1 jr.2).mp hk
    refine (mem i k h0 h).mpr ⟨g.tr i j k h0 h q1 z1, fun z => ?_⟩
    obtain ⟨rfl, rfl⟩ := z
    by_cases c1 : j = i
    · subst c1; exact z2 ⟨rfl, rfl⟩
    · by_cases c2 : j = k
      · exact q2 ⟨rfl, c2⟩
      · exact nob j jr.1 jr.2 c2 c1 q1 z1
theorem good_behind {n : Nat} {sp : List (List Int)} {w : Str} {a b : Int} (g : Good n sp) (hw : isWord w) (a0 : 0 ≤ a) (an : a < n) (b0 : 0 ≤ b) (bn : b < n) (hab : a ≠ b) (hr : reason sp n w a b = none) : Good n (behind sp w a b) := by
  rcases hw with rfl | rfl
  · exact good_near g a0 an
  · refine good_far g b0 bn hab ?_
    unfold reason at hr
    rw [if_neg (by decide +kernel)] at hr
    by_cases q : a ∈ row sp b
    · rw [if_pos q] at hr
      cases h : betw sp n a b with
      | false => rfl
      | true => rw [h] at hr; simp at hr
    · rw [if_neg q] at hr; cases hr
/-! ### lists of ints compared -/
theorem pyPs_ints : ∀ l : List Int, pyPs (l.map Da.int) = some (l.map PyData.int)
  | [] => rfl
  | x :: l => by rw [List.map_cons, pyPs, pyPs_ints l]; rfl
theorem canLay_ints : ∀ l : List Int, PyData.canLayAll0 (l.map PyData.int) = true
  | [] => rfl
  | x :: l => by rw [List.map_cons, PyData.canLayAll0, canLay_ints l]; rfl
theorem depth_ints : ∀ l : List Int, PyData.depthAll (l.map PyData.int) = 0
  | [] => rfl
  | x :: l => by rw [List.map_cons, PyData.depthAll, depth_ints l]; rfl
theorem eqvAll_ints : ∀ l m : List Int, PyData.eqvAll (l.map PyData.int) (m.map PyData.int) = decide (l = m)
  | [], [] => rfl
  | [], y :: m => rfl
  | x :: l, [] => rfl
  | x :: l, y :: m => by
    rw [List.map_cons, List.map_cons, PyData.eqvAll, eqvAll_ints l m, PyData.eqv]
    by_cases h1 : x = y <;> by_cases h2 : l = m <;> simp [h1, h2]
theorem eqvP_ints (l m : List Int) (S : Store) : eqvD S (.lst (l.map Da.int)) (.lst (m.map Da.int)) = some (decide (l = m)) := by
  have e1 : pyD S (.lst (l.map Da.int)) = some (.list (l.map PyData.int)) := by show (pyPs (l.map Da.int)).map PyData.list = _; rw [pyPs_ints]; rfl
  have e2 : pyD S (.lst (m.map Da.int)) = some (.list (m.map PyData.int)) := by show (pyPs (m.map Da.int)).map PyData.list = _; rw [pyPs_ints]; rfl
  have s : ∀ l : List Int, SeqAt.shaped (.list (l.map PyData.int)) = true := fun l => by
    unfold SeqAt.shaped
    rw [PyData.canLay0, canLay_ints, PyData.depth, depth_ints]; decide
  unfold eqvD strPair
  dsimp only
  unfold eqvP
  rw [e1, e2]
  dsimp only
  rw [if_pos ⟨s l, s m⟩, PyData.eqv, eqvAll_ints]
theorem neD_ints (l m : List Int) (S : Store) : neD (.lst (l.map Da.int)) (.lst (m.map Da.int)) S = some (.bl (!decide (l = m))) := by unfold neD; rw [eqvP_ints]; rfl
theorem neD_nil (l : List Int) (S : Store) : neD (.lst (l.map Da.int)) (.lst []) S = some (.bl (!decide (l = []))) := neD_ints l [] S
/-! ### small data: what repr may show -/
structure Sm (x : PyData) (wt dp : Nat) : Prop where
  sh : x.showable = true
  cl : x.canLay0 = true
  dp : x.depth ≤ dp
  is : x.intsShort 13 = true
  wt : x.weight ≤ wt
def SmD (d : Da) (wt dp : Nat) : Prop := ∃ x, pyP d = some x ∧ Sm x wt dp
theorem SmD.int {i : Int} (h0 : 0 ≤ i) (h : i < 1000) : SmD (.int i) 10 0 := by
  have hn : i.natAbs < 1000 := by omega
  have hl : i.natAbs.log2 < 10 := by
    by_cases z : i.natAbs = 0
    · rw [z]; decide
    · exact (Nat.log2_lt z).mpr (by omega)
  refine ⟨.int i, rfl, ?_, rfl, Nat.le_refl _, ?_, ?_⟩
  · rw [PyData.showable]; exact decide_eq_true (by omega)
  · rw [PyData.intsShort]; exact decide_eq_true (PyData.shown_int_le (by omega))
  · rw [PyData.weight]; split <;> omega
structure SmA (xs : List PyData) (wt dp : Nat) : Prop where
  sh : PyData.showableAll xs = true
  cl : PyData.canLayAll0 xs = true
  dp : PyData.depthAll xs ≤ dp
  is : PyData.intsShortAll 13 xs = true
  wt : PyData.weightAll xs ≤ wt
theorem SmD.all {wt dp : Nat} : ∀ {l : List Da}, (∀ d ∈ l, SmD d wt dp) → ∃ xs, pyPs l = some xs ∧ SmA xs (l.length * (wt + 1)) dp
  | [], _ => ⟨[], rfl, rfl, rfl, Nat.zero_le _, rfl, Nat.zero_le _⟩
  | d :: l, h => by
    obtain ⟨x, hx, s⟩ := h d List.mem_cons_self
    obtain ⟨xs, hxs, t⟩ := SmD.all (l := l) fun e he => h e (List.mem_cons_of_mem _ he)
    refine ⟨x :: xs, by rw [pyPs, hx, hxs], ?_, ?_, ?_, ?_, ?_⟩
    · rw [PyData.showableAll, s.sh, t.sh]; rfl
    · rw [PyData.canLayAll0, s.cl, t.cl]; rfl
    · rw [PyData.depthAll]; exact Nat.max_le.mpr ⟨s.dp, t.dp⟩
    · rw [PyData.intsShortAll, s.is, t.is]; rfl
    · rw [PyData.weightAll, List.length_cons, Nat.succ_mul]
      have := s.wt; have := t.wt; omega
theorem SmD.tup {wt dp n : Nat} {l : List Da} (h : ∀ d ∈ l, SmD d wt dp) (hn : l.length ≤ n) : SmD (.tup l) (n * (wt + 1)) (dp + 1) := by
  obtain ⟨xs, hx, s⟩ := SmD.all h
  refine ⟨.tuple xs, by rw [pyP, hx]; rfl, ?_, ?_, ?_, ?_, ?_⟩
  · rw [PyData.showable]; exact s.sh
  · rw [PyData.canLay0]; exact s.cl
  · rw [PyData.depth]; exact Nat.succ_le_succ s.dp
  · rw [PyData.intsShort]; exact s.is
  · rw [PyData.weight]; exact Nat.le_trans s.wt (Nat.mul_le_mul_right _ hn)
theorem SmD.lst {wt dp n : Nat} {l : List Da} (h : ∀ d ∈ l, SmD d wt dp) (hn : l.length ≤ n) : SmD (.lst l) (n * (wt + 1)) (dp + 1) := by
  obtain ⟨xs, hx, s⟩ := SmD.all h
  refine ⟨.list xs, by rw [pyP, hx]; rfl, ?_, ?_, ?_, ?_, ?_⟩
  · rw [PyData.showable]; exact s.sh
  · rw [PyData.canLay0]; exact s.cl
  · rw [PyData.depth]; exact Nat.succ_le_succ s.dp
  · rw [PyData.intsShort]; exact s.is
  · rw [PyData.weight]; exact Nat.le_trans s.wt (Nat.mul_le_mul_right _ hn)
theorem SmD.le {d : Da} {wt dp wt' dp' : Nat} (h : SmD d wt dp) (h1 : wt ≤ wt') (h2 : dp ≤ dp') : SmD d wt' dp' := by
  obtain ⟨x, hx, s⟩ := h
  exact ⟨x, hx, s.sh, s.cl, Nat.le_trans s.dp h2, s.is, Nat.le_trans s.wt h1⟩
theorem repr_ok {d : Da} {wt dp : Nat} {S : Store} (h : SmD d wt dp) (hb : boxD d = true) (hc : ∀ j, d ≠ .cell j) (h1 : wt ≤ 1048576) (h2 : dp ≤ 60) : ∃ z, reprPD [d] S = some (.str z) ∧ ∀ S2, reprPD [d] S2 = some (.str z) := by
  obtain ⟨x, hx, s⟩ := h
  have ho : okP x = true := by
    unfold okP PyData.layable0
    have w : x.weight ≤ 2 ^ 20 := by have := s.wt; have e : (2 : Nat) ^ 20 = 1048576 := by decide
                                     omega
    have d1 := s.dp
    simp [s.sh, s.cl, s.is, w, show x.depth ≤ 64 by omega, show x.depth ≤ 60 by omega]
  have e : ∀ S2, reprPD [d] S2 = some (.str x.shown) := fun S2 => by
    have : pyD S2 d = some x := by
      cases d with
      | cell j => exact absurd rfl (hc j)
      | _ => exact hx
    unfold reprPD
    dsimp only
    rw [if_pos hb, this]
    dsimp only
    rw [if_pos ho]
  exact ⟨x.shown, e S, e⟩
theorem SmD.word {w : Str} (hw : isWord w) : SmD (.str w) 10 0 := by
  refine ⟨.str w, rfl, rfl, ?_, Nat.le_refl _, rfl, ?_⟩
  · rcases hw with rfl | rfl <;> decide +kernel
  · rcases hw with rfl | rfl <;> decide +kernel
theorem SmD.row {n : Nat} {r : List Int} (hl : r.length ≤ 7) (h7 : n ≤ 7) (h : ∀ x ∈ r, 0 ≤ x ∧ x < n) : SmD (rowD r) 77 1 :=
  SmD.tup (wt := 10) (dp := 0) (n := 7) (fun d hd => by obtain ⟨x, hx, rfl⟩ := List.mem_map.mp hd; have := h x hx; exact .int this.1 (by omega)) (by simpa using hl)
theorem SmD.space {n : Nat} {sp : List (List Int)} (g : Good n sp) (h7 : n ≤ 7) : SmD (spD sp) 546 2 :=
  SmD.tup (wt := 77) (dp := 1) (n := 7) (fun d hd => by obtain ⟨r, hr, rfl⟩ := List.mem_map.mp hd; exact .row (n := n) (by have := g.short hr; omega) h7 (g.rng r hr)) (by rw [List.length_map, g.len]; exact h7)
theorem SmD.deed {n : Nat} {w : Str} {a b : Int} (hw : isWord w) (h7 : n ≤ 7) (a0 : 0 ≤ a) (an : a < n) (b0 : 0 ≤ b) (bn : b < n) : SmD (deedD w a b) 33 1 :=
  SmD.tup (wt := 10) (dp := 0) (n := 3) (fun d hd => by
    simp at hd
    rcases hd with rfl | rfl | rfl
    · exact .word hw
    · exact .int a0 (by omega)
    · exact .int b0 (by omega)) (Nat.le_refl _)
/-! ### the law's own -/
def aloneR (n : Nat) : List (List Int) := (List.range n).map fun i : Nat => [(i : Int)]
theorem row_alone {n : Nat} {i : Int} (h0 : 0 ≤ i) (h : i < n) : row (aloneR n) i = [i] := by
  have h1 : i.toNat < n := by omega
  have h2 : ((i.toNat : Nat) : Int) = i := by omega
  simp [row, aloneR, h1, h2]
theorem good_alone (n : Nat) : Good n (aloneR n) :=
  good_of (by simp [aloneR]) (fun i h0 h => by rw [row_alone h0 h]; simp) (fun i x h0 h hx => by rw [row_alone h0 h] at hx; simp at hx; omega) (fun i h0 h => by rw [row_alone h0 h]; simp) fun i j k h0 h hj hk => by
    rw [row_alone h0 h] at hj ⊢
    simp at hj
    subst hj
    rw [row_alone h0 h] at hk
    exact hk
theorem single_ok {n : Nat} (h7 : n ≤ 7) (S : Store) : m_single_space [.int n] S = .ok (spD (aloneR n)) S := by
  have : n = 0 ∨ n = 1 ∨ n = 2 ∨ n = 3 ∨ n = 4 ∨ n = 5 ∨ n = 6 ∨ n = 7 := by omega
  rcases this with rfl | rfl | rfl | rfl | rfl | rfl | rfl | rfl <;> kernel_rfl
theorem num_ok {n : Nat} (h1 : 1 ≤ n) (h7 : n ≤ 7) (S : Store) : m_is_between [.int n, .int 1, .int 7] S = .ok (.bl true) S := by
  have : n = 1 ∨ n = 2 ∨ n = 3 ∨ n = 4 ∨ n = 5 ∨ n = 6 ∨ n = 7 := by omega
  rcases this with rfl | rfl | rfl | rfl | rfl | rfl | rfl <;> kernel_rfl
/-! ### a new yard -/
theorem obj_set {c f : Str} {fs : List (Str × Da)} {j i : Nat} {d : Da} {ρ : En} {S S1 : Store} {fe : M Da} (he : fe ρ S = .ok d S1) (h : S1[j]? = some (.obj c fs)) (hρ : ρ[i]? = some (some (.cell j))) (hl : fs.length < 1000) : setFS c f (varM i) fe ρ S = .nx ρ (S1.set j (.obj c (putD f d fs))) := by
  have e : objAt S1 c (.cell j) = some (j, fs) := by
    unfold objAt
    dsimp only
    rw [h]
    exact if_pos rfl
  unfold setFS varM
  rw [he, hρ]
  simp only [Res.thenS, e]
  rw [if_pos hl]
theorem init_ok {n j : Nat} {S : Store} (h1 : 1 ≤ n) (h7 : n ≤ 7) (hj : S[j]? = some (.obj "Yard" [])) : m_Yard_init [.cell j, .int n] S = .ok .non (S.set j (yardC n (aloneR n) [] S.length) ++ [.lst []]) := by
  have jl : j < S.length := (List.getElem?_eq_some_iff.mp hj).1
  unfold m_Yard_init
  show RS.res (b_Yard_init [some (.cell j), some (.int n)] S) = _
  unfold b_Yard_init
  have e0 : ifS (notT (tstM (callF 3 m_is_between (consM (varM 1) (consM (cM (.int 1)) (consM (cM (.int 7)) (nilM))))))) (raiseS "InvalidNumber" (varM 1)) (skipS) [some (.cell j), some (.int n)] S = .nx [some (.cell j), some (.int n)] S := by
    simp [seqS, ifS, orT, andT, notT, tstM, retS, skipS, setS, dropS, cM, callM, callF, consM, nilM, ifM, andM, notM, orM, varM, listM, frzM, opM, unM, dispM, Res.bind, Res.thenS, ofO, RS.seq, RS.res, defM, List.set, num_ok h1 h7 S]
  rw [seqS_nx e0]
  have at_ : ∀ c : Cell, (S.set j c)[j]? = some c := fun c => List.getElem?_set_self jl
  rw [seqS_nx (obj_set (i := 0) (fe := varM 1) (var_ok (i := 1) rfl) hj rfl (by decide))]
  have e2 : callF 1 m_single_space (consM (varM 1) nilM) [some (.cell j), some (.int n)] (S.set j (.obj "Yard" (putD "places" (.int n) []))) = .ok (spD (aloneR n)) (S.set j (.obj "Yard" (putD "places" (.int n) []))) :=
    callF_ok (consM1_ok (var_ok (i := 1) rfl)) rfl (single_ok h7 _)
  rw [seqS_nx (obj_set (i := 0) e2 (at_ _) rfl (by show 1 < 1000; decide)), List.set_set]
  have e3 : tupM nilM [some (.cell j), some (.int n)] (S.set j (.obj "Yard" (putD "space" (spD (aloneR n)) (putD "places" (.int n) [])))) = .ok (.tup []) (S.set j (.obj "Yard" (putD "space" (spD (aloneR n)) (putD "places" (.int n) [])))) := by
    simp [dispM, nilM, Res.bind]
  rw [seqS_nx (obj_set (i := 0) e3 (at_ _) rfl (by have e : ("space" : Str) = "places" ↔ False := by decide +kernel
                                                   show (putD "space" _ [(("places" : Str), Da.int n)]).length < 1000; simp [putD]; split <;> simp)), List.set_set]
  have hf : putD "deeds" (.tup []) (putD "space" (spD (aloneR n)) (putD "places" (.int n) [])) = ([("places", .int n), ("space", spD (aloneR n)), ("deeds", .tup [])] : List (Str × Da)) := by kernel_rfl
  rw [hf]
  generalize hS3 : S.set j (.obj "Yard" [("places", .int n), ("space", spD (aloneR n)), ("deeds", .tup [])]) = S3
  have l3 : S3.length = S.length := by rw [← hS3]; simp
  have at3 : S3[j]? = some (.obj "Yard" [("places", .int n), ("space", spD (aloneR n)), ("deeds", .tup [])]) := by rw [← hS3]; exact at_ _
  have e4 : celM (listM nilM) [some (.cell j), some (.int n)] S3 = .ok (.cell S.length) (S3 ++ [.lst []]) := by
    simp [celM, listM, nilM, Res.bind, l3]
  have at4 : (S3 ++ [Cell.lst []])[j]? = some (.obj "Yard" [("places", .int n), ("space", spD (aloneR n)), ("deeds", .tup [])]) := by rw [List.getElem?_append_left (by omega)]; exact at3
  rw [obj_set (i := 0) e4 at4 rfl (by show 3 < 1000; decide)]
  have hp : Cell.obj "Yard" (putD "past" (.cell S.length) [("places", .int n), ("space", spD (aloneR n)), ("deeds", .tup [])]) = yardC n (aloneR n) [] S.length := by kernel_rfl
  rw [hp, List.set_append_left _ _ (by omega), ← hS3, List.set_set]
  rfl
theorem make_ok {n : Nat} {ρ : En} {S S1 : Store} {t : M (List Da)} (h1 : 1 ≤ n) (h7 : n ≤ 7) (ht : t ρ S = .ok [.int n] S1) : makeF "Yard" 2 m_Yard_init t ρ S = .ok (.cell S1.length) (S1 ++ [yardC n (aloneR n) [] (S1.length + 1), .lst []]) := by
  have hj : (S1 ++ [Cell.obj "Yard" []])[S1.length]? = some (.obj "Yard" []) := by simp
  have e := init_ok h1 h7 hj
  unfold makeF
  rw [ht]
  simp only [Res.bind]
  rw [if_pos (by rfl), e]
  simp
theorem cell_same {α : Type} {S : List α} {j : Nat} {c : α} (h : S[j]? = some c) : S.set j c = S := by
  apply List.ext_getElem?
  intro k
  by_cases e : j = k
  · subst e
    have hj : j < S.length := (List.getElem?_eq_some_iff.mp h).1
    rw [List.getElem?_set_self hj, h]
  · rw [List.getElem?_set_ne e]
def wellC (x y z : Int) : Cell := .lst [.int x, .int y, .int z]
theorem take1 {j : Nat} {S : Store} {x y z m : Int} (h : S[j]? = some (wellC x y z)) (hm : 0 < m) (hm2 : m < 1073741824) :
    ∃ d x' y' z', m__law_take [.cell j, .int m] S = .ok (.int d) (S.set j (wellC x' y' z')) ∧ 0 ≤ d ∧ d < m := take_ok h hm hm2
theorem betw_nil {n : Nat} {sp : List (List Int)} {a b : Int} (g : Good n sp) (b0 : 0 ≤ b) (bn : b < n) : decide ((row sp b).filter (fun c => !(decide (c = a) || decide (c = b)) && decide (a ∈ row sp c)) = []) = !betw sp n a b := by
  cases h : betw sp n a b with
  | false =>
    unfold betw at h
    rw [List.any_eq_false] at h
    simp only [Bool.not_false, decide_eq_true_eq, List.filter_eq_nil_iff]
    intro c hc
    have r := g.rowRng b0 bn hc
    have := h c (mem_ints.mpr r)
    simpa [hc] using this
  | true =>
    unfold betw at h
    rw [List.any_eq_true] at h
    obtain ⟨c, hc, h2⟩ := h
    simp only [Bool.not_true, decide_eq_false_iff_not]
    intro e
    rw [List.filter_eq_nil_iff] at e
    simp only [Bool.and_eq_true, Bool.not_eq_true', decide_eq_true_eq] at h2
    refine e c h2.2.1 ?_
    simp [h2.1, h2.2.2]
def dueS (o : Option Str) : Str := o.getD "done"
def nextSp (sp : List (List Int)) (n : Nat) (w : Str) (a b : Int) : List (List Int) := match reason sp n w a b with
  | some _ => sp
  | none => behind sp w a b
theorem zip_set {sp : List (List Int)} {f : List Int → List Int} {b : Int} (b0 : 0 ≤ b) (bn : b.toNat < sp.length) : (List.range sp.length).zipWith (fun (i : Nat) (r : List Int) => if (i : Int) = b then f r else r) sp = sp.take b.toNat ++ [f (row sp b)] ++ sp.drop (b.toNat + 1) := by
  have e : sp.take b.toNat ++ [f (row sp b)] ++ sp.drop (b.toNat + 1) = sp.set b.toNat (f (row sp b)) := by
    rw [List.set_eq_take_append_cons_drop, if_pos bn, List.append_assoc]
    rfl
  rw [e]
  refine List.ext_getElem (by simp) ?_
  intro k h1 h2
  simp only [List.getElem_zipWith, List.getElem_range, List.getElem_set]
  by_cases q : b.toNat = k
  · have q2 : (k : Int) = b := by omega
    subst q
    rw [if_pos q2, if_pos rfl]
    simp [row, bn]
  · have q2 : ¬ (k : Int) = b := by omega
    rw [if_neg q2, if_neg q]
/-! ### undo -/
theorem past_ne {S : Store} {p : Nat} {pl : List Da} {d : Da} (hp : S[p]? = some (.lst (pl ++ [d]))) (hs : ∀ e ∈ pl ++ [d], SmD e 546 2) : eqD (.cell p) (.lst []) S = some (.bl false) := by
  obtain ⟨xs, hx, s⟩ := SmD.all hs
  have e1 : pyD S (.cell p) = some (.list xs) := by
    unfold pyD
    dsimp only
    rw [hp]
    dsimp only
    rw [hx]
    rfl
  have ne : ∃ y ys, xs = y :: ys := by
    cases xs with
    | cons y0 ys0 => exact ⟨y0, ys0, rfl⟩
    | nil =>
      cases h : pl ++ [d] with
      | nil => simp at h
      | cons a r =>
        rw [h, pyPs] at hx
        split at hx <;> cases hx
  obtain ⟨y, ys, rfl⟩ := ne
  have sh : SeqAt.shaped (.list (y :: ys)) = true := by
    unfold SeqAt.shaped
    rw [PyData.canLay0, s.cl, PyData.depth]
    have := s.dp
    simp; omega
  have e2 : eqvD S (.cell p) (.lst []) = some false := by
    have h0 : eqvD S (.cell p) (.lst []) = eqvP S (.cell p) (.lst []) := rfl
    have e3 : pyD S (.lst []) = some (.list []) := rfl
    rw [h0]
    unfold eqvP
    rw [e1, e3]
    dsimp only
    rw [if_pos ⟨sh, by decide +kernel⟩, PyData.eqv, PyData.eqvAll]
  unfold eqD
  rw [e2]
  rfl
theorem undo_ok {n : Nat} {sp sp0 : List (List Int)} {dl pl : List Da} {dd : Da} {p j : Nat} {S : Store} (hj : S[j]? = some (yardC n sp (dl ++ [dd]) p)) (hp : S[p]? = some (.lst (pl ++ [spD sp0]))) (hs : ∀ e ∈ pl ++ [spD sp0], SmD e 546 2) :
    m_Yard_undo [.cell j] S = .ok .non ((S.set p (.lst pl)).set j (yardC n sp0 dl p)) := by
  have hjp : p ≠ j := fun z => by subst z; rw [hj] at hp; cases hp
  have jl : j < S.length := (List.getElem?_eq_some_iff.mp hj).1
  unfold m_Yard_undo
  show RS.res (b_Yard_undo [some (.cell j)] S) = _
  unfold b_Yard_undo
  have fp := yard_fld (i := 0) (ρ := [some (.cell j)]) hj rfl lk_past
  have e0 : frzM (listM nilM) [some (.cell j)] S = .ok (.lst []) S := by simp [frzM, listM, nilM, Res.bind]
  have c1 := tstM_ok (opM_ok fp e0 (past_ne hp hs))
  rw [seqS_nx (ρ1 := [some (.cell j)]) (S1 := S) (by rw [ifS_f c1]; rfl)]
  have ep : popM (fldM "Yard" "past" (varM 0)) [some (.cell j)] S = .ok (spD sp0) (S.set p (.lst pl)) := by
    have c : cellL S (.cell p) = some (p, pl ++ [spD sp0]) := by unfold cellL; dsimp only; rw [hp]
    unfold popM
    rw [fp]
    simp [Res.bind, c]
  have hj1 : (S.set p (.lst pl))[j]? = some (yardC n sp (dl ++ [dd]) p) := by rw [List.getElem?_set_ne hjp]; exact hj
  rw [seqS_nx (yard_set (i := 0) (f := "space") ep hj1 rfl put_space)]
  have hj2 : ((S.set p (.lst pl)).set j (yardC n sp0 (dl ++ [dd]) p))[j]? = some (yardC n sp0 (dl ++ [dd]) p) := List.getElem?_set_self (by simpa using jl)
  have fd := yard_fld (i := 0) (ρ := [some (.cell j)]) hj2 rfl lk_deeds
  have hc : cutD (dl ++ [dd]) none (some (-1)) = dl := by
    unfold cutD HT.sIx
    simp
    have e : (-1 + ((dl.length : Int) + 1)).toNat = dl.length := by omega
    rw [e]
    simp
  have es : sliceM slTD (fldM "Yard" "deeds" (varM 0)) (noPartM) (partM (unM negD (cM (.int 1)))) [some (.cell j)] ((S.set p (.lst pl)).set j (yardC n sp0 (dl ++ [dd]) p)) = .ok (.tup dl) ((S.set p (.lst pl)).set j (yardC n sp0 (dl ++ [dd]) p)) := by
    unfold sliceM
    rw [fd]
    simp [Res.bind, noPartM, partM, unM, cM, negD, ofO, slTD, hc]
  rw [yard_set (i := 0) (f := "deeds") es hj2 rfl put_deeds, List.set_set]
  rfl
/-! ### data equal to itself -/
mutual
theorem eqv_self : ∀ x : PyData, x.canLay0 = true → PyData.eqv x x = true
  | .none, hz => (by simp [PyData.eqv])
  | .bool b, hz => (by simp [PyData.eqv])
  | .int i, hz => (by simp [PyData.eqv])
  | .str s, hz => (by simp [PyData.eqv])
  | .list xs, h => by rw [PyData.eqv]; exact eqvAll_self xs (by rw [PyData.canLay0] at h; exact h)
  | .tuple xs, h => by rw [PyData.eqv]; exact eqvAll_self xs (by rw [PyData.canLay0] at h; exact h)
  | .dict _, h => by rw [PyData.canLay0] at h; cases h
theorem eqvAll_self : ∀ xs : List PyData, PyData.canLayAll0 xs = true → PyData.eqvAll xs xs = true
  | [], _ => by rw [PyData.eqvAll]
  | x :: xs, h => by
    rw [PyData.canLayAll0, Bool.and_eq_true] at h
    rw [PyData.eqvAll, eqv_self x h.1, eqvAll_self xs h.2]
    rfl
end
theorem same_ok {d : Da} {wt dp : Nat} {S : Store} (h : SmD d wt dp) (hd : dp ≤ 60) (hb : boxD d = true) (hc : ∀ j, d ≠ .cell j) : eqvD S d d = some true := by
  obtain ⟨x, hx, s⟩ := h
  have e1 : pyD S d = some x := by
    cases d with
    | cell j => exact absurd rfl (hc j)
    | _ => exact hx
  have e0 : strPair d d = none := by cases d <;> first | rfl | cases hb
  have sh : SeqAt.shaped x = true := by
    unfold SeqAt.shaped
    have := s.dp
    rw [s.cl]; simp; omega
  unfold eqvD
  rw [e0]
  dsimp only
  unfold eqvP
  rw [e1]
  dsimp only
  rw [if_pos ⟨sh, sh⟩, eqv_self x s.cl]
theorem forL_invN {tg : Tg} {body : MS} {P : Nat → En → Store → Prop} {T : Nat} : ∀ {ds : List Da} {t : Nat} {ρ : En} {S : Store}, t + ds.length ≤ T → P t ρ S → (∀ d ∈ ds, ∀ t ρ S, t < T → P t ρ S → ∃ ρ1, bindT tg d ρ = some ρ1 ∧ ∃ ρ2 S2, body ρ1 S = .nx ρ2 S2 ∧ P (t + 1) ρ2 S2) →
    ∃ ρ2 S2, forL tg body ds ρ S = .nx ρ2 S2 ∧ P (t + ds.length) ρ2 S2
  | [], t, ρ, S, _, h, _ => ⟨ρ, S, rfl, h⟩
  | d :: ds, t, ρ, S, ht, h, k => by
    rw [List.length_cons] at ht
    obtain ⟨ρ1, h1, ρ2, S2, h2, h3⟩ := k d List.mem_cons_self t ρ S (by omega) h
    obtain ⟨ρ3, S3, h4, h5⟩ := forL_invN (t := t + 1) (ds := ds) (by omega) h3 fun d hd => k d (List.mem_cons_of_mem _ hd)
    refine ⟨ρ3, S3, ?_, by rw [List.length_cons]; have e : t + (ds.length + 1) = t + 1 + ds.length := by omega
                           rw [e]; exact h5⟩
    unfold forL
    rw [h1]
    dsimp only
    rw [h2]
    exact h4
section
variable {S0 : Store} {a b c x : Cell}
theorem at0 : (S0 ++ [a, b, c])[S0.length]? = some a := by simp
theorem at1 : (S0 ++ [a, b, c])[S0.length + 1]? = some b := by simp
theorem at2 : (S0 ++ [a, b, c])[S0.length + 2]? = some c := by simp
theorem st0 : (S0 ++ [a, b, c]).set S0.length x = S0 ++ [x, b, c] := by simp
theorem st1 : (S0 ++ [a, b, c]).set (S0.length + 1) x = S0 ++ [a, x, c] := by rw [List.set_append_right _ _ (by omega)]; simp
theorem st2 : (S0 ++ [a, b, c]).set (S0.length + 2) x = S0 ++ [a, b, x] := by rw [List.set_append_right _ _ (by omega)]; simp
end
theorem reason_ne {sp : List (List Int)} {n : Nat} {w : Str} {a b : Int} {x : Str} (h : reason sp n w a b = some x) : ¬ x = "done" := by
  unfold reason at h
  split at h
  · split at h
    · cases h; decide +kernel
    · cases h
  · split at h
    · split at h
      · cases h; decide +kernel
      · cases h
    · cases h; decide +kernel
theorem restore {S : Store} {p j : Nat} {c1 c2 d1 d2 : Cell} (hjp : p ≠ j) (hp : S[p]? = some c1) (hj : S[j]? = some d1) : ((((S.set p c2).set j d2).set p c1).set j d1) = S := by
  rw [List.set_comm _ _ (Ne.symm hjp), List.set_set, List.set_set]
  have h1 : (S.set p c1) = S := cell_same hp
  rw [h1]
  exact cell_same hj
theorem fld_call {n : Nat} {sp : List (List Int)} {dl : List Da} {p j : Nat} {S : Store} {ρ : En} {w : Str} {a b : Int} (hj : S[j]? = some (yardC n sp dl p)) (h0 : ρ[0]? = some (some (.cell j))) (h2 : ρ[2]? = some (some (deedD w a b))) :
    methF "Yard" "do" 2 m_Yard_do (varM 0) (consM (varM 2) (nilM)) ρ S = m_Yard_do [.cell j, deedD w a b] S := by
  have hobj : objAt S "Yard" (.cell j) = some (j, yf n sp dl p) := by
    unfold objAt
    dsimp only
    rw [hj]
    exact if_pos rfl
  unfold methF
  rw [var_ok (i := 0) h0]
  simp only [Res.bind, hobj, lk_do]
  rw [consM1_ok (var_ok (i := 2) h2)]
  simp
theorem ev_fld {n : Int} {sp : List (List Int)} {dl : List Da} {p j i : Nat} {f : Str} {d : Da} {ρ : En} {S : Store} (hρ : ρ[i]? = some (some (.cell j))) (h : S[j]? = some (yardC n sp dl p)) (hf : (yf n sp dl p).lookup f = some d) : fldM "Yard" f (varM i) ρ S = .ok d S := yard_fld h hρ hf
theorem ev_meth {n : Int} {sp : List (List Int)} {dl ds : List Da} {d : Da} {p j i k : Nat} {m : Str} {mf : Mf} {t : M (List Da)} {ρ : En} {S S2 : Store} (hρ : ρ[i]? = some (some (.cell j))) (h : S[j]? = some (yardC n sp dl p)) (hl : (yf n sp dl p).lookup m = none) (ht : t ρ S = .ok ds S) (hn : ds.length + 1 = k)
    (ho : mf (.cell j :: ds) S = .ok d S2) : methF "Yard" m k mf (varM i) t ρ S = .ok d S2 := by
  have hobj : objAt S "Yard" (.cell j) = some (j, yf n sp dl p) := by
    unfold objAt
    dsimp only
    rw [h]
    exact if_pos rfl
  unfold methF
  rw [var_ok (i := i) hρ]
  simp only [Res.bind, hobj, hl]
  rw [ht]
  dsimp only
  rw [if_pos (by rw [List.length_cons]; exact hn), ho]
theorem lk_undo {n : Int} {sp : List (List Int)} {dl : List Da} {p : Nat} : (yf n sp dl p).lookup ("undo" : Str) = none := by kernel_rfl
local macro_rules | `(tactic| trivial) => `(tactic| (unfold big; simp only [List.length_map, List.length_range, List.length_cons, List.length_nil]; omega))
local macro_rules | `(tactic| infer_instance) => `(tactic| first
  | with_reducible assumption
  | ((with_reducible apply ev_var); rfl)
  | with_reducible exact ev_c
  | ((with_reducible apply ev_op); infer_instance; infer_instance; decreasing_trivial)
  | ((with_reducible apply ev_tst); infer_instance)
  | ((with_reducible apply ev_cons); infer_instance; infer_instance)
  | with_reducible exact ev_nil
  | ((with_reducible apply ev_call); infer_instance; decreasing_trivial)
  | ((with_reducible apply ev_fun); infer_instance; rfl; decreasing_trivial_pre_omega)
  | ((with_reducible apply ev_tup); infer_instance; rfl)
  | ((with_reducible apply ev_frz); infer_instance)
  | ((with_reducible apply ev_list); infer_instance; rfl)
  | ((with_reducible apply ev_itL); infer_instance)
  | ((with_reducible apply ev_itT); infer_instance)
  | ((with_reducible apply ev_itET); infer_instance)
  | ((with_reducible apply ev_notT); infer_instance)
  | ((with_reducible apply ev_notM); infer_instance)
  | ((with_reducible apply ev_andT); infer_instance; intro _; infer_instance)
  | ((with_reducible apply ev_orT); infer_instance; intro _; infer_instance)
  | ((with_reducible apply ev_andM); infer_instance; intro _; infer_instance)
  | ((with_reducible apply ev_orM); infer_instance; intro _; infer_instance)
  | ((with_reducible apply ev_if); infer_instance; intro _; infer_instance; intro _; infer_instance)
  | ((with_reducible apply ev_un); infer_instance; decreasing_trivial)
  | ((with_reducible apply ev_lc_yes); infer_instance; trivial; (intro _; rfl); (intro _ _; infer_instance))
  | ((with_reducible apply ev_lc); infer_instance; trivial; (intro _; rfl); (intro _ _; infer_instance); (intro _ _ _; infer_instance)))
local macro_rules | `(tactic| decreasing_trivial) => `(tactic| first
  | with_reducible assumption
  | with_reducible exact eqD_int _ _ _
  | with_reducible exact neD_int _ _ _
  | with_reducible exact eqD_str _ _ _
  | with_reducible exact neD_str _ _ _
  | with_reducible exact inD_row _ _ _
  | with_reducible exact notInD_row _ _ _
  | with_reducible exact neD_ints _ _ _
  | rfl)
local macro_rules | `(tactic| decreasing_trivial_pre_omega) => `(tactic| with_reducible assumption)
local macro_rules | `(tactic| rfl') => `(tactic| (simp only [setAll, List.zip_cons_cons, List.zip_nil_left, List.zip_nil_right, List.set_cons_zero, List.set_cons_succ, List.map_cons, List.map_nil]; rfl))
local macro_rules | `(tactic| infer_instance) => `(tactic| ((with_reducible apply ev_fld); rfl; (with_reducible assumption); (first | exact lk_space | exact lk_deeds | exact lk_past | exact lk_places)))
local macro_rules | `(tactic| infer_instance) => `(tactic| ((with_reducible apply ev_meth); rfl; (with_reducible assumption); (first | exact lk_do | exact lk_undo); infer_instance; rfl; decreasing_trivial_pre_omega))
/-! ### the shell of a law -/
def intsN (n : Nat) : List Int := (List.range n).map fun i : Nat => (i : Int)
theorem mem_intsN {n : Nat} {x : Int} : x ∈ intsN n ↔ 0 ≤ x ∧ x < n := mem_ints
theorem len_intsN {n : Nat} : (intsN n).length = n := by simp [intsN]
theorem rngL_intsN (n : Nat) : rngL 0 n = (intsN n).map Da.int := rngL_ints n
theorem itR1_int {f : M Da} {ρ : En} {S S1 : Store} {j : Int} (h : f ρ S = .ok (.int j) S1) : itR1 f ρ S = if -rngB ≤ j ∧ j < rngB then .ok (rngL 0 j.toNat) S1 else .bad := by
  unfold itR1
  rw [h]
  rfl
theorem itR1_in {f : M Da} {ρ : En} {S S1 : Store} {j : Int} (h : f ρ S = .ok (.int j) S1) (hb : -rngB ≤ j ∧ j < rngB) : itR1 f ρ S = .ok (rngL 0 j.toNat) S1 := by
  rw [itR1_int h, if_pos hb]
theorem rngB_nat {n : Nat} (hn : n ≤ 1000) : -rngB ≤ ((n : Nat) : Int) ∧ ((n : Nat) : Int) < rngB := by unfold rngB; omega
theorem ev_itR1 {f : M Da} {ρ : En} {S S1 : Store} {n : Nat} (h : f ρ S = .ok (.int (n : Nat)) S1) (hn : n ≤ 1000) : itR1 f ρ S = .ok ((intsN n).map Da.int) S1 := by
  have h2 : ((n : Nat) : Int).toNat = n := by omega
  rw [itR1_in h (rngB_nat hn), h2, rngL_intsN]
theorem ev_itR1c {ρ : En} {S : Store} {n : Nat} (hn : n ≤ 1000) : itR1 (cM (.int (n : Nat))) ρ S = .ok ((intsN n).map Da.int) S := ev_itR1 rfl hn
theorem ev_seq_unp2 {i j : Nat} {f : M Da} {s : MS} {ρ ρ1 : En} {S S1 : Store} {a b : Da} {R : RS} (h : f ρ S = .ok (.tup [a, b]) S1) (hρ : (ρ.set i (some a)).set j (some b) = ρ1) (k : s ρ1 S1 = R) : seqS (asgGS (tupT 2 (consT (nameT i) (consT (nameT j) (nilT)))) f) s ρ S = R := by
  unfold seqS asgGS; rw [h]; rw [← k, ← hρ]; rfl
theorem ev_seq_for {tg : Tg} {src : M (List Da)} {body s : MS} {ρ ρ1 : En} {S S1 S2 : Store} {ds : List Da} {R : RS} (h : src ρ S = .ok ds S1) (hl : forL tg body ds ρ S1 = .nx ρ1 S2) (k : s ρ1 S2 = R) : seqS (forS tg src body) s ρ S = R := by
  unfold seqS forS; rw [h]; simp only [Res.thenS]; rw [hl]; exact k
theorem ev_for {tg : Tg} {src : M (List Da)} {body : MS} {ρ : En} {S S1 : Store} {ds : List Da} {R : RS} (h : src ρ S = .ok ds S1) (hl : forL tg body ds ρ S1 = R) : forS tg src body ρ S = R := by
  unfold forS; rw [h]; exact hl
theorem len_app1 {S0 : Store} {a : Cell} : (S0 ++ [a]).length = S0.length + 1 := by simp
theorem lap_open {ns : List Int} {lap c m : Nat} {S0 : Store} {r2 r3 : Option Da} {rest : En} (hn : ns.length ≤ 63) (hl : lap ≤ 2) (hm : 0 < m) (hm2 : m ≤ 1000) (s : MS) :
    ∃ (n : Nat) (x y z : Int), c ≤ n ∧ n < c + m ∧ ∀ R, s (some (.src (ns.map Da.int)) :: some (.int lap) :: some (.cell S0.length) :: some (.int n) :: rest) (S0 ++ [wellC x y z]) = R →
      seqS (setS 2 (callF 2 m__law_well (consM (varM 0) (consM (varM 1) (nilM))))) (seqS (setS 3 (opM addD (cM (.int (c : Nat))) (callF 2 m__law_take (consM (varM 2) (consM (cM (.int (m : Nat))) (nilM)))))) s) (some (.src (ns.map Da.int)) :: some (.int lap) :: r2 :: r3 :: rest) S0 = R := by
  obtain ⟨x, y, hw⟩ := well_ok (ns := ns) (lap := lap) S0 hn hl
  have h0 : (S0 ++ [wellC x y 0])[S0.length]? = some (wellC x y 0) := by simp
  obtain ⟨d, x1, y1, z1, ht, d0, d5⟩ := take1 h0 (m := (m : Nat)) (by omega) (by omega)
  have hs : (S0 ++ [wellC x y 0]).set S0.length (wellC x1 y1 z1) = S0 ++ [wellC x1 y1 z1] := by simp
  rw [hs] at ht
  refine ⟨c + d.toNat, x1, y1, z1, by omega, by omega, fun R k => ?_⟩
  refine ev_seq_set (ev_fun (ev_cons (ev_var rfl) (ev_cons (ev_var rfl) ev_nil)) rfl hw) rfl ?_
  have e : ((c : Nat) : Int) + d = ((c + d.toNat : Nat) : Int) := by omega
  have ad : addD (.int (c : Nat)) (.int d) (S0 ++ [wellC x1 y1 z1]) = some (.int ((c + d.toNat : Nat) : Int)) := by rw [← e]; simp only [addD]
  exact ev_seq_set (ev_op ev_c (ev_fun (ev_cons (ev_var rfl) (ev_cons ev_c ev_nil)) rfl ht) ad) rfl k
/-- the law's own loop over three laps -/
theorem three_laps {N : Nat} {body : MS} {src : Da} {rest : En} (hN : rest.length + 2 = N) {r1 : Option Da} (k : ∀ (lap : Nat) (S : Store) (q : En), lap ≤ 2 → q.length + 2 = N → ∃ q2 S2, q2.length + 1 = N ∧ body (some src :: some (.int lap) :: q) S = .nx (some src :: q2) S2) (S : Store) :
    ∃ ρ2 S2, forS (.one 1) (itR1 (cM (.int 3))) body (some src :: r1 :: rest) S = .nx ρ2 S2 := by
  obtain ⟨ρ2, S2, e, _⟩ := forL_inv (tg := .one 1) (body := body) (P := fun ρ _ => ∃ q, q.length + 1 = N ∧ ρ = some src :: q) (ds := (intsN 3).map Da.int) (ρ := some src :: r1 :: rest) (S := S) ⟨_, by simp; omega, rfl⟩ fun d hd ρ S hP => by
    obtain ⟨q, hq, rfl⟩ := hP
    obtain ⟨i, hi, rfl⟩ := List.mem_map.mp hd
    have hi := mem_intsN.mp hi
    obtain ⟨r1, q, rfl⟩ : ∃ r1 q', q = r1 :: q' := by
      cases q with
      | nil => simp at hq; omega
      | cons a l => exact ⟨a, l, rfl⟩
    obtain ⟨q2, S2, h1, h2⟩ := k i.toNat S q (by omega) (by simpa using hq)
    have e : ((i.toNat : Nat) : Int) = i := by omega
    rw [e] at h2
    exact ⟨some src :: some (.int i) :: q, rfl, _, S2, h2, q2, h1, rfl⟩
  exact ⟨ρ2, S2, ev_for (ev_itR1c (n := 3) (by decide)) e⟩
theorem law_end {ρ ρ2 : En} {S S2 : Store} {f : MS} (e : f ρ S = .nx ρ2 S2) : seqS f (retS (cM (.bl true))) ρ S = .rt (.bl true) S2 := by unfold seqS; rw [e]; rfl
/-! ### stores by what lies behind the first cells -/
theorem at_app {S0 L : Store} {k : Nat} {c : Cell} (h : L[k]? = some c) : (S0 ++ L)[S0.length + k]? = some c := by
  rw [List.getElem?_append_right (by omega)]
  have e : S0.length + k - S0.length = k := by omega
  rw [e]; exact h
theorem at_app0 {S0 L : Store} {c : Cell} (h : L[0]? = some c) : (S0 ++ L)[S0.length]? = some c := at_app (k := 0) h
theorem set_app {S0 L : Store} {k : Nat} {c : Cell} : (S0 ++ L).set (S0.length + k) c = S0 ++ L.set k c := by
  rw [List.set_append_right _ _ (by omega)]
  have e : S0.length + k - S0.length = k := by omega
  rw [e]
theorem set_app0 {S0 L : Store} {c : Cell} : (S0 ++ L).set S0.length c = S0 ++ L.set 0 c := set_app (k := 0)
section
variable {n : Nat} {sp : List (List Int)} {dl pl : List Da} {p j i : Nat} {w : Str} {a b : Int} {ρ : En} {S S1 S2 S0 L L2 : Store} {d : Da} {f g : M Da} {t : M (List Da)}
theorem do_ok' (g : Good n sp) (h7 : n ≤ 7) (hj : S[j]? = some (yardC n sp dl p)) (hp : S[p]? = some (.lst pl)) (hpl : pl.length ≤ 1000) (hdl : dl.length ≤ 1000) (hw : isWord w) (a0 : 0 ≤ a) (an : a < n) (b0 : 0 ≤ b) (bn : b < n) (hab : a ≠ b)
    (hr : reason sp n w a b = none) (hS : (S.set p (.lst (pl ++ [spD sp]))).set j (yardC n (behind sp w a b) (dl ++ [deedD w a b]) p) = S2) : m_Yard_do [.cell j, deedD w a b] S = .ok .non S2 :=
  hS ▸ do_ok g h7 hj hp (by unfold big; omega) (by unfold big; omega) hw a0 an b0 bn hab hr
theorem ev_make {k : Nat} {x : Int} (ht : t ρ S = .ok [.int x] (S0 ++ L)) (hx : x = (n : Nat)) (h1 : 1 ≤ n) (h7 : n ≤ 7) (hL : L.length = k) (h2 : L ++ [yardC n (aloneR n) [] (S0.length + (k + 1)), .lst []] = L2) : makeF "Yard" 2 m_Yard_init t ρ S = .ok (.cell (S0.length + k)) (S0 ++ L2) := by
  subst hx
  have := make_ok (n := n) (ρ := ρ) (S := S) h1 h7 ht
  rw [List.length_append, hL, List.append_assoc] at this
  rw [this, ← h2]
  rfl
theorem ev_eqO {c : Str} {mf : Mf} {neg : Bool} {x y : Da} (hf : f ρ S = .ok x S1) (hg : g ρ S1 = .ok y S2) (ho : eqOR c mf neg x y S2 = .ok d S2) : eqOM c mf neg f g ρ S = .ok d S2 := by
  unfold eqOM; rw [hf]; simp only [Res.bind]; rw [hg]; exact ho
theorem ev_isO {c : Str} {k : Kd} {x : Da} (hf : f ρ S = .ok x S1) (hk : kdD c S1 x = some k) : isOM c f ρ S = .ok (.bl k.isOwn) S1 := by
  unfold isOM; rw [hf]; simp only [Res.bind, hk]
theorem objAt_yard (hj : S[j]? = some (yardC n sp dl p)) : objAt S "Yard" (.cell j) = some (j, yf n sp dl p) := by
  unfold objAt
  dsimp only
  rw [hj]
  exact if_pos rfl
theorem kd_yard (hj : S[j]? = some (yardC n sp dl p)) : kdD "Yard" S (.cell j) = some .own := by unfold kdD; rw [objAt_yard hj]
end
theorem eqD_nil {dl : List Da} {wt dp : Nat} {S : Store} (hs : ∀ e ∈ dl, SmD e wt dp) (hd : dp ≤ 50) : eqD (.tup dl) (.tup []) S = some (.bl (decide (dl = []))) := by
  obtain ⟨xs, hx, s⟩ := SmD.all hs
  have e1 : pyD S (.tup dl) = some (.tuple xs) := by show (pyPs dl).map PyData.tuple = _; rw [hx]; rfl
  have e3 : pyD S (.tup []) = some (.tuple []) := rfl
  have sh : SeqAt.shaped (.tuple xs) = true := by
    unfold SeqAt.shaped
    rw [PyData.canLay0, s.cl, PyData.depth]
    have := s.dp
    simp; omega
  have e2 : eqvD S (.tup dl) (.tup []) = some (decide (dl = [])) := by
    have h0 : eqvD S (.tup dl) (.tup []) = eqvP S (.tup dl) (.tup []) := rfl
    rw [h0]
    unfold eqvP
    rw [e1, e3]
    dsimp only
    rw [if_pos ⟨sh, by decide +kernel⟩, PyData.eqv]
    cases dl with
    | nil => cases hx; rfl
    | cons a r =>
      cases xs with
      | nil => rw [pyPs] at hx; split at hx <;> cases hx
      | cons y ys => rfl
  unfold eqD
  rw [e2]
  rfl
/-! ### yards led by deeds: what was done -/
inductive Tr (n : Nat) : List (List Int) → List Da → List Da → Prop
  | nil : Tr n (aloneR n) [] []
  | snoc {sp : List (List Int)} {dl pl : List Da} {w : Str} {a b : Int} (h : Tr n sp dl pl) (hw : isWord w) (a0 : 0 ≤ a) (an : a < n) (b0 : 0 ≤ b) (bn : b < n) (hab : a ≠ b) (hr : reason sp n w a b = none) : Tr n (behind sp w a b) (dl ++ [deedD w a b]) (pl ++ [spD sp])
theorem Tr.good {n : Nat} {sp : List (List Int)} {dl pl : List Da} (h : Tr n sp dl pl) : Good n sp := by
  induction h with
  | nil => exact good_alone n
  | snoc _ hw a0 an b0 bn hab hr ih => exact good_behind ih hw a0 an b0 bn hab hr
theorem Tr.len {n : Nat} {sp : List (List Int)} {dl pl : List Da} (h : Tr n sp dl pl) : pl.length = dl.length := by
  induction h with
  | nil => rfl
  | snoc _ hw a0 an b0 bn hab hr ih => simp [ih]
theorem Tr.smd {n : Nat} {sp : List (List Int)} {dl pl : List Da} (h7 : n ≤ 7) (h : Tr n sp dl pl) : ∀ d ∈ dl, SmD d 33 1 := by
  induction h with
  | nil => intro d hd; cases hd
  | snoc _ hw a0 an b0 bn hab hr ih =>
    intro d hd
    rcases List.mem_append.1 hd with q | q
    · exact ih d q
    · rw [List.mem_singleton.1 q]; exact SmD.deed hw h7 a0 an b0 bn
theorem Tr.smp {n : Nat} {sp : List (List Int)} {dl pl : List Da} (h7 : n ≤ 7) (h : Tr n sp dl pl) : ∀ d ∈ pl, SmD d 546 2 := by
  induction h with
  | nil => intro d hd; cases hd
  | snoc hh hw a0 an b0 bn hab hr ih =>
    intro d hd
    rcases List.mem_append.1 hd with q | q
    · exact ih d q
    · rw [List.mem_singleton.1 q]; exact SmD.space hh.good h7
theorem forL_cons {tg : Tg} {body : MS} {d : Da} {ds : List Da} {ρ : En} {S : Store} : forL tg body (d :: ds) ρ S = match bindT tg d ρ with
    | none => .bad
    | some ρ1 => match body ρ1 S with
      | .nx ρ2 S2 => forL tg body ds ρ2 S2
      | .ct ρ2 S2 => forL tg body ds ρ2 S2
      | .bk ρ2 S2 => .nx ρ2 S2
      | .rt d S2 => .rt d S2
      | .exc c d ρ2 S2 => .exc c d ρ2 S2
      | .bad => .bad := rfl
theorem forL_append {tg : Tg} {body : MS} {es : List Da} (hb : ∀ ρ S ρ2 S2, body ρ S ≠ .bk ρ2 S2) : ∀ {ds : List Da} {ρ ρ1 : En} {S S1 : Store}, forL tg body ds ρ S = .nx ρ1 S1 → forL tg body (ds ++ es) ρ S = forL tg body es ρ1 S1
  | [], ρ, ρ1, S, S1, h => by cases h; rfl
  | d :: ds, ρ, ρ1, S, S1, h => by
    rw [List.cons_append, forL_cons]
    rw [forL_cons] at h
    cases q : bindT tg d ρ with
    | none => rw [q] at h; cases h
    | some ρ2 =>
      rw [q] at h
      dsimp only at h ⊢
      cases q2 : body ρ2 S with
      | nx ρ3 S3 => rw [q2] at h; dsimp only at h ⊢; exact forL_append hb h
      | ct ρ3 S3 => rw [q2] at h; dsimp only at h ⊢; exact forL_append hb h
      | bk ρ3 S3 => exact absurd q2 (hb _ _ _ _)
      | rt d S3 => rw [q2] at h; cases h
      | exc c d ρ3 S3 => rw [q2] at h; cases h
      | bad => rw [q2] at h; cases h
theorem drop_nobk {f : M Da} : ∀ ρ S ρ2 S2, dropS f ρ S ≠ .bk ρ2 S2 := fun ρ S ρ2 S2 h => by
  unfold dropS at h
  cases q : f ρ S <;> rw [q] at h <;> cases h
theorem set_self {α : Type} {l : List α} {i : Nat} {x : α} (h : l[i]? = some x) : l.set i x = l := cell_same h
/-- what was done to a yard, done to a new one -/
theorem replay {n : Nat} (h7 : n ≤ 7) {i v j p : Nat} {S : Store} (hi : v ≠ i) (hj : S[j]? = some (yardC n (aloneR n) [] p)) (hp : S[p]? = some (.lst [])) {sp : List (List Int)} {dl pl : List Da} (h : Tr n sp dl pl) :
    dl.length ≤ 1000 → ∀ ρ : En, i < ρ.length → ρ[v]? = some (some (.cell j)) → ∃ y, forL (.one i) (dropS (methF "Yard" "do" 2 m_Yard_do (varM v) (consM (varM i) (nilM)))) dl ρ S = .nx (ρ.set i y) ((S.set p (.lst pl)).set j (yardC n sp dl p)) := by
  have hjp : p ≠ j := fun z => by subst z; rw [hj] at hp; cases hp
  have jl : j < S.length := (List.getElem?_eq_some_iff.mp hj).1
  have pl1 : p < S.length := (List.getElem?_eq_some_iff.mp hp).1
  induction h with
  | nil =>
    intro _ ρ hl hv
    refine ⟨ρ[i], ?_⟩
    rw [set_self (List.getElem?_eq_getElem hl), set_self hp, set_self hj]
    rfl
  | @snoc sp dl pl w a b hh hw a0 an b0 bn hab hr ih =>
    intro hlen ρ hl hv
    rw [List.length_append] at hlen
    obtain ⟨y, e⟩ := ih (by omega) ρ hl hv
    refine ⟨some (deedD w a b), ?_⟩
    rw [forL_append drop_nobk e]
    have l2 := hh.len
    generalize hS1 : (S.set p (.lst pl)).set j (yardC n sp dl p) = S1
    have hj1 : S1[j]? = some (yardC n sp dl p) := by rw [← hS1]; exact List.getElem?_set_self (by simpa using jl)
    have hp1 : S1[p]? = some (.lst pl) := by rw [← hS1, List.getElem?_set_ne (Ne.symm hjp)]; exact List.getElem?_set_self pl1
    have e1 := do_ok hh.good h7 hj1 hp1 (by unfold big; omega) (by unfold big; omega) hw a0 an b0 bn hab hr
    have hv2 : ((ρ.set i y).set i (some (deedD w a b)))[v]? = some (some (.cell j)) := by rw [List.set_set, List.getElem?_set_ne (Ne.symm hi)]; exact hv
    have hi2 : ((ρ.set i y).set i (some (deedD w a b)))[i]? = some (some (deedD w a b)) := by rw [List.set_set]; exact List.getElem?_set_self hl
    unfold forL
    have eb : bindT (.one i) (deedD w a b) (ρ.set i y) = some ((ρ.set i y).set i (some (deedD w a b))) := rfl
    rw [eb]
    dsimp only
    have ed : dropS (methF "Yard" "do" 2 m_Yard_do (varM v) (consM (varM i) nilM)) ((ρ.set i y).set i (some (deedD w a b))) S1 = _ := ev_drop (ev_meth hv2 hj1 lk_do (ev_cons (ev_var hi2) ev_nil) rfl e1)
    rw [ed]
    dsimp only
    unfold forL
    rw [List.set_set, ← hS1]
    congr 1
    rw [List.set_comm _ _ (Ne.symm hjp), List.set_set, List.set_set]
/-! ### data compared -/
theorem eqvAll_len : ∀ {xs ys : List PyData}, xs.length ≠ ys.length → PyData.eqvAll xs ys = false
  | [], [], h => absurd rfl h
  | [], y :: ys, _ => rfl
  | x :: xs, [], _ => rfl
  | x :: xs, y :: ys, h => by
    rw [PyData.eqvAll, eqvAll_len (xs := xs) (ys := ys) (by simpa using h), Bool.and_false]
theorem pyPs_len : ∀ {l : List Da} {xs : List PyData}, pyPs l = some xs → xs.length = l.length
  | [], xs, h => by cases h; rfl
  | d :: l, xs, h => by
    rw [pyPs] at h
    split at h
    · rename_i x ys h1 h2
      cases h
      simp [pyPs_len h2]
    · cases h
theorem eqD_tlen {dl dl2 : List Da} {wt dp wt2 dp2 : Nat} {S : Store} (hs : ∀ e ∈ dl, SmD e wt dp) (hd : dp ≤ 50) (hs2 : ∀ e ∈ dl2, SmD e wt2 dp2) (hd2 : dp2 ≤ 50) (hl : dl.length ≠ dl2.length) : eqD (.tup dl) (.tup dl2) S = some (.bl false) := by
  obtain ⟨xs, hx, s⟩ := SmD.all hs
  obtain ⟨ys, hy, s2⟩ := SmD.all hs2
  have e1 : pyD S (.tup dl) = some (.tuple xs) := by show (pyPs dl).map PyData.tuple = _; rw [hx]; rfl
  have e3 : pyD S (.tup dl2) = some (.tuple ys) := by show (pyPs dl2).map PyData.tuple = _; rw [hy]; rfl
  have sh : SeqAt.shaped (.tuple xs) = true := by
    unfold SeqAt.shaped
    rw [PyData.canLay0, s.cl, PyData.depth]
    have := s.dp
    simp; omega
  have sh2 : SeqAt.shaped (.tuple ys) = true := by
    unfold SeqAt.shaped
    rw [PyData.canLay0, s2.cl, PyData.depth]
    have := s2.dp
    simp; omega
  have e2 : eqvD S (.tup dl) (.tup dl2) = some false := by
    have h0 : eqvD S (.tup dl) (.tup dl2) = eqvP S (.tup dl) (.tup dl2) := rfl
    rw [h0]
    unfold eqvP
    rw [e1, e3]
    dsimp only
    rw [if_pos ⟨sh, sh2⟩, PyData.eqv, eqvAll_len (by rw [pyPs_len hx, pyPs_len hy]; exact hl)]
  unfold eqD
  rw [e2]
  rfl
theorem neD_lnil {dl : List Da} {wt dp : Nat} {S : Store} (hs : ∀ e ∈ dl, SmD e wt dp) (hd : dp ≤ 50) : neD (.lst dl) (.lst []) S = some (.bl (!decide (dl = []))) := by
  obtain ⟨xs, hx, s⟩ := SmD.all hs
  have e1 : pyD S (.lst dl) = some (.list xs) := by show (pyPs dl).map PyData.list = _; rw [hx]; rfl
  have e3 : pyD S (.lst []) = some (.list []) := rfl
  have sh : SeqAt.shaped (.list xs) = true := by
    unfold SeqAt.shaped
    rw [PyData.canLay0, s.cl, PyData.depth]
    have := s.dp
    simp; omega
  have e2 : eqvD S (.lst dl) (.lst []) = some (decide (dl = [])) := by
    have h0 : eqvD S (.lst dl) (.lst []) = eqvP S (.lst dl) (.lst []) := rfl
    rw [h0]
    unfold eqvP
    rw [e1, e3]
    dsimp only
    rw [if_pos ⟨sh, by decide +kernel⟩, PyData.eqv]
    cases dl with
    | nil => cases hx; rfl
    | cons a r =>
      cases xs with
      | nil => rw [pyPs] at hx; split at hx <;> cases hx
      | cons y ys => rfl
  unfold neD
  rw [e2]
  rfl
theorem neD_bl (x y : Bool) (S : Store) : neD (.bl x) (.bl y) S = some (.bl (x != y)) := by cases x <;> cases y <;> rfl
theorem ev_fldG {n : Int} {sp : List (List Int)} {dl : List Da} {p j : Nat} {f : Str} {d : Da} {fo : M Da} {ρ : En} {S S1 : Store} (ho : fo ρ S = .ok (.cell j) S1) (h : S1[j]? = some (yardC n sp dl p)) (hf : (yf n sp dl p).lookup f = some d) : fldM "Yard" f fo ρ S = .ok d S1 := by
  have e : objAt S1 "Yard" (.cell j) = some (j, yf n sp dl p) := by
    unfold objAt
    dsimp only
    rw [h]
    exact if_pos rfl
  unfold fldM
  rw [ho]
  simp only [Res.bind, e, hf, ofO]
theorem eq_self {d : Da} {wt dp : Nat} {S : Store} (h : SmD d wt dp) (hd : dp ≤ 60) (hb : boxD d = true) (hc : ∀ j, d ≠ .cell j) : eqD d d S = some (.bl true) := by unfold eqD; rw [same_ok h hd hb hc]; rfl
theorem ne_self {d : Da} {wt dp : Nat} {S : Store} (h : SmD d wt dp) (hd : dp ≤ 60) (hb : boxD d = true) (hc : ∀ j, d ≠ .cell j) : neD d d S = some (.bl false) := by unfold neD; rw [same_ok h hd hb hc]; rfl
theorem due_done {sp : List (List Int)} {n : Nat} {w : Str} {a b : Int} : dueS (reason sp n w a b) = "done" ↔ reason sp n w a b = none := by
  cases h : reason sp n w a b with
  | none => simp [dueS]
  | some x => simp [dueS, reason_ne h]
theorem ev_seq_unp4 {i j k l : Nat} {f : M Da} {s : MS} {ρ ρ1 : En} {S S1 : Store} {a b c d : Da} {R : RS} (h : f ρ S = .ok (.tup [a, b, c, d]) S1) (hρ : (((ρ.set i (some a)).set j (some b)).set k (some c)).set l (some d) = ρ1) (h2 : s ρ1 S1 = R) : seqS (asgGS (tupT 4 (consT (nameT i) (consT (nameT j) (consT (nameT k) (consT (nameT l) (nilT)))))) f) s ρ S = R := by
  unfold seqS asgGS; rw [h]; rw [← h2, ← hρ]; rfl
theorem reprP {d : Da} {wt dp : Nat} (S : Store) (h : SmD d wt dp) (hb : boxD d = true) (hc : ∀ j, d ≠ .cell j) (h1 : wt ≤ 1048576) (h2 : dp ≤ 60) : ∃ z, ∀ S2, reprPD [d] S2 = some (.str z) := by
  obtain ⟨z, _, h⟩ := repr_ok (S := S) h hb hc h1 h2
  exact ⟨z, h⟩
theorem ev_ifs_ft {c : M Bool} {s : MS} {ρ : En} {S S1 : Store} {R : RS} (p : Bool) (h : c ρ S = .ok p S1) (hp : p = false) (k : RS.nx ρ S1 = R) : ifS c s skipS ρ S = R := by subst hp; exact ev_ifs_f h k
/-- a lap has come to its end -/
def Fin (N : Nat) (src : Da) (r : RS) : Prop := ∃ q2 S2, q2.length + 1 = N ∧ r = .nx (some src :: q2) S2
theorem Fin.of {N : Nat} {src : Da} {r r' : RS} (e : r = r') (h : Fin N src r') : Fin N src r := e ▸ h
theorem Fin.nx {N : Nat} {src : Da} {q : En} {S : Store} (h : q.length + 1 = N) : Fin N src (.nx (some src :: q) S) := ⟨q, S, h, rfl⟩
theorem law_fin {N : Nat} {body : MS} {src : Da} {rest : En} (hN : rest.length + 2 = N) {r1 : Option Da} (k : ∀ (lap : Nat) (S : Store) (q : En), lap ≤ 2 → q.length + 2 = N → Fin N src (body (some src :: some (.int lap) :: q) S)) (S : Store) :
    ∃ S2, seqS (forS (.one 1) (itR1 (cM (.int 3))) body) (retS (cM (.bl true))) (some src :: r1 :: rest) S = .rt (.bl true) S2 := by
  obtain ⟨ρ2, S2, e⟩ := three_laps hN (r1 := r1) k S
  exact ⟨S2, law_end e⟩
theorem ix0 {d : Da} {l : List Da} {S : Store} : ixD (.lst (d :: l)) (.int 0) S = some d := by
  show L2.atI (d :: l) 0 = some d
  rw [atI_ok (by decide) (by simp)]
  rfl
/-! ### lists as cells -/
section
variable {ρ : En} {S S1 S2 : Store} {j : Nat} {l : List Da} {d y : Da} {fo fe : M Da}
theorem cellL_at (h : S[j]? = some (.lst l)) : cellL S (.cell j) = some (j, l) := by unfold cellL; dsimp only; rw [h]
theorem asL_at (h : S[j]? = some (.lst l)) : asL S (.cell j) = some l := by unfold asL; dsimp only; rw [h]
theorem ev_app (ho : fo ρ S = .ok (.cell j) S) (h : S[j]? = some (.lst l)) (he : fe ρ S = .ok y S1) (h1 : S1[j]? = some (.lst l)) (hl : l.length ≤ 1000) (hS : S1.set j (.lst (l ++ [y])) = S2) : appM fo fe ρ S = .ok .non S2 := by
  unfold appM
  rw [ho]
  simp only [Res.bind]
  rw [cellL_at h]
  dsimp only
  rw [he]
  dsimp only
  rw [cellL_at h1]
  dsimp only
  rw [if_pos (by unfold big; omega), hS]
theorem ev_pop (ho : fo ρ S = .ok (.cell j) S) (h : S[j]? = some (.lst (l ++ [d]))) (hS : S.set j (.lst l) = S2) : popM fo ρ S = .ok d S2 := by
  unfold popM
  rw [ho]
  simp only [Res.bind]
  rw [cellL_at h]
  dsimp only
  have e : (l ++ [d])[(l ++ [d]).length - 1]? = some d := by simp
  rw [e]
  dsimp only
  rw [List.dropLast_concat, hS]
theorem atI_last {α : Type} {l : List α} {d : α} : L2.atI (l ++ [d]) (-1) = some d := by
  have h1 : (1 : Int) ≤ (l.length : Int) + 1 := by omega
  have h2 : (-1 + ((l.length : Int) + 1)).toNat = l.length := by omega
  unfold L2.atI ixN
  simp [h1, h2]
theorem ixD_last (h : S[j]? = some (.lst (l ++ [d]))) : ixD (.cell j) (.int (-1)) S = some d := by
  have e : ixD (.cell j) (.int (-1)) S = match asL S (.cell j) with
    | some l => L2.atI l (-1)
    | none => none := rfl
  rw [e, asL_at h]
  exact atI_last
theorem len_cell (h : S[j]? = some (.lst l)) : lenD [.cell j] S = some (.int l.length) := by
  have e : lenD [.cell j] S = (asL S (.cell j)).map fun l => .int l.length := rfl
  rw [e, asL_at h]; rfl
theorem gt_one {n : Nat} : gtD (.int n) (.int 1) S = some (.bl (decide (1 < n))) := by
  show some (Da.bl (decide ((1 : Int) < n))) = _
  congr 2
  by_cases h : 1 < n
  · rw [decide_eq_true h, decide_eq_true (by omega)]
  · rw [decide_eq_false h, decide_eq_false (by omega)]
end
theorem while_f {c : M Bool} {b : MS} {n : Nat} {ρ : En} {S S1 : Store} (h : c ρ S = .ok false S1) : whileL c b (n + 1) ρ S = .nx ρ S1 := by unfold whileL; rw [h]; rfl
theorem while_t {c : M Bool} {b : MS} {n : Nat} {ρ ρ2 : En} {S S1 S2 : Store} (h : c ρ S = .ok true S1) (hb : b ρ S1 = .nx ρ2 S2) : whileL c b (n + 1) ρ S = whileL c b n ρ2 S2 := by
  rw [whileL, h]
  simp only [Res.thenS, if_true]
  rw [hb]
theorem ev_seq_while {c : M Bool} {b s : MS} {k : Nat} {ρ ρ1 : En} {S S1 : Store} {R : RS} (h : whileL c b k ρ S = .nx ρ1 S1) (k2 : s ρ1 S1 = R) : seqS (whileL c b k) s ρ S = R := by unfold seqS; rw [h]; exact k2
theorem alone_ok {n : Nat} (h7 : n ≤ 7) (S : Store) : m__law_alone [.int n] S = .ok (spD (aloneR n)) S := by
  have : n = 0 ∨ n = 1 ∨ n = 2 ∨ n = 3 ∨ n = 4 ∨ n = 5 ∨ n = 6 ∨ n = 7 := by omega
  rcases this with rfl | rfl | rfl | rfl | rfl | rfl | rfl | rfl <;> kernel_rfl
theorem of_ok {j : Nat} {S : Store} {x y z : Int} (h : S[j]? = some (wellC x y z)) : ∃ w x' y' z', m__law_of [.cell j, .tup [.str "near", .str "near", .str "far"]] S = .ok (.str w) (S.set j (wellC x' y' z')) ∧ isWord w := by
  obtain ⟨d, x', y', z', ht, h0, h3⟩ := take1 h (m := 3) (by decide) (by decide)
  have hc : d = 0 ∨ d = 1 ∨ d = 2 := by omega
  have key : ∀ w, ixD (.tup [.str "near", .str "near", .str "far"]) (.int d) (S.set j (wellC x' y' z')) = some (.str w) → m__law_of [.cell j, .tup [.str "near", .str "near", .str "far"]] S = .ok (.str w) (S.set j (wellC x' y' z')) := fun w hw => by
    unfold m__law_of
    show RS.res (b__law_of [some (.cell j), some (.tup [.str "near", .str "near", .str "far"])] S) = _
    unfold b__law_of
    simp [seqS, ifS, orT, andT, notT, tstM, retS, skipS, setS, dropS, cM, callM, callF, consM, nilM, ifM, andM, notM, orM, varM, listM, frzM, opM, unM, dispM, Res.bind, Res.thenS, ofO, RS.seq, RS.res, defM, List.set, lenD, ht, hw]
  rcases hc with rfl | rfl | rfl
  · exact ⟨"near", x', y', z', key _ rfl, .inl rfl⟩
  · exact ⟨"near", x', y', z', key _ rfl, .inl rfl⟩
  · exact ⟨"far", x', y', z', key _ rfl, .inr rfl⟩
theorem deed_ok {j n : Nat} {S : Store} {x y z : Int} (h : S[j]? = some (wellC x y z)) (h2 : 2 ≤ n) (h7 : n ≤ 7) : ∃ w a b x' y' z', m__law_deed [.cell j, .int n] S = .ok (deedD w a b) (S.set j (wellC x' y' z')) ∧ isWord w ∧ 0 ≤ a ∧ a < n ∧ 0 ≤ b ∧ b < n ∧ a ≠ b := by
  have hj : j < S.length := (List.getElem?_eq_some_iff.mp h).1
  obtain ⟨a, x1, y1, z1, t1, a0, an⟩ := take1 h (m := n) (by omega) (by omega)
  have s1 : (S.set j (wellC x1 y1 z1))[j]? = some (wellC x1 y1 z1) := List.getElem?_set_self hj
  obtain ⟨c, x2, y2, z2, t2, c0, cn⟩ := take1 s1 (m := n - 1) (by omega) (by omega)
  rw [List.set_set] at t2
  have s2 : (S.set j (wellC x2 y2 z2))[j]? = some (wellC x2 y2 z2) := List.getElem?_set_self hj
  obtain ⟨w, x3, y3, z3, t3, hw⟩ := of_ok s2
  rw [List.set_set] at t3
  have np : 0 < (n : Int) := by omega
  refine ⟨w, a, (a + 1 + c) % n, x3, y3, z3, ?_, hw, a0, an, Int.emod_nonneg _ (by omega), Int.emod_lt_of_pos _ np, fun e => ?_⟩
  · unfold m__law_deed
    show RS.res (b__law_deed [some (.cell j), some (.int n), none, none] S) = _
    unfold b__law_deed
    have h3 : (3 : Nat) ≤ big := by decide
    have e1 : setS 2 (callF 2 m__law_take (consM (varM 0) (consM (varM 1) (nilM)))) [some (.cell j), some (.int n), none, none] S = .nx [some (.cell j), some (.int n), some (.int a), none] (S.set j (wellC x1 y1 z1)) := by simp [seqS, ifS, orT, andT, notT, tstM, retS, skipS, setS, dropS, cM, callM, callF, consM, nilM, ifM, andM, notM, orM, varM, listM, frzM, opM, unM, dispM, Res.bind, Res.thenS, ofO, RS.seq, RS.res, defM, List.set, t1]
    have e2 : setS 3 (opM modD (callM intD (consM (opM addD (opM addD (varM 2) (cM (.int 1))) (callF 2 m__law_take (consM (varM 0) (consM (opM subD (varM 1) (cM (.int 1))) (nilM))))) (nilM))) (varM 1)) [some (.cell j), some (.int n), some (.int a), none] (S.set j (wellC x1 y1 z1)) =
        .nx [some (.cell j), some (.int n), some (.int a), some (.int ((a + 1 + c) % n))] (S.set j (wellC x2 y2 z2)) := by simp [seqS, ifS, orT, andT, notT, tstM, retS, skipS, setS, dropS, cM, callM, callF, consM, nilM, ifM, andM, notM, orM, varM, listM, frzM, opM, unM, dispM, Res.bind, Res.thenS, ofO, RS.seq, RS.res, defM, List.set, addD, subD, modD, ii, intD, t2, np, show 0 < n by omega]
    rw [seqS_nx e1, seqS_nx e2]
    simp [seqS, ifS, orT, andT, notT, tstM, retS, skipS, setS, dropS, cM, callM, callF, consM, nilM, ifM, andM, notM, orM, varM, listM, frzM, opM, unM, dispM, Res.bind, Res.thenS, ofO, RS.seq, RS.res, defM, List.set, h3, t3, deedD]
  · by_cases q : a + 1 + c < n
    · rw [Int.emod_eq_of_lt (by omega) q] at e; omega
    · have : (a + 1 + c) % (n : Int) = a + 1 + c - n := by
        rw [← Int.sub_emod_right, Int.emod_eq_of_lt (by omega) (by omega)]
      rw [this] at e; omega
theorem did_ok {n : Nat} {sp : List (List Int)} {w : Str} {a b : Int} {S : Store} (g : Good n sp) (h7 : n ≤ 7) (hw : isWord w) (a0 : 0 ≤ a) (an : a < n) (b0 : 0 ≤ b) (bn : b < n) (hab : a ≠ b) :
    m__law_did [spD sp, deedD w a b] S = .ok (.tup [.str (dueS (reason sp n w a b)), spD (nextSp sp n w a b)]) S := by
  have hl := g.len
  have hq := eqD_str w "near" S
  have ib := ixD_row (sp := sp) (S := S) b0 (by omega)
  have ia := ixD_row (sp := sp) (S := S) a0 (by omega)
  have hin := inD_row a (row sp b) S
  have hni := notInD_row a (row sp b) S
  have k2 : (2 : Nat) ≤ big := by decide
  unfold m__law_did
  show RS.res (b__law_did [some (spD sp), some (deedD w a b), none, none, none, none, none, none, none] S) = _
  unfold b__law_did
  rw [seqS_nx unpack3]
  generalize hρ : ([some (spD sp), some (deedD w a b), some (.str w), some (.int a), some (.int b), none, none, none, none] : En) = ρ
  have v0 : varM 0 ρ S = .ok (spD sp) S := by rw [← hρ]; rfl
  have v2 : varM 2 ρ S = .ok (.str w) S := by rw [← hρ]; rfl
  have v3 : varM 3 ρ S = .ok (.int a) S := by rw [← hρ]; rfl
  have v4 : varM 4 ρ S = .ok (.int b) S := by rw [← hρ]; rfl
  have f1 : ∀ l : List Da, l.filter (fun _ => true) = l := fun l => by induction l with | nil => rfl | cons x l ih => simp [ih]
  by_cases q1 : w = "near"
  · have hq2 : eqD (.str w) (.str "near") S = some (.bl true) := hq.trans (by rw [decide_eq_true q1])
    by_cases q2 : a ∈ row sp b
    · have er : reason sp n w a b = some ("same" : Str) := by unfold reason; rw [if_pos q1, if_pos q2]
      rw [seqS_rt (d := .tup [.str "same", spD sp]) (S1 := S)]
      · simp [nextSp, er, dueS, RS.res]
      · rw [ifS_t (S1 := S) (by simp [tstM, opM, cM, v2, hq2, Res.bind, ofO])]
        rw [seqS_rt (d := .tup [.str "same", spD sp]) (S1 := S)]
        rw [ifS_t (S1 := S) (by simp [tstM, opM, v3, v0, v4, ib, hin, q2, Res.bind, ofO])]
        exact retS_ok (by simp [dispM, consM, nilM, cM, v0, Res.bind, k2])
    · have er : reason sp n w a b = none := by unfold reason; rw [if_pos q1, if_neg q2]
      have e1 : lcM [6] (.one 6) (itT (varM 0)) (yesM) (callM tupleD (consM (frzM (ssF (opM addD (varM 6) (ifM (tstM (opM inD (varM 4) (varM 6))) (opM ixD (varM 0) (varM 3)) (tupM (nilM)))))) (nilM))) ρ S = .ok ((behind sp w a b).map rowD) S := by
        have := lcM_pure (own := [6]) (tg := .one 6) (src := itT (varM 0)) (cond := yesM) (elt := callM tupleD (consM (frzM (ssF (opM addD (varM 6) (ifM (tstM (opM inD (varM 4) (varM 6))) (opM ixD (varM 0) (varM 3)) (tupM (nilM)))))) (nilM)))
          (ρ := ρ) (S := S) (ds := sp.map rowD) (fun _ => true) (fun d => rowD (if b ∈ unrow d then sortU (unrow d ++ row sp a) else unrow d)) (by simp [itT, v0, Res.bind, spD]) (by unfold big; simp; omega) fun d hd => by
            obtain ⟨r, hr, rfl⟩ := List.mem_map.mp hd
            refine ⟨_, rfl, rfl, fun _ => ?_⟩
            rw [← hρ]
            have s1 := g.short hr
            have s2 := g.short (row_mem (sp := sp) a0 (by omega))
            rw [unrow_row]
            by_cases q : b ∈ r
            · rw [if_pos q]
              refine tupLc_ok (l := (sortU (r ++ row sp a)).map Da.int) ?_
              have hb1 : r.length + (row sp a).length ≤ big := by unfold big; omega
              have hi : intsOf (r.map Da.int ++ (row sp a).map Da.int) = some (r ++ row sp a) := by rw [← List.map_append, ints_some]
              have h64 : r.length + (row sp a).length < 64 := by omega
              have hin2 := inD_row b r S
              have ha2 : addD (rowD r) (rowD (row sp a)) S = some (.tup (r.map Da.int ++ (row sp a).map Da.int)) := by simp [addD, rowD, hb1]
              simp [ssF, opM, varM, ifM, tstM, wipeD, List.set, Res.bind, hin2, q, ofO, ia, ha2, hi, h64]
            · rw [if_neg q]
              refine tupLc_ok (l := r.map Da.int) ?_
              have hb1 : r.length ≤ big := by unfold big; omega
              have h64 : r.length < 64 := by omega
              have hin2 := inD_row b r S
              have ha2 : addD (rowD r) (.tup []) S = some (.tup (r.map Da.int)) := by simp [addD, rowD, hb1]
              simp [ssF, opM, varM, ifM, tstM, dispM, nilM, wipeD, List.set, Res.bind, hin2, q, ofO, ha2, ints_some, h64, sortU_same (g.rise r hr)]
        rw [this, f1, List.map_map]
        unfold behind
        rw [if_pos q1, List.map_map]
        congr 1
        apply List.map_congr_left
        intro r _
        simp [unrow_row]
      rw [seqS_rt (d := .tup [.str "done", spD (behind sp w a b)]) (S1 := S)]
      · simp [nextSp, er, dueS, RS.res]
      · rw [ifS_t (S1 := S) (by simp [tstM, opM, cM, v2, hq2, Res.bind, ofO])]
        rw [seqS_nx (ρ1 := ρ) (S1 := S) (by rw [ifS_f (S1 := S) (by simp [tstM, opM, v3, v0, v4, ib, hin, q2, Res.bind, ofO])]; rfl)]
        have e2 := tupLc_ok e1
        refine retS_ok ?_
        simp only [dispM]
        rw [consM2 (a := .str "done") (S1 := S) rfl e2]
        simp [Res.bind, k2, spD]
  · have hq2 : eqD (.str w) (.str "near") S = some (.bl false) := hq.trans (by rw [decide_eq_false q1])
    rw [seqS_nx (ρ1 := ρ) (S1 := S) (by rw [ifS_f (S1 := S) (by simp [tstM, opM, cM, v2, hq2, Res.bind, ofO])]; rfl)]
    by_cases q2 : a ∈ row sp b
    · rw [seqS_nx (ρ1 := ρ) (S1 := S) (by rw [ifS_f (S1 := S) (by simp [tstM, opM, v3, v0, v4, ib, hni, q2, Res.bind, ofO])]; rfl)]
      have e1 : lcM [7] (.one 7) (itT (opM ixD (varM 0) (varM 4))) (andT (tstM (opM notInD (varM 7) (tupM (consM (varM 3) (consM (varM 4) (nilM)))))) (tstM (opM inD (varM 3) (opM ixD (varM 0) (varM 7))))) (varM 7) ρ S =
          .ok (((row sp b).filter fun c => !(decide (c = a) || decide (c = b)) && decide (a ∈ row sp c)).map Da.int) S := by
        have := lcM_pure (own := [7]) (tg := .one 7) (src := itT (opM ixD (varM 0) (varM 4))) (cond := andT (tstM (opM notInD (varM 7) (tupM (consM (varM 3) (consM (varM 4) (nilM)))))) (tstM (opM inD (varM 3) (opM ixD (varM 0) (varM 7))))) (elt := varM 7)
          (ρ := ρ) (S := S) (ds := (row sp b).map Da.int) (fun d => match d with | .int c => !(decide (c = a) || decide (c = b)) && decide (a ∈ row sp c) | _ => false) id (by simp [itT, opM, v0, v4, ib, Res.bind, ofO, rowD]) (by have := g.short (row_mem (sp := sp) b0 (by omega)); unfold big; simp; omega) fun d hd => by
            obtain ⟨c, hc, rfl⟩ := List.mem_map.mp hd
            have rc := g.rowRng b0 bn hc
            rw [← hρ]
            refine ⟨_, rfl, ?_, fun _ => rfl⟩
            have hn : notInD (.int c) (.tup [.int a, .int b]) S = some (.bl (!(decide (c = a) || decide (c = b)))) := by
              have := notInD_row c [a, b] S
              unfold rowD at this
              rw [List.map_cons, List.map_cons, List.map_nil] at this
              rw [this]
              simp
            have ic := ixD_row (sp := sp) (S := S) rc.1 (by omega)
            have hin2 := inD_row a (row sp c) S
            by_cases z : c = a ∨ c = b
            · have hn2 : notInD (.int c) (.tup [.int a, .int b]) S = some (.bl false) := hn.trans (by rcases z with z | z <;> simp [z])
              have hv : (!(decide (c = a) || decide (c = b)) && decide (a ∈ row sp c)) = false := by rcases z with z | z <;> simp [z]
              show _ = Res.ok (!(decide (c = a) || decide (c = b)) && decide (a ∈ row sp c)) S
              rw [hv]
              simp [andT, tstM, opM, varM, dispM, consM, nilM, wipeD, List.set, Res.bind, k2, hn2, ofO]
            · have z1 : ¬ c = a := fun t => z (.inl t)
              have z2 : ¬ c = b := fun t => z (.inr t)
              simp [andT, tstM, opM, varM, dispM, consM, nilM, wipeD, List.set, Res.bind, k2, hn, ofO, z1, z2, ic, hin2]
        rw [this, List.map_id, List.filter_map]
        rfl
      have e2 : tstM (opM neD (frzM (lcM [7] (.one 7) (itT (opM ixD (varM 0) (varM 4))) (andT (tstM (opM notInD (varM 7) (tupM (consM (varM 3) (consM (varM 4) (nilM)))))) (tstM (opM inD (varM 3) (opM ixD (varM 0) (varM 7))))) (varM 7))) (frzM (listM (nilM)))) ρ S = .ok (betw sp n a b) S := by
        have hne := neD_nil ((row sp b).filter fun c => !(decide (c = a) || decide (c = b)) && decide (a ∈ row sp c)) S
        rw [betw_nil g b0 bn, Bool.not_not] at hne
        exact tstM_ok (opM_ok (frz_ok e1) (by simp [frzM, listM, nilM, Res.bind]) hne)
      by_cases q3 : betw sp n a b = true
      · have er : reason sp n w a b = some ("through" : Str) := by unfold reason; rw [if_neg q1, if_pos q2, if_pos q3]
        rw [q3] at e2
        rw [seqS_rt (d := .tup [.str "through", spD sp]) (S1 := S)]
        · simp [nextSp, er, dueS, RS.res]
        · rw [ifS_t e2]
          exact retS_ok (by simp [dispM, consM, nilM, cM, v0, Res.bind, k2])
      · have er : reason sp n w a b = none := by unfold reason; rw [if_neg q1, if_pos q2, if_neg q3]
        rw [Bool.not_eq_true] at q3
        rw [q3] at e2
        rw [seqS_nx (ρ1 := ρ) (S1 := S) (by rw [ifS_f e2]; rfl)]
        have e3 : lcM [8] (.one 8) (itT (opM ixD (varM 0) (varM 4))) (tstM (opM neD (varM 8) (varM 3))) (varM 8) ρ S = .ok (((row sp b).filter fun x => !decide (x = a)).map Da.int) S := by
          have := lcM_pure (own := [8]) (tg := .one 8) (src := itT (opM ixD (varM 0) (varM 4))) (cond := tstM (opM neD (varM 8) (varM 3))) (elt := varM 8) (ρ := ρ) (S := S) (ds := (row sp b).map Da.int)
            (fun d => match d with | .int x => !decide (x = a) | _ => false) id (by simp [itT, opM, v0, v4, ib, Res.bind, ofO, rowD]) (by have := g.short (row_mem (sp := sp) b0 (by omega)); unfold big; simp; omega) fun d hd => by
              obtain ⟨x, _, rfl⟩ := List.mem_map.mp hd
              rw [← hρ]
              exact ⟨_, rfl, by simp [tstM, opM, varM, wipeD, List.set, Res.bind, neD_int, ofO], fun _ => rfl⟩
          rw [this, List.map_id, List.filter_map]
          rfl
        have e4 := setS_ok (i := 5) (tupLc_ok e3)
        rw [seqS_nx e4, ← hρ]
        have bn2 : b.toNat < sp.length := by omega
        have t1 : cutD (sp.map rowD) none (some b) = (sp.take b.toNat).map rowD := by
          unfold cutD
          have h1 : HT.sIx (sp.map rowD).length (sp.map rowD).length (some b) = b.toNat := by
            unfold HT.sIx
            dsimp only
            rw [if_neg (by omega), List.length_map]
            omega
          rw [h1, HT.sIx_none, List.drop_zero, List.map_take]
          rfl
        have t2 : cutD (sp.map rowD) (some (b + 1)) none = (sp.drop (b.toNat + 1)).map rowD := by
          unfold cutD
          have h1 : HT.sIx (sp.map rowD).length 0 (some (b + 1)) = b.toNat + 1 := by
            unfold HT.sIx
            dsimp only
            rw [if_neg (by omega), List.length_map]
            omega
          rw [h1, HT.sIx_none, List.map_drop]
          refine List.take_of_length_le ?_; simp
        have eb : (sp.take b.toNat).map rowD ++ [rowD ((row sp b).filter fun x => !decide (x = a))] ++ (sp.drop (b.toNat + 1)).map rowD = (behind sp w a b).map rowD := by
          unfold behind
          rw [if_neg q1]
          rw [zip_set (f := fun r => r.filter fun x => !decide (x = a)) b0 bn2, List.map_append, List.map_append]
          rfl
        have hb1 : (sp.take b.toNat).length + 1 ≤ big := by unfold big; rw [List.length_take]; omega
        have hb2 : ((sp.take b.toNat).length + 1) + (sp.drop (b.toNat + 1)).length ≤ big := by unfold big; rw [List.length_take, List.length_drop]; omega
        have k1 : (1 : Nat) ≤ big := by decide
        have e5 : opM addD (opM addD (sliceM slTD (varM 0) (noPartM) (partM (varM 4))) (tupM (consM (varM 5) (nilM)))) (sliceM slTD (varM 0) (partM (opM addD (varM 4) (cM (.int 1)))) (noPartM))
            [some (spD sp), some (deedD w a b), some (.str w), some (.int a), some (.int b), some (rowD ((row sp b).filter fun x => !decide (x = a))), none, none, none] S = .ok (spD (behind sp w a b)) S := by
          refine opM_ok (a := .tup ((sp.take b.toNat).map rowD ++ [rowD ((row sp b).filter fun x => !decide (x = a))])) (S1 := S) (opM_ok (a := .tup ((sp.take b.toNat).map rowD)) (b := .tup [rowD ((row sp b).filter fun x => !decide (x = a))]) (S1 := S) ?_ ?_ ?_) (b := .tup ((sp.drop (b.toNat + 1)).map rowD)) ?_ ?_
          · simp [sliceM, varM, noPartM, partM, Res.bind, slTD, spD, t1, ofO]
          · simp [dispM, consM, nilM, varM, Res.bind, k1]
          · unfold addD; dsimp only; rw [if_pos (by simpa using hb1)]
          · simp [sliceM, varM, noPartM, partM, opM, cM, addD, Res.bind, slTD, spD, t2, ofO]
          · unfold addD; dsimp only; rw [if_pos (by simpa using hb2), eb]; rfl
        show RS.res (retS _ [some (spD sp), some (deedD w a b), some (.str w), some (.int a), some (.int b), some (rowD ((row sp b).filter fun x => !decide (x = a))), none, none, none] S) = _
        have e6 : tupM (consM (cM (.str "done")) (consM (opM addD (opM addD (sliceM slTD (varM 0) (noPartM) (partM (varM 4))) (tupM (consM (varM 5) (nilM)))) (sliceM slTD (varM 0) (partM (opM addD (varM 4) (cM (.int 1)))) (noPartM))) nilM))
            [some (spD sp), some (deedD w a b), some (.str w), some (.int a), some (.int b), some (rowD ((row sp b).filter fun x => !decide (x = a))), none, none, none] S = .ok (.tup [.str "done", spD (behind sp w a b)]) S := by
          simp only [dispM]
          rw [consM2 (a := .str "done") (S1 := S) rfl e5]
          simp [Res.bind, k2]
        rw [retS_ok e6]
        simp [nextSp, er, dueS, RS.res]
    · have er : reason sp n w a b = some ("none" : Str) := by unfold reason; rw [if_neg q1, if_neg q2]
      rw [seqS_rt (d := .tup [.str "none", spD sp]) (S1 := S)]
      · simp [nextSp, er, dueS, RS.res]
      · rw [ifS_t (S1 := S) (by simp [tstM, opM, v3, v0, v4, ib, hni, q2, Res.bind, ofO])]
        exact retS_ok (by simp [dispM, consM, nilM, cM, v0, Res.bind, k2])
/-! ### a console -/
def conC (y : Nat) : Cell := .obj "Console" [("yard", .cell y)]
theorem ev_fldO {cn f : Str} {fs : List (Str × Da)} {j : Nat} {d : Da} {fo : M Da} {ρ : En} {S S1 : Store} (ho : fo ρ S = .ok (.cell j) S1) (h : S1[j]? = some (.obj cn fs)) (hf : fs.lookup f = some d) : fldM cn f fo ρ S = .ok d S1 := by
  have e : objAt S1 cn (.cell j) = some (j, fs) := by
    unfold objAt
    dsimp only
    rw [h]
    exact if_pos rfl
  unfold fldM
  rw [ho]
  simp only [Res.bind, e, hf, ofO]
theorem ev_methO {cn m : Str} {fs : List (Str × Da)} {ds : List Da} {d : Da} {j k : Nat} {mf : Mf} {fo : M Da} {t : M (List Da)} {ρ : En} {S S1 S2 : Store} (ho : fo ρ S = .ok (.cell j) S) (h : S[j]? = some (.obj cn fs)) (hl : fs.lookup m = none) (ht : t ρ S = .ok ds S1) (hn : ds.length + 1 = k)
    (hr : mf (.cell j :: ds) S1 = .ok d S2) : methF cn m k mf fo t ρ S = .ok d S2 := by
  have e : objAt S cn (.cell j) = some (j, fs) := by
    unfold objAt
    dsimp only
    rw [h]
    exact if_pos rfl
  unfold methF
  rw [ho]
  simp only [Res.bind, e, hl]
  rw [ht]
  dsimp only
  rw [if_pos (by rw [List.length_cons]; exact hn), hr]
theorem lk_yard {y : Nat} : ([("yard", .cell y)] : List (Str × Da)).lookup ("yard" : Str) = some (.cell y) := by kernel_rfl
theorem lk_say {y : Nat} : ([("yard", .cell y)] : List (Str × Da)).lookup ("say" : Str) = none := by kernel_rfl
def strL (l : List Str) : Da := .lst (l.map Da.str)
def tupI (l : List Int) : Da := .tup (l.map Da.int)
/-- what a line is, taken apart -/
inductive Par : Str → Option (Str × List Str × List Int) → Prop
  | noWords {l : Str} (h : ∀ S, m_words_of [.str l] S = .ok .non S) : Par l none
  | noNums {l w0 : Str} {ws : List Str} (h : ∀ S, m_words_of [.str l] S = .ok (strL (w0 :: ws)) S) (k : ∀ S, m_numbers_in [strL ws] S = .ok .non S) : Par l none
  | line {l w0 : Str} {ws : List Str} {ns : List Int} (h : ∀ S, m_words_of [.str l] S = .ok (strL (w0 :: ws)) S) (k : ∀ S, m_numbers_in [strL ws] S = .ok (tupI ns) S) : Par l (some (w0, ws, ns))
theorem cut1 {α : Type} {x : α} {l : List α} : cutD (x :: l) (some 1) none = l := by
  unfold cutD HT.sIx
  simp
theorem sl1 {ρ : En} {S : Store} {i : Nat} {w0 : Str} {ws : List Str} (h : ρ[i]? = some (some (strL (w0 :: ws)))) : sliceM slLD (varM i) (partM (cM (.int 1))) (noPartM) ρ S = .ok (strL ws) S := by
  unfold sliceM
  rw [ev_var h]
  have e : slLD (strL (w0 :: ws)) (some 1) none S = some (strL ws) := by
    show some (Da.lst (cutD (Da.str w0 :: ws.map Da.str) (some 1) none)) = _
    rw [cut1]; rfl
  simp [Res.bind, partM, cM, noPartM, e, ofO]
theorem isnd_lst {l : List Da} {S : Store} : notND (.lst l) .non S = some (.bl true) := rfl
theorem say_lost0 {c : Nat} {l : Str} {S : Store} (p : Par l none) : m_Console_say [.cell c, .str l] S = .ok (.str "not understood") S := by
  have main : b_Console_say [some (.cell c), some (.str l), none, none] S = .rt (.str "not understood") S := by
    unfold b_Console_say
    refine ev_seq_if_f (S1 := S) (ev_notT (p := true) (ev_tst (ev_fun (ev_cons (ev_var rfl) ev_nil) rfl (d := .bl true) (S2 := S) rfl))) (ev_seq_skip ?_)
    cases p with
    | noWords h =>
      refine ev_seq_set (ev_fun (ev_cons (ev_var rfl) ev_nil) rfl (h S)) rfl ?_
      refine ev_seq_set (d := .non) (S1 := S) (ev_if_f (S1 := S) (ev_tst (ev_op (ev_var rfl) ev_c rfl)) ev_c) rfl ?_
      refine ev_seq_if_t (S1 := S) (ev_tst (ev_op (ev_var rfl) ev_c rfl)) ?_
      exact ev_seq_rt (ev_ret ev_c)
    | noNums h k =>
      refine ev_seq_set (ev_fun (ev_cons (ev_var rfl) ev_nil) rfl (h S)) rfl ?_
      refine ev_seq_set (d := .non) (S1 := S) (ev_if_t (S1 := S) (ev_tst (ev_op (ev_var rfl) ev_c rfl)) (ev_fun (ev_cons (sl1 rfl) ev_nil) rfl (k S))) rfl ?_
      refine ev_seq_if_t (S1 := S) (ev_tst (ev_op (ev_var rfl) ev_c rfl)) ?_
      exact ev_seq_rt (ev_ret ev_c)
  exact congrArg RS.res main
theorem ix0s {w0 : Str} {ws : List Str} {S : Store} : ixD (strL (w0 :: ws)) (.int 0) S = some (.str w0) := ix0
/-- past the taking apart -/
theorem say_line {c : Nat} {l w0 : Str} {ws : List Str} {ns : List Int} {S : Store} {R : Res Da} (p : Par l (some (w0, ws, ns)))
    (k : RS.res (seqS (ifS (tstM (inDctM kv_SIZES (opM ixD (varM 2) (cM (.int 0))))) (retS (callF 2 m_said_of_deed (consM (fldM "Console" "yard" (varM 0)) (consM (tupM (consM (opM ixD (varM 2) (cM (.int 0))) (starM (varM 3) (nilM)))) (nilM))))) (skipS)) (seqS (ifS (tstM (opM eqD (opM ixD (varM 2) (cM (.int 0))) (cM (.str "closing")))) (retS (callF 2 m_said_of_closing (consM (fldM "Console" "yard" (varM 0)) (consM (varM 3) (nilM))))) (skipS)) (seqS (ifS (andT (tstM (opM eqD (opM ixD (varM 2) (cM (.int 0))) (cM (.str "reach")))) (tstM (opM eqD (callM lenD (consM (varM 3) (nilM))) (cM (.int 1))))) (retS (callF 2 m_said_of_reach (consM (fldM "Console" "yard" (varM 0)) (consM (opM ixD (varM 3) (cM (.int 0))) (nilM))))) (skipS)) (retS (ifM (tstM (opM eqD (callM lenD (consM (varM 2) (nilM))) (cM (.int 1)))) (callF 2 m_said_of_word (consM (fldM "Console" "yard" (varM 0)) (consM (opM ixD (varM 2) (cM (.int 0))) (nilM)))) (cM (.str "not understood")))))) [some (.cell c), some (.str l), some (strL (w0 :: ws)), some (tupI ns)] S) = R) :
    m_Console_say [.cell c, .str l] S = R := by
  cases p with
  | line h q =>
    rw [← k]
    refine congrArg RS.res (a₁ := b_Console_say [some (.cell c), some (.str l), none, none] S) ?_
    unfold b_Console_say
    refine ev_seq_if_f (S1 := S) (ev_notT (p := true) (ev_tst (ev_fun (ev_cons (ev_var rfl) ev_nil) rfl (d := .bl true) (S2 := S) rfl))) (ev_seq_skip ?_)
    refine ev_seq_set (ev_fun (ev_cons (ev_var rfl) ev_nil) rfl (h S)) rfl ?_
    refine ev_seq_set (S1 := S) (ev_if_t (S1 := S) (ev_tst (ev_op (ev_var rfl) ev_c rfl)) (ev_fun (ev_cons (sl1 rfl) ev_nil) rfl (q S))) rfl ?_
    refine ev_seq_if_f (S1 := S) (ev_tst (ev_op (ev_var rfl) ev_c rfl)) (ev_seq_skip ?_)
    rfl
theorem ev_inDct {kvs : List (Str × Int)} {f : M Da} {ρ : En} {S S1 : Store} {z : Str} (h : f ρ S = .ok (.str z) S1) : inDctM kvs f ρ S = .ok (.bl (kvs.lookup z).isSome) S1 := by unfold inDctM; rw [h]; rfl
theorem ev_starI {f : M Da} {ρ : En} {S S1 : Store} {l : List Da} (h : f ρ S = .ok (.tup l) S1) : starM f nilM ρ S = .ok l S1 := by
  unfold starM
  rw [h]
  simp [Res.bind, seqOf, nilM]
section
variable {c y : Nat} {l w0 : Str} {ws : List Str} {ns : List Int} {S S2 : Store} {d : Da}
theorem tup_len (w0 : Str) (ns : List Int) (h : ns.length ≤ 1000) : Nat.ble (Da.str w0 :: ns.map Da.int).length 16777216 = true := by
  rw [Nat.ble_eq]; simp; omega
theorem say_deed (p : Par l (some (w0, ws, ns))) (hl : ns.length ≤ 1000) (hc : S[c]? = some (conC y)) (hw : (kv_SIZES.lookup w0).isSome = true) (h : m_said_of_deed [.cell y, .tup (.str w0 :: ns.map Da.int)] S = .ok d S2) : m_Console_say [.cell c, .str l] S = .ok d S2 := by
  refine say_line p ?_
  refine congrArg RS.res (a₂ := .rt d S2) ?_
  refine ev_seq_if_t (S1 := S) (by rw [← hw]; exact ev_tst (ev_inDct (ev_op (ev_var rfl) ev_c ix0s))) ?_
  exact ev_seq_rt (ev_ret (ev_fun (ev_cons (ev_fldO (ev_var rfl) hc lk_yard) (ev_cons (ev_tup (ev_cons (ev_op (ev_var rfl) ev_c ix0s) (ev_starI (ev_var rfl))) (tup_len _ _ hl)) ev_nil)) rfl h))
theorem say_closing (p : Par l (some (w0, ws, ns))) (hc : S[c]? = some (conC y)) (hw : (kv_SIZES.lookup w0).isSome = false) (e : w0 = "closing") (h : m_said_of_closing [.cell y, tupI ns] S = .ok d S2) : m_Console_say [.cell c, .str l] S = .ok d S2 := by
  refine say_line p ?_
  refine congrArg RS.res (a₂ := .rt d S2) ?_
  refine ev_seq_if_f (S1 := S) (by rw [← hw]; exact ev_tst (ev_inDct (ev_op (ev_var rfl) ev_c ix0s))) (ev_seq_skip ?_)
  refine ev_seq_if_t (S1 := S) (ev_tst (ev_op (ev_op (ev_var rfl) ev_c ix0s) ev_c (by rw [eqD_str, decide_eq_true e]))) ?_
  exact ev_seq_rt (ev_ret (ev_fun (ev_cons (ev_fldO (ev_var rfl) hc lk_yard) (ev_cons (ev_var rfl) ev_nil)) rfl h))
theorem len_tupI {S : Store} : lenD [tupI ns] S = some (.int ns.length) := by unfold tupI lenD; simp
theorem len_strL {l : List Str} {S : Store} : lenD [strL l] S = some (.int l.length) := by
  unfold strL
  show (asL S (.lst (l.map Da.str))).map (fun l => Da.int l.length) = _
  unfold asL
  simp
theorem eqD_nat {a b : Nat} {S : Store} : eqD (.int a) (.int b) S = some (.bl (decide (a = b))) := by
  rw [eqD_int]
  congr 2
  by_cases h : a = b
  · rw [decide_eq_true h, decide_eq_true (by omega)]
  · rw [decide_eq_false h, decide_eq_false (by omega)]
/-- neither a deed nor a closing -/
theorem say_else {R : Res Da} (p : Par l (some (w0, ws, ns))) (hw : (kv_SIZES.lookup w0).isSome = false) (e : w0 ≠ "closing")
    (k : RS.res (seqS (ifS (andT (tstM (opM eqD (opM ixD (varM 2) (cM (.int 0))) (cM (.str "reach")))) (tstM (opM eqD (callM lenD (consM (varM 3) (nilM))) (cM (.int 1))))) (retS (callF 2 m_said_of_reach (consM (fldM "Console" "yard" (varM 0)) (consM (opM ixD (varM 3) (cM (.int 0))) (nilM))))) (skipS)) (retS (ifM (tstM (opM eqD (callM lenD (consM (varM 2) (nilM))) (cM (.int 1)))) (callF 2 m_said_of_word (consM (fldM "Console" "yard" (varM 0)) (consM (opM ixD (varM 2) (cM (.int 0))) (nilM)))) (cM (.str "not understood")))) [some (.cell c), some (.str l), some (strL (w0 :: ws)), some (tupI ns)] S) = R) :
    m_Console_say [.cell c, .str l] S = R := by
  refine say_line p ?_
  rw [← k]
  refine congrArg RS.res ?_
  refine ev_seq_if_f (S1 := S) (by rw [← hw]; exact ev_tst (ev_inDct (ev_op (ev_var rfl) ev_c ix0s))) (ev_seq_skip ?_)
  exact ev_seq_if_f (S1 := S) (ev_tst (ev_op (ev_op (ev_var rfl) ev_c ix0s) ev_c (by rw [eqD_str, decide_eq_false e]))) (ev_seq_skip rfl)
theorem say_reach {x : Int} (p : Par l (some ("reach", ws, [x]))) (hc : S[c]? = some (conC y)) (h : m_said_of_reach [.cell y, .int x] S = .ok d S2) : m_Console_say [.cell c, .str l] S = .ok d S2 := by
  refine say_else p (by decide +kernel) (by decide +kernel) ?_
  refine congrArg RS.res (a₂ := .rt d S2) ?_
  refine ev_seq_if_t (S1 := S) (ev_andT_t (ev_tst (ev_op (ev_op (ev_var rfl) ev_c ix0s) ev_c rfl)) (ev_tst (ev_op (ev_call (ev_cons (ev_var rfl) ev_nil) len_tupI) ev_c rfl))) ?_
  exact ev_seq_rt (ev_ret (ev_fun (ev_cons (ev_fldO (ev_var rfl) hc lk_yard) (ev_cons (ev_op (ev_var rfl) ev_c rfl) ev_nil)) rfl h))
theorem no_reach {ρ : En} (h2 : ρ[2]? = some (some (strL (w0 :: ws)))) (h3 : ρ[3]? = some (some (tupI ns))) (h : ¬ (w0 = "reach" ∧ ns.length = 1)) : andT (tstM (opM eqD (opM ixD (varM 2) (cM (.int 0))) (cM (.str "reach")))) (tstM (opM eqD (callM lenD (consM (varM 3) (nilM))) (cM (.int 1)))) ρ S = .ok false S := by
  have e1 := ev_tst (ev_op (ρ := ρ) (S := S) (op := eqD) (ev_op (ev_var h2) (ev_c (d := .int 0)) ix0s) (ev_c (d := .str "reach")) (eqD_str _ _ _))
  have e2 := ev_tst (ev_op (ρ := ρ) (S := S) (op := eqD) (ev_call (ev_cons (ev_var h3) ev_nil) len_tupI) (ev_c (d := .int (1 : Nat))) eqD_nat)
  by_cases a : w0 = "reach"
  · have b : ¬ ns.length = 1 := fun z => h ⟨a, z⟩
    rw [decide_eq_true a] at e1
    rw [decide_eq_false b] at e2
    exact ev_andT_t e1 e2
  · rw [decide_eq_false a] at e1
    unfold andT
    rw [e1]
    rfl
theorem say_word (p : Par l (some (w0, [], ns))) (hc : S[c]? = some (conC y)) (hw : (kv_SIZES.lookup w0).isSome = false) (e : w0 ≠ "closing") (hr : ¬ (w0 = "reach" ∧ ns.length = 1)) (h : m_said_of_word [.cell y, .str w0] S = .ok d S2) : m_Console_say [.cell c, .str l] S = .ok d S2 := by
  refine say_else p hw e ?_
  refine congrArg RS.res (a₂ := .rt d S2) ?_
  refine ev_seq_if_f (S1 := S) (no_reach rfl rfl hr) (ev_seq_skip ?_)
  exact ev_ret (ev_if_t (S1 := S) (ev_tst (ev_op (ev_call (ev_cons (ev_var rfl) ev_nil) len_strL) ev_c rfl)) (ev_fun (ev_cons (ev_fldO (ev_var rfl) hc lk_yard) (ev_cons (ev_op (ev_var rfl) ev_c ix0s) ev_nil)) rfl h))
theorem say_lost1 (p : Par l (some (w0, ws, ns))) (hw : (kv_SIZES.lookup w0).isSome = false) (e : w0 ≠ "closing") (hr : ¬ (w0 = "reach" ∧ ns.length = 1)) (hws : ws ≠ []) : m_Console_say [.cell c, .str l] S = .ok (.str "not understood") S := by
  refine say_else p hw e ?_
  refine congrArg RS.res (a₂ := .rt (.str "not understood") S) ?_
  refine ev_seq_if_f (S1 := S) (no_reach rfl rfl hr) (ev_seq_skip ?_)
  have hl : ¬ (w0 :: ws).length = 1 := by
    intro z
    apply hws
    simpa using z
  have e2 := ev_tst (ev_op (op := eqD) (ρ := [some (.cell c), some (.str l), some (strL (w0 :: ws)), some (tupI ns)]) (S := S) (ev_call (ev_cons (ev_var (i := 2) rfl) ev_nil) len_strL) (ev_c (d := .int (1 : Nat))) eqD_nat)
  rw [decide_eq_false hl] at e2
  exact ev_ret (ev_if_f e2 ev_c)
end
/-! ### what a console's questions and deeds give -/
theorem between_ok {x lo hi : Int} {S : Store} : m_is_between [.int x, .int lo, .int hi] S = .ok (.bl (decide (lo ≤ x) && decide (x ≤ hi))) S := by
  have w1 : m_is_whole [.int x] S = .ok (.bl true) S := rfl
  refine congrArg RS.res (a₁ := b_is_between [some (.int x), some (.int lo), some (.int hi)] S) (a₂ := .rt _ S) ?_
  unfold b_is_between
  refine ev_ret' (ev_andM (ev_tst (ev_fun (ev_cons (ev_var rfl) ev_nil) rfl w1)) (fun _ => ?_) (q := decide (lo ≤ x) && decide (x ≤ hi))) (by rw [Bool.true_and])
  unfold chainM
  rw [ev_var (i := 1) rfl]
  simp only [Res.bind]
  rw [ev_var (i := 0) rfl]
  have l1 : leD (Da.int lo) (Da.int x) S = some (.bl (decide (lo ≤ x))) := rfl
  have l2 : leD (Da.int x) (Da.int hi) S = some (.bl (decide (x ≤ hi))) := rfl
  have v2 : varM 2 [some (Da.int x), some (Da.int lo), some (Da.int hi)] S = .ok (.int hi) S := rfl
  simp only [ofO, l1]
  by_cases h : lo ≤ x
  · rw [decide_eq_true h, Bool.true_and]
    simp only [v2, l2]
  · rw [decide_eq_false h, Bool.false_and]
theorem place_ok {n : Nat} {sp : List (List Int)} {x : Int} {S : Store} (hl : sp.length = n) : m_is_place_of [spD sp, .int x] S = .ok (.bl (decide (0 ≤ x) && decide (x ≤ (n : Int) - 1))) S := by
  refine congrArg RS.res (a₁ := b_is_place_of [some (spD sp), some (.int x)] S) (a₂ := .rt _ S) ?_
  unfold b_is_place_of
  have hlen : lenD [spD sp] S = some (.int n) := by unfold spD lenD; simp [hl]
  exact ev_ret (ev_fun (ev_cons (ev_var rfl) (ev_cons ev_c (ev_cons (ev_op (ev_call (ev_cons (ev_var rfl) ev_nil) hlen) ev_c rfl) ev_nil))) rfl between_ok)
theorem form_ok {w : Str} {ns : List Int} {S : Store} (hw : isWord w) : m_has_form [.tup (.str w :: ns.map Da.int)] S = .ok (.bl (decide (ns.length = 2))) S := by
  have hlen : lenD [.tup (.str w :: ns.map Da.int)] S = some (.int ((ns.length + 1 : Nat))) := by unfold lenD; simp
  have i0 : ixD (.tup (.str w :: ns.map Da.int)) (.int 0) S = some (.str w) := by
    show L2.atI (Da.str w :: ns.map Da.int) 0 = some _
    rw [atI_ok (by decide) (by simp)]; rfl
  have h3 : kv_SIZES.lookup w = some 3 := by rcases hw with rfl | rfl <;> decide +kernel
  refine congrArg RS.res (a₁ := b_has_form [some (.tup (.str w :: ns.map Da.int))] S) (a₂ := .rt _ S) ?_
  unfold b_has_form
  have c1 : tstM (opM eqD (callM lenD (consM (varM 0) (nilM))) (cM (.int 0))) [some (.tup (.str w :: ns.map Da.int))] S = .ok false S := by
    have := ev_tst (ev_op (op := eqD) (ρ := [some (.tup (.str w :: ns.map Da.int))]) (S := S) (ev_call (ev_cons (ev_var (i := 0) rfl) ev_nil) hlen) (ev_c (d := .int (0 : Nat))) eqD_nat)
    rw [decide_eq_false (by omega)] at this
    exact this
  refine ev_seq_if_f (S1 := S) (ev_orT_f (ev_notT (p := true) (ev_tst rfl)) (ev_orT_f c1 (ev_notT (p := true) (ev_tst (ev_fun (ev_cons (ev_op (ev_var rfl) ev_c i0) ev_nil) rfl (d := .bl true) (S2 := S) rfl))))) (ev_seq_skip ?_)
  have e2 : opM eqD (callM lenD (consM (varM 0) (nilM))) (ixDctM kv_SIZES (opM ixD (varM 0) (cM (.int 0)))) [some (.tup (.str w :: ns.map Da.int))] S = .ok (.bl (decide (ns.length = 2))) S := by
    have ex : ixDctM kv_SIZES (opM ixD (varM 0) (cM (.int 0))) [some (.tup (.str w :: ns.map Da.int))] S = .ok (.int (3 : Nat)) S := by
      unfold ixDctM
      rw [ev_op (ev_var (i := 0) rfl) ev_c i0]
      simp only [Res.bind, h3]
      rfl
    have := ev_op (op := eqD) (ev_call (ev_cons (ev_var (i := 0) (ρ := [some (.tup (.str w :: ns.map Da.int))]) (S := S) rfl) ev_nil) hlen) ex eqD_nat
    rw [this]
    congr 2
    by_cases h : ns.length = 2
    · rw [decide_eq_true h, decide_eq_true (by omega)]
    · rw [decide_eq_false h, decide_eq_false (by omega)]
  have e1 : tstM (inDctM kv_SIZES (opM ixD (varM 0) (cM (.int 0)))) [some (.tup (.str w :: ns.map Da.int))] S = .ok true S := by
    have := ev_tst (ev_inDct (kvs := kv_SIZES) (ev_op (ev_var (i := 0) (ρ := [some (.tup (.str w :: ns.map Da.int))]) (S := S) rfl) ev_c i0))
    rw [h3] at this
    exact this
  exact ev_ret' (ev_andM e1 fun _ => e2) (by rw [Bool.true_and])
/-- what is no deed in a space of n places -/
def noDeed (n : Nat) (ns : List Int) : Bool := match ns with
  | [x, y] => !(decide (0 ≤ x) && decide (x ≤ (n : Int) - 1)) || (!(decide (0 ≤ y) && decide (y ≤ (n : Int) - 1)) || decide (y = x))
  | _ => true
theorem raise_ok {c : Str} {fe : M Da} {ρ : En} {S S1 : Store} {d : Da} (h : fe ρ S = .ok d S1) : raiseS c fe ρ S = .exc c d ρ S1 := by unfold raiseS; rw [h]; rfl
theorem check_bad {n : Nat} {sp : List (List Int)} {w : Str} {ns : List Int} {S : Store} (hl : sp.length = n) (hw : isWord w) (hb : noDeed n ns = true) : ∃ i : Int, m_check_deed [spD sp, .tup (.str w :: ns.map Da.int)] S = .exc "InvalidDeed" (.int i) S := by
  have hf := form_ok (ns := ns) (S := S) hw
  have go : ∀ i : Int, b_check_deed [some (spD sp), some (.tup (.str w :: ns.map Da.int))] S = .exc "InvalidDeed" (.int i) [some (spD sp), some (.tup (.str w :: ns.map Da.int))] S → m_check_deed [spD sp, .tup (.str w :: ns.map Da.int)] S = .exc "InvalidDeed" (.int i) S := fun i h => congrArg RS.res h
  unfold b_check_deed at go
  by_cases h2 : ns.length = 2
  · rw [decide_eq_true h2] at hf
    obtain ⟨x, y, rfl⟩ : ∃ x y, ns = [x, y] := by
      match ns, h2 with
      | [x, y], _ => exact ⟨x, y, rfl⟩
    have i1 : ixD (.tup (.str w :: [x, y].map Da.int)) (.int 1) S = some (.int x) := rfl
    have i2 : ixD (.tup (.str w :: [x, y].map Da.int)) (.int 2) S = some (.int y) := rfl
    have px := place_ok (x := x) (S := S) hl
    have py := place_ok (x := y) (S := S) hl
    unfold noDeed at hb
    dsimp only at hb
    generalize (decide (0 ≤ x) && decide (x ≤ (n : Int) - 1)) = p at px hb
    generalize (decide (0 ≤ y) && decide (y ≤ (n : Int) - 1)) = q at py hb
    have c0 : notT (tstM (callF 1 m_has_form (consM (varM 1) (nilM)))) [some (spD sp), some (.tup (.str w :: [x, y].map Da.int))] S = .ok (!true) S := ev_notT (ev_tst (ev_fun (ev_cons (ev_var rfl) ev_nil) rfl hf))
    have cx : notT (tstM (callF 2 m_is_place_of (consM (varM 0) (consM (opM ixD (varM 1) (cM (.int 1))) (nilM))))) [some (spD sp), some (.tup (.str w :: [x, y].map Da.int))] S = .ok (!p) S := ev_notT (ev_tst (ev_fun (ev_cons (ev_var rfl) (ev_cons (ev_op (ev_var rfl) ev_c i1) ev_nil)) rfl px))
    have cy : notT (tstM (callF 2 m_is_place_of (consM (varM 0) (consM (opM ixD (varM 1) (cM (.int 2))) (nilM))))) [some (spD sp), some (.tup (.str w :: [x, y].map Da.int))] S = .ok (!q) S := ev_notT (ev_tst (ev_fun (ev_cons (ev_var rfl) (ev_cons (ev_op (ev_var rfl) ev_c i2) ev_nil)) rfl py))
    have ce : tstM (opM eqD (opM ixD (varM 1) (cM (.int 2))) (opM ixD (varM 1) (cM (.int 1)))) [some (spD sp), some (.tup (.str w :: [x, y].map Da.int))] S = .ok (decide (y = x)) S := ev_tst (ev_op (ev_op (ev_var rfl) ev_c i2) (ev_op (ev_var rfl) ev_c i1) (eqD_int _ _ _))
    cases p with
    | false =>
      refine ⟨1, go 1 (ev_seq_if_f c0 (ev_seq_skip (ev_seq_if_t cx ?_)))⟩
      exact seqS_exc (raise_ok ev_c)
    | true =>
      refine ⟨2, go 2 (ev_seq_if_f c0 (ev_seq_skip (ev_seq_if_f cx (ev_seq_skip ?_))))⟩
      have ct : orT (notT (tstM (callF 2 m_is_place_of (consM (varM 0) (consM (opM ixD (varM 1) (cM (.int 2))) (nilM)))))) (tstM (opM eqD (opM ixD (varM 1) (cM (.int 2))) (opM ixD (varM 1) (cM (.int 1))))) [some (spD sp), some (.tup (.str w :: [x, y].map Da.int))] S = .ok true S := by
        have := ev_orT cy (fun _ => ce)
        rw [this]
        congr 1
      exact ev_ifs_t ct (raise_ok ev_c)
  · rw [decide_eq_false h2] at hf
    refine ⟨0, go 0 (ev_seq_if_t (S1 := S) (ev_notT (p := false) (ev_tst (ev_fun (ev_cons (ev_var rfl) ev_nil) rfl hf))) ?_)⟩
    exact seqS_exc (raise_ok ev_c)
section
variable {n : Nat} {sp : List (List Int)} {dl pl : List Da} {p y : Nat} {w : Str} {a b : Int} {S : Store} {ns : List Int}
theorem drop_exc {f : M Da} {ρ : En} {S S1 : Store} {c : Str} {d : Da} (h : f ρ S = .exc c d S1) : dropS f ρ S = .exc c d ρ S1 := by unfold dropS; rw [h]; rfl
theorem fun_exc {n : Nat} {mf : Mf} {t : M (List Da)} {ρ : En} {S S1 S2 : Store} {l : List Da} {c : Str} {d : Da} (h : t ρ S = .ok l S1) (hn : l.length = n) (ho : mf l S1 = .exc c d S2) : callF n mf t ρ S = .exc c d S2 := by unfold callF; rw [h]; simp only [Res.bind, hn, if_true]; exact ho
theorem meth_exc {n : Int} {sp : List (List Int)} {dl ds : List Da} {d : Da} {p j i k : Nat} {m c : Str} {mf : Mf} {t : M (List Da)} {ρ : En} {S S2 : Store} (hρ : ρ[i]? = some (some (.cell j))) (h : S[j]? = some (yardC n sp dl p)) (hl : (yf n sp dl p).lookup m = none) (ht : t ρ S = .ok ds S) (hn : ds.length + 1 = k)
    (ho : mf (.cell j :: ds) S = .exc c d S2) : methF "Yard" m k mf (varM i) t ρ S = .exc c d S2 := by
  have hobj : objAt S "Yard" (.cell j) = some (j, yf n sp dl p) := by
    unfold objAt
    dsimp only
    rw [h]
    exact if_pos rfl
  unfold methF
  rw [var_ok (i := i) hρ]
  simp only [Res.bind, hobj, hl]
  rw [ht]
  dsimp only
  rw [if_pos (by rw [List.length_cons]; exact hn), ho]
theorem do_bad (hj : S[y]? = some (yardC n sp dl p)) (hl : sp.length = n) (hw : isWord w) (hb : noDeed n ns = true) : ∃ i : Int, m_Yard_do [.cell y, .tup (.str w :: ns.map Da.int)] S = .exc "InvalidDeed" (.int i) S := by
  obtain ⟨i, hc⟩ := check_bad (S := S) hl hw hb
  refine ⟨i, congrArg RS.res (a₁ := b_Yard_do [some (.cell y), some (.tup (.str w :: ns.map Da.int)), none] S) (a₂ := .exc "InvalidDeed" (.int i) [some (.cell y), some (.tup (.str w :: ns.map Da.int)), none] S) ?_⟩
  unfold b_Yard_do
  exact seqS_exc (drop_exc (fun_exc (ev_cons (ev_fld rfl hj lk_space) (ev_cons (ev_var rfl) ev_nil)) rfl hc))
theorem said_lost (hj : S[y]? = some (yardC n sp dl p)) (hl : sp.length = n) (hw : isWord w) (hb : noDeed n ns = true) : m_said_of_deed [.cell y, .tup (.str w :: ns.map Da.int)] S = .ok (.str "not understood") S := by
  obtain ⟨i, hd⟩ := do_bad (S := S) (y := y) (dl := dl) (p := p) hj hl hw hb
  refine congrArg RS.res (a₁ := b_said_of_deed [some (.cell y), some (.tup (.str w :: ns.map Da.int)), none] S) (a₂ := .rt _ S) ?_
  unfold b_said_of_deed
  refine ev_seq_rt ?_
  have e : dropS (methF "Yard" "do" 2 m_Yard_do (varM 0) (consM (varM 1) (nilM))) [some (.cell y), some (.tup (.str w :: ns.map Da.int)), none] S = _ := drop_exc (meth_exc (i := 0) (ρ := [some (.cell y), some (.tup (.str w :: ns.map Da.int)), none]) rfl hj lk_do (ev_cons (ev_var (i := 1) rfl) ev_nil) rfl hd)
  unfold trysS
  rw [e]
  kernel_rfl
theorem said_done (g : Good n sp) (h7 : n ≤ 7) (hj : S[y]? = some (yardC n sp dl p)) (hp : S[p]? = some (.lst pl)) (hpl : pl.length ≤ 1000) (hdl : dl.length ≤ 1000) (hw : isWord w) (a0 : 0 ≤ a) (an : a < n) (b0 : 0 ≤ b) (bn : b < n) (hab : a ≠ b) (hr : reason sp n w a b = none) :
    m_said_of_deed [.cell y, .tup (.str w :: [a, b].map Da.int)] S = .ok (.str "done") ((S.set p (.lst (pl ++ [spD sp]))).set y (yardC n (behind sp w a b) (dl ++ [deedD w a b]) p)) := by
  have hd := do_ok g h7 hj hp (by unfold big; omega) (by unfold big; omega) hw a0 an b0 bn hab hr
  generalize (S.set p (.lst (pl ++ [spD sp]))).set y (yardC n (behind sp w a b) (dl ++ [deedD w a b]) p) = S2 at hd
  refine congrArg RS.res (a₁ := b_said_of_deed [some (.cell y), some (deedD w a b), none] S) (a₂ := .rt _ S2) ?_
  unfold b_said_of_deed
  have e : dropS (methF "Yard" "do" 2 m_Yard_do (varM 0) (consM (varM 1) (nilM))) [some (.cell y), some (deedD w a b), none] S = _ := ev_drop (ev_meth (i := 0) (ρ := [some (.cell y), some (deedD w a b), none]) rfl hj lk_do (ev_cons (ev_var (i := 1) rfl) ev_nil) rfl hd)
  refine ev_seq_nx (S1 := S2) (ρ1 := [some (.cell y), some (deedD w a b), none]) ?_ (ev_ret ev_c)
  unfold trysS
  rw [e]
theorem said_barred {x : Str} (g : Good n sp) (h7 : n ≤ 7) (hj : S[y]? = some (yardC n sp dl p)) (hw : isWord w) (a0 : 0 ≤ a) (an : a < n) (b0 : 0 ≤ b) (bn : b < n) (hab : a ≠ b) (hr : reason sp n w a b = some x) :
    m_said_of_deed [.cell y, .tup (.str w :: [a, b].map Da.int)] S = .ok (.str x) S := by
  have hd := do_barred g h7 hj hw a0 an b0 bn hab hr
  refine congrArg RS.res (a₁ := b_said_of_deed [some (.cell y), some (deedD w a b), none] S) (a₂ := .rt _ S) ?_
  unfold b_said_of_deed
  refine ev_seq_rt ?_
  have e : dropS (methF "Yard" "do" 2 m_Yard_do (varM 0) (consM (varM 1) (nilM))) [some (.cell y), some (deedD w a b), none] S = _ := drop_exc (meth_exc (i := 0) (ρ := [some (.cell y), some (deedD w a b), none]) rfl hj lk_do (ev_cons (ev_var (i := 1) rfl) ev_nil) rfl hd)
  unfold trysS
  rw [e]
  kernel_rfl
theorem undo_none' (hj : S[y]? = some (yardC n sp dl p)) (hp : S[p]? = some (.lst [])) : m_Yard_undo [.cell y] S = .exc "NothingToUndo" .non S := by
  unfold m_Yard_undo
  show RS.res (b_Yard_undo [some (.cell y)] S) = _
  unfold b_Yard_undo
  have fp := yard_fld (i := 0) (ρ := [some (.cell y)]) hj rfl lk_past
  have e : eqD (.cell p) (.lst []) S = some (.bl true) := by
    have h0 : eqvD S (.cell p) (.lst []) = eqvP S (.cell p) (.lst []) := rfl
    have e1 : pyD S (.cell p) = some (.list []) := by unfold pyD; dsimp only; rw [hp]; rfl
    have e3 : pyD S (.lst []) = some (.list []) := rfl
    unfold eqD
    rw [h0]
    unfold eqvP
    rw [e1, e3]
    dsimp only
    rw [if_pos ⟨by decide +kernel, by decide +kernel⟩, PyData.eqv, PyData.eqvAll]
    rfl
  have c1 := ev_ifs_t (s := raise0S "NothingToUndo") (s2 := skipS) (R := _) (ev_tst (ev_op fp (ev_frz (ev_list ev_nil rfl)) e)) rfl
  unfold seqS
  rw [c1]
  rfl
theorem said_nothing (hj : S[y]? = some (yardC n sp dl p)) (hp : S[p]? = some (.lst [])) : m_said_of_undo [.cell y] S = .ok (.str "nothing") S := by
  have hd := undo_none' hj hp
  refine congrArg RS.res (a₁ := b_said_of_undo [some (.cell y)] S) (a₂ := .rt _ S) ?_
  unfold b_said_of_undo
  refine ev_seq_rt ?_
  have e : dropS (methF "Yard" "undo" 1 m_Yard_undo (varM 0) nilM) [some (.cell y)] S = _ := drop_exc (meth_exc (i := 0) (ρ := [some (.cell y)]) rfl hj lk_undo ev_nil rfl hd)
  unfold trysS
  rw [e]
  kernel_rfl
theorem said_undone {sp0 : List (List Int)} {dd : Da} (hj : S[y]? = some (yardC n sp (dl ++ [dd]) p)) (hp : S[p]? = some (.lst (pl ++ [spD sp0]))) (hs : ∀ e ∈ pl ++ [spD sp0], SmD e 546 2) : m_said_of_undo [.cell y] S = .ok (.str "done") ((S.set p (.lst pl)).set y (yardC n sp0 dl p)) := by
  have hd := undo_ok hj hp hs
  generalize (S.set p (.lst pl)).set y (yardC n sp0 dl p) = S2 at hd
  refine congrArg RS.res (a₁ := b_said_of_undo [some (.cell y)] S) (a₂ := .rt _ S2) ?_
  unfold b_said_of_undo
  have e : dropS (methF "Yard" "undo" 1 m_Yard_undo (varM 0) nilM) [some (.cell y)] S = _ := ev_drop (ev_meth (i := 0) (ρ := [some (.cell y)]) rfl hj lk_undo ev_nil rfl hd)
  refine ev_seq_nx (S1 := S2) (ρ1 := [some (.cell y)]) ?_ (ev_ret ev_c)
  unfold trysS
  rw [e]
end
/-! ### lots, a console made, words alone -/
theorem all_map {α : Type} (f : α → Bool) : ∀ l : List α, truths (l.map fun x => Da.bl (f x)) = some (l.map f)
  | [] => rfl
  | x :: l => by rw [List.map_cons, truths, all_map f l]; rfl
theorem allD_map {α : Type} {f : α → Bool} {l : List α} {S : Store} : allD [.lst (l.map fun x => Da.bl (f x))] S = some (.bl (l.all f)) := by
  have e : allD [.lst (l.map fun x => Da.bl (f x))] S = (truths (l.map fun x => Da.bl (f x))).map fun bs => Da.bl (bs.all id) := rfl
  rw [e, all_map]
  simp [List.all_map]
def isLotB (n : Nat) (ns : List Int) : Bool := (ns.all fun x => decide (0 ≤ x) && decide (x ≤ (n : Int) - 1)) && (ns.zip (ns.drop 1)).all fun p => decide (p.1 < p.2)
theorem cut_drop {α : Type} {l : List α} : cutD l (some 1) none = l.drop 1 := by
  cases l with
  | nil => rfl
  | cons x l => rw [cut1]; rfl
theorem zip_int (l m : List Int) : zipL (l.map Da.int) (m.map Da.int) = (l.zip m).map fun p => Da.tup [.int p.1, .int p.2] := by
  unfold zipL
  rw [List.zipWith_map, List.zip_eq_zipWith, List.map_zipWith]
theorem is_lot_ok {n : Nat} {sp : List (List Int)} {ns : List Int} {S : Store} (hl : sp.length = n) (hs : ns.length ≤ 1000) : m_is_lot [spD sp, tupI ns] S = .ok (.bl (isLotB n ns)) S := by
  have hlen : lenD [spD sp] S = some (.int n) := by unfold spD lenD; simp [hl]
  have lot : m_is_lot_of [.int n, tupI ns] S = .ok (.bl (isLotB n ns)) S := by
    refine congrArg RS.res (a₁ := b_is_lot_of [some (.int n), some (tupI ns), none, none, none] S) (a₂ := .rt _ S) ?_
    unfold b_is_lot_of
    have l1 : lcM [2] (.one 2) (itT (varM 1)) (yesM) (callF 3 m_is_between (consM (varM 2) (consM (cM (.int 0)) (consM (opM subD (varM 0) (cM (.int 1))) (nilM))))) [some (.int n), some (tupI ns), none, none, none] S = .ok (ns.map fun x => Da.bl (decide (0 ≤ x) && decide (x ≤ (n : Int) - 1))) S :=
      ev_lc_yes (fx := Da.int) (kρ := fun x => [some (.int n), some (tupI ns), some (.int x), none, none]) (ev_itT (ev_var rfl)) (by unfold big; omega) (fun x => rfl) (fun x _ => ev_fun (ev_cons (ev_var rfl) (ev_cons ev_c (ev_cons (ev_op (ev_var rfl) ev_c rfl) ev_nil))) rfl between_ok)
    have c1 := ev_notT (ev_tst (ev_call (ev_cons (ev_frz l1) ev_nil) (allD_map (S := S))))
    have sl : slTD (tupI ns) (some 1) none S = some (tupI (ns.drop 1)) := by
      show some (Da.tup (cutD (ns.map Da.int) (some 1) none)) = _
      rw [cut_drop, ← List.map_drop]; rfl
    have sl2 : sliceM slTD (varM 1) (partM (cM (.int 1))) (noPartM) [some (.int n), some (tupI ns), none, none, none] S = .ok (tupI (ns.drop 1)) S := by
      unfold sliceM
      rw [ev_var (i := 1) rfl]
      simp [Res.bind, partM, cM, noPartM, sl, ofO]
    have hz : itZT (varM 1) (sliceM slTD (varM 1) (partM (cM (.int 1))) (noPartM)) [some (.int n), some (tupI ns), none, none, none] S = .ok ((ns.zip (ns.drop 1)).map fun p => Da.tup [.int p.1, .int p.2]) S := by
      unfold itZT
      rw [ev_var (i := 1) rfl]
      simp only [Res.bind]
      rw [sl2]
      show Res.ok (zipL (ns.map Da.int) ((ns.drop 1).map Da.int)) S = _
      rw [zip_int]
    have l2 : lcM [3, 4] (.many [3, 4]) (itZT (varM 1) (sliceM slTD (varM 1) (partM (cM (.int 1))) (noPartM))) (yesM) (opM ltD (varM 3) (varM 4)) [some (.int n), some (tupI ns), none, none, none] S = .ok ((ns.zip (ns.drop 1)).map fun p => Da.bl (decide (p.1 < p.2))) S :=
      ev_lc_yes (fx := fun p => Da.tup [.int p.1, .int p.2]) (kρ := fun p => [some (.int n), some (tupI ns), none, some (.int p.1), some (.int p.2)]) hz (by rw [List.length_zip]; unfold big; omega) (fun x => rfl) (fun x _ => ev_op (ev_var rfl) (ev_var rfl) rfl)
    unfold isLotB
    cases h : (ns.all fun x => decide (0 ≤ x) && decide (x ≤ (n : Int) - 1)) with
    | true =>
      rw [h] at c1
      refine ev_seq_if_f (S1 := S) (ev_orT_f (ev_notT (p := true) (ev_tst rfl)) c1) (ev_seq_skip ?_)
      exact ev_ret' (ev_call (ev_cons (ev_frz l2) ev_nil) allD_map) (by rw [Bool.true_and])
    | false =>
      rw [h] at c1
      refine ev_seq_if_t (S1 := S) (ev_orT_f (ev_notT (p := true) (ev_tst rfl)) c1) ?_
      exact ev_seq_rt (ev_ret' ev_c (by rw [Bool.false_and]))
  refine congrArg RS.res (a₁ := b_is_lot [some (spD sp), some (tupI ns)] S) (a₂ := .rt _ S) ?_
  unfold b_is_lot
  exact ev_ret (ev_fun (ev_cons (ev_call (ev_cons (ev_var rfl) ev_nil) hlen) (ev_cons (ev_var rfl) ev_nil)) rfl lot)
section
variable {n : Nat} {sp : List (List Int)} {dl pl : List Da} {p y j : Nat} {S S1 : Store} {ns : List Int}
theorem closing_lost (hj : S[y]? = some (yardC n sp dl p)) (hl : sp.length = n) (hs : ns.length ≤ 1000) (hb : isLotB n ns = false) : m_said_of_closing [.cell y, tupI ns] S = .ok (.str "not understood") S := by
  refine congrArg RS.res (a₁ := b_said_of_closing [some (.cell y), some (tupI ns)] S) (a₂ := .rt _ S) ?_
  unfold b_said_of_closing
  have e := is_lot_ok (S := S) hl hs
  rw [hb] at e
  exact ev_ret (ev_if_f (ev_tst (ev_fun (ev_cons (ev_fld rfl hj lk_space) (ev_cons (ev_var rfl) ev_nil)) rfl e)) ev_c)
theorem copy_ok (h1 : 1 ≤ n) (h7 : n ≤ 7) (hj : S[j]? = some (yardC n sp dl p)) (tr : Tr n sp dl pl) (hd : dl.length ≤ 1000) : m_copy_of [.cell j] S = .ok (.cell S.length) (S ++ [yardC n sp dl (S.length + 1), .lst pl]) := by
  have jl : j < S.length := (List.getElem?_eq_some_iff.mp hj).1
  refine congrArg RS.res (a₁ := b_copy_of [some (.cell j), none, none] S) (a₂ := .rt _ _) ?_
  unfold b_copy_of
  refine ev_seq_set (make_ok h1 h7 (ev_cons (ev_fld rfl hj lk_places) ev_nil)) rfl ?_
  have hj2 : (S ++ [yardC n (aloneR n) [] (S.length + 1), .lst []])[j]? = some (yardC n sp dl p) := by rw [List.getElem?_append_left jl]; exact hj
  obtain ⟨x, hr⟩ := replay (n := n) h7 (i := 2) (v := 1) (j := S.length) (p := S.length + 1) (S := S ++ [yardC n (aloneR n) [] (S.length + 1), .lst []]) (by decide) (at_app0 rfl) (at_app rfl) tr hd [some (.cell j), some (.cell S.length), none] (by show 2 < 3; decide) rfl
  rw [set_app, set_app0] at hr
  refine ev_seq_for (ev_itT (ev_fld rfl hj2 lk_deeds)) hr ?_
  exact ev_ret (ev_var rfl)
theorem con_make {ρ : En} {t : M (List Da)} (h1 : 1 ≤ n) (h7 : n ≤ 7) (ht : t ρ S = .ok [.cell j] S1) (hj : S1[j]? = some (yardC n sp dl p)) (tr : Tr n sp dl pl) (hd : dl.length ≤ 1000) :
    makeF "Console" 2 m_Console_init t ρ S = .ok (.cell S1.length) (S1 ++ [conC (S1.length + 1), yardC n sp dl (S1.length + 2), .lst pl]) := by
  have jl : j < S1.length := (List.getElem?_eq_some_iff.mp hj).1
  have hj2 : (S1 ++ [Cell.obj "Console" []])[j]? = some (yardC n sp dl p) := by rw [List.getElem?_append_left jl]; exact hj
  have hck : m_check_yard [.cell j] (S1 ++ [Cell.obj "Console" []]) = .ok .non (S1 ++ [Cell.obj "Console" []]) := by
    refine congrArg RS.res (a₁ := b_check_yard [some (.cell j)] (S1 ++ [Cell.obj "Console" []])) (a₂ := .nx [some (.cell j)] _) ?_
    unfold b_check_yard
    exact ev_ifs_f (ev_notT (p := true) (ev_tst (ev_isO (ev_var rfl) (kd_yard hj2)))) rfl
  have hcp := copy_ok h1 h7 hj2 tr hd
  have l1 : (S1 ++ [Cell.obj "Console" []]).length = S1.length + 1 := by simp
  rw [l1, List.append_assoc] at hcp
  have ini : m_Console_init [.cell S1.length, .cell j] (S1 ++ [Cell.obj "Console" []]) = .ok .non (S1 ++ [conC (S1.length + 1), yardC n sp dl (S1.length + 2), .lst pl]) := by
    refine congrArg RS.res (a₁ := b_Console_init [some (.cell S1.length), some (.cell j)] (S1 ++ [Cell.obj "Console" []])) (a₂ := .nx [some (.cell S1.length), some (.cell j)] _) ?_
    unfold b_Console_init
    refine ev_seq_drop (ev_fun (ev_cons (ev_var rfl) ev_nil) rfl hck) ?_
    have e := obj_set (i := 0) (f := "yard") (ρ := [some (.cell S1.length), some (.cell j)]) (j := S1.length) (c := "Console") (fs := []) (ev_fun (n := 1) (ev_cons (ev_var (i := 1) rfl) ev_nil) rfl hcp) (at_app0 rfl) rfl (by decide)
    refine e.trans ?_
    rw [set_app0]
    rfl
  unfold makeF
  rw [ht]
  simp only [Res.bind]
  rw [if_pos (by rfl), ini]
theorem word_lost {w0 : Str} (h : w0 ≠ "undo" ∧ w0 ≠ "opens" ∧ w0 ≠ "words" ∧ w0 ≠ "parts") : m_said_of_word [.cell y, .str w0] S = .ok (.str "not understood") S := by
  refine congrArg RS.res (a₁ := b_said_of_word [some (.cell y), some (.str w0)] S) (a₂ := .rt _ S) ?_
  unfold b_said_of_word
  refine ev_seq_if_f (S1 := S) (ev_tst (ev_op (ev_var rfl) ev_c (by rw [eqD_str, decide_eq_false h.1]))) (ev_seq_skip ?_)
  refine ev_seq_if_f (S1 := S) (ev_tst (ev_op (ev_var rfl) ev_c (by rw [eqD_str, decide_eq_false h.2.1]))) (ev_seq_skip ?_)
  refine ev_seq_if_f (S1 := S) (ev_tst (ev_op (ev_var rfl) ev_c (by rw [eqD_str, decide_eq_false h.2.2.1]))) (ev_seq_skip ?_)
  exact ev_ret (ev_if_f (S1 := S) (ev_tst (ev_op (ev_var rfl) ev_c (by rw [eqD_str, decide_eq_false h.2.2.2]))) ev_c)
theorem word_undo {d : Da} {S2 : Store} (h : m_said_of_undo [.cell y] S = .ok d S2) : m_said_of_word [.cell y, .str "undo"] S = .ok d S2 := by
  refine congrArg RS.res (a₁ := b_said_of_word [some (.cell y), some (.str "undo")] S) (a₂ := .rt _ S2) ?_
  unfold b_said_of_word
  refine ev_seq_if_t (S1 := S) (ev_tst (ev_op (ev_var rfl) ev_c (by rw [eqD_str]; rfl))) ?_
  exact ev_seq_rt (ev_ret (ev_fun (ev_cons (ev_var rfl) ev_nil) rfl h))
end
section
variable {n k : Nat} {sp : List (List Int)} {dl pl : List Da} {p y : Nat} {S : Store}
/-- how many parts a space has, by the program -/
def PartsN (sp : List (List Int)) (k : Nat) : Prop := ∀ S, ∃ l, m_parts_by [spD sp] S = .ok (.tup l) S ∧ l.length = k
theorem str_nat {k : Nat} {S : Store} (h : k ≤ 1000) : strD [.int k] S = some (.str (toString (k : Int))) := by
  unfold strD
  have h2 : ((k : Int)).natAbs.log2 < 1920 := by
    have e : ((k : Int)).natAbs = k := rfl
    rw [e]
    by_cases z : k = 0
    · subst z; decide
    · exact (Nat.log2_lt z).mpr (Nat.lt_of_le_of_lt h (by decide))
  dsimp only
  rw [if_pos h2]
theorem word_parts (hk : k ≤ 1000) (hj : S[y]? = some (yardC n sp dl p)) (hp : PartsN sp k) : m_said_of_word [.cell y, .str "parts"] S = .ok (.str (toString (k : Int))) S := by
  obtain ⟨l, h1, h2⟩ := hp S
  have hyp : m_Yard_parts [.cell y] S = .ok (.int k) S := by
    refine congrArg RS.res (a₁ := b_Yard_parts [some (.cell y)] S) (a₂ := .rt _ S) ?_
    unfold b_Yard_parts
    exact ev_ret (ev_call (ev_cons (ev_fun (ev_cons (ev_fld rfl hj lk_space) ev_nil) rfl h1) ev_nil) (by unfold lenD; simp [h2]))
  have lkp : (yf n sp dl p).lookup ("parts" : Str) = none := by kernel_rfl
  refine congrArg RS.res (a₁ := b_said_of_word [some (.cell y), some (.str "parts")] S) (a₂ := .rt _ S) ?_
  unfold b_said_of_word
  refine ev_seq_if_f (S1 := S) (ev_tst (ev_op (ev_var rfl) ev_c (by rw [eqD_str, decide_eq_false (by decide +kernel)]))) (ev_seq_skip ?_)
  refine ev_seq_if_f (S1 := S) (ev_tst (ev_op (ev_var rfl) ev_c (by rw [eqD_str, decide_eq_false (by decide +kernel)]))) (ev_seq_skip ?_)
  refine ev_seq_if_f (S1 := S) (ev_tst (ev_op (ev_var rfl) ev_c (by rw [eqD_str, decide_eq_false (by decide +kernel)]))) (ev_seq_skip ?_)
  exact ev_ret (ev_if_t (S1 := S) (ev_tst (ev_op (ev_var rfl) ev_c (by rw [eqD_str, decide_eq_true rfl]))) (ev_call (ev_cons (ev_meth rfl hj lkp ev_nil rfl hyp) ev_nil) (str_nat hk)))
end
theorem forL_keep {tg : Tg} {body : MS} {P : En → Prop} {S : Store} {ds : List Da} {ρ : En} (h : P ρ) (k : ∀ d ∈ ds, ∀ ρ, P ρ → ∃ ρ1, bindT tg d ρ = some ρ1 ∧ ∃ ρ2, body ρ1 S = .nx ρ2 S ∧ P ρ2) : ∃ ρ2, forL tg body ds ρ S = .nx ρ2 S ∧ P ρ2 := by
  obtain ⟨ρ2, S2, h1, h2, rfl⟩ := forL_invN (T := ds.length) (t := 0) (ds := ds) (P := fun _ ρ S2 => P ρ ∧ S2 = S) (S := S) (by omega) ⟨h, rfl⟩ fun d hd t ρ S2 _ ⟨hp, e⟩ => by
    subst e
    obtain ⟨ρ1, h1, ρ2, h2, h3⟩ := k d hd ρ hp
    exact ⟨ρ1, h1, ρ2, S2, h2, h3, rfl⟩
  exact ⟨ρ2, h1, h2⟩
/-! ### reaches told -/
def dgI (i : Int) : Str := toString i
theorem str_i {i : Int} {S : Store} (h0 : 0 ≤ i) (h : i ≤ 1000) : strD [.int i] S = some (.str (dgI i)) := by
  obtain ⟨k, rfl⟩ : ∃ k : Nat, i = k := ⟨i.toNat, by omega⟩
  exact str_nat (by omega)
def rowT' (r : List Int) : Str := Txt.join " " (r.map dgI)
theorem strsOf_map : ∀ l : List Str, strsOf (l.map Da.str) = some l
  | [] => rfl
  | x :: l => by rw [List.map_cons, strsOf, strsOf_map l]; rfl
theorem dg_len {x : Int} (h0 : 0 ≤ x) (h7 : x < 7) : (dgI x).length ≤ 1 := by
  obtain ⟨k, rfl⟩ : ∃ k : Nat, x = k := ⟨x.toNat, by omega⟩
  have : k = 0 ∨ k = 1 ∨ k = 2 ∨ k = 3 ∨ k = 4 ∨ k = 5 ∨ k = 6 := by omega
  rcases this with rfl | rfl | rfl | rfl | rfl | rfl | rfl <;> decide +kernel
theorem dg_sum : ∀ {l : List Int}, (∀ x ∈ l, 0 ≤ x ∧ x < 7) → ((l.map dgI).map (·.length)).sum ≤ l.length
  | [], _ => Nat.le_refl _
  | x :: l, h => by
    have h1 := dg_len (h x List.mem_cons_self).1 (h x List.mem_cons_self).2
    have h2 := dg_sum (l := l) fun y hy => h y (List.mem_cons_of_mem _ hy)
    rw [List.map_cons, List.map_cons, List.sum_cons, List.length_cons]
    omega
theorem ev_joinR {r : List Int} {S : Store} (h : ∀ x ∈ r, 0 ≤ x ∧ x < 7) (hl : r.length ≤ 7) : joinM (cM (.str " ")) (frzM (lcM [1] (.one 1) (itT (varM 0)) (yesM) (callM strD (consM (varM 1) (nilM))))) [some (rowD r), none] S = .ok (.str (rowT' r)) S := by
  have l1 : lcM [1] (.one 1) (itT (varM 0)) (yesM) (callM strD (consM (varM 1) (nilM))) [some (rowD r), none] S = .ok (r.map fun x => Da.str (dgI x)) S :=
    ev_lc_yes (fx := Da.int) (kρ := fun x => [some (rowD r), some (.int x)]) (ev_itT (ev_var rfl)) (by unfold big; omega) (fun x => rfl) (fun x hx => ev_call (ev_cons (ev_var rfl) ev_nil) (str_i (h x hx).1 (by have := (h x hx).2; omega)))
  have e : frzM (lcM [1] (.one 1) (itT (varM 0)) (yesM) (callM strD (consM (varM 1) (nilM)))) [some (rowD r), none] S = .ok (.lst ((r.map dgI).map Da.str)) S := by
    rw [ev_frz l1, List.map_map]; rfl
  unfold joinM
  simp only [cM, Res.bind, onStr]
  rw [e]
  have e2 : (seqOf S (.lst ((r.map dgI).map Da.str))).bind strsOf = some (r.map dgI) := strsOf_map _
  simp only [e2]
  have hs := dg_sum h
  have h1 : (" " : Str).length = 1 := by decide +kernel
  rw [if_pos (by rw [h1, List.length_map]; omega)]
  rfl
theorem neD_tnil {dl : List Da} {wt dp : Nat} {S : Store} (hs : ∀ e ∈ dl, SmD e wt dp) (hd : dp ≤ 50) : neD (.tup dl) (.tup []) S = some (.bl (!decide (dl = []))) := by
  have h := eqD_nil (S := S) hs hd
  unfold eqD at h
  unfold neD
  cases e : eqvD S (.tup dl) (.tup []) with
  | none => rw [e] at h; exact nomatch h
  | some b =>
    rw [e] at h
    have hb : b = decide (dl = []) := by
      have h2 := Option.some.inj h
      exact Da.bl.inj h2
    subst hb
    rfl
theorem lot_text_ok {r : List Int} {S : Store} (h : ∀ x ∈ r, 0 ≤ x ∧ x < 7) (hl : r.length ≤ 7) (hne : r ≠ []) : m_lot_text [rowD r] S = .ok (.str (rowT' r)) S := by
  refine congrArg RS.res (a₁ := b_lot_text [some (rowD r), none] S) (a₂ := .rt _ S) ?_
  unfold b_lot_text
  have c : neD (rowD r) (.tup []) S = some (.bl true) := by
    have := neD_tnil (S := S) (dl := r.map Da.int) (wt := 77) (dp := 1) (fun e he => by
      obtain ⟨x, hx, rfl⟩ := List.mem_map.mp he
      exact (SmD.int (by have := h x hx; omega) (by have := h x hx; omega)).le (by decide) (by decide)) (by decide)
    rw [decide_eq_false (by simp [hne])] at this
    exact this
  exact ev_ret (ev_if_t (ev_tst (ev_op (ev_var rfl) (ev_tup ev_nil rfl) c)) (ev_joinR h hl))
theorem reach_ok {n p y : Nat} {sp : List (List Int)} {dl : List Da} {x : Int} {S : Store} (g : Good n sp) (h7 : n ≤ 7) (hj : S[y]? = some (yardC n sp dl p)) (x0 : 0 ≤ x) (xn : x < n) : m_said_of_reach [.cell y, .int x] S = .ok (.str (rowT' (row sp x))) S := by
  have hl := g.len
  have hm := row_mem (sp := sp) x0 (by omega)
  have hp := place_ok (x := x) (S := S) hl
  rw [decide_eq_true x0, decide_eq_true (by omega), Bool.true_and] at hp
  have hsh := g.short hm
  refine congrArg RS.res (a₁ := b_said_of_reach [some (.cell y), some (.int x)] S) (a₂ := .rt _ S) ?_
  unfold b_said_of_reach
  refine ev_ret (ev_if_t (ev_tst (ev_fun (ev_cons (ev_fld rfl hj lk_space) (ev_cons (ev_var rfl) ev_nil)) rfl hp)) (ev_fun (ev_cons (ev_op (ev_fld rfl hj lk_space) (ev_var rfl) (ixD_row x0 (by omega))) ev_nil) rfl (lot_text_ok (fun z hz => by have := g.rng _ hm z hz; omega) (by omega) ?_)))
  intro e
  have := g.own x x0 xn
  rw [e] at this
  cases this
local macro_rules | `(tactic| infer_instance) => `(tactic| ((with_reducible apply ev_eqO); infer_instance; infer_instance; decreasing_trivial))
local macro_rules | `(tactic| infer_instance) => `(tactic| ((with_reducible apply ev_make); infer_instance; rfl; omega; omega; (simp only [List.length_cons, List.length_nil, Nat.zero_add, Nat.reduceAdd]; rfl); (simp only [List.cons_append, List.nil_append, Nat.reduceAdd]; rfl)))
local macro_rules | `(tactic| infer_instance) => `(tactic| ((with_reducible apply ev_fld); rfl; (first | with_reducible assumption | exact at_app rfl | exact at_app0 rfl); (first | exact lk_space | exact lk_deeds | exact lk_past | exact lk_places)))
local macro_rules | `(tactic| infer_instance) => `(tactic| ((with_reducible apply ev_meth); rfl; (first | with_reducible assumption | exact at_app rfl | exact at_app0 rfl); (first | exact lk_do | exact lk_undo); infer_instance; rfl; decreasing_trivial_pre_omega))
/-- a comprehension whose source writes the store -/
theorem lc_at {own : List Nat} {tg : Tg} {src : M (List Da)} {cond : M Bool} {elt : M Da} {ρ : En} {S S1 : Store} {ds : List Da} {kc : Da → Bool} {kρ : Da → En} (hs : src ρ S = .ok ds S1) (hb : ds.length ≤ big)
    (hρ : ∀ d, bindT tg d (wipeD ρ own) = some (kρ d)) (hc : ∀ d ∈ ds, cond (kρ d) S1 = .ok (kc d) S1) (he : ∀ d ∈ ds, elt (kρ d) S1 = .ok d S1) : lcM own tg src cond elt ρ S = .ok (ds.filter kc) S1 := by
  have h := ev_lc (own := own) (tg := tg) (src := fun _ S => .ok ds S) (cond := cond) (elt := elt) (ρ := ρ) (S := S1) (xs := ds) (fx := id) (kc := kc) (ke := id) (kρ := kρ) (by rw [List.map_id]) hb hρ hc (fun d hd _ => he d hd)
  rw [List.map_id] at h
  rw [← h]
  unfold lcM
  rw [hs]
/-! ### the lines of deeds and reaches -/
def wsOf (l : Str) : Option (List Str) := match m_words_of [.str l] [] with
  | .ok (.lst ds) _ => some (ds.filterMap fun d => match d with | .str s => some s | _ => none)
  | _ => none
def lineT (w : Str) (a b : Int) : Str := w ++ (" " : Str) ++ dgI a ++ (" " : Str) ++ dgI b
def reachT (x : Int) : Str := ("reach " : Str) ++ dgI x
def wordsN : List Str := ["near", "far"]
def pairsN : List (Str × Nat × Nat) := wordsN.flatMap fun w => (List.range 7).flatMap fun i => (List.range 7).map fun j => (w, i, j)
theorem all_of_map {α β : Type} {f g : α → β} : ∀ {l : List α}, l.map f = l.map g → ∀ x ∈ l, f x = g x
  | _ :: l, h, x, hx => by
    simp only [List.map_cons] at h
    rcases List.mem_cons.1 hx with rfl | hx
    · exact (List.cons.inj h).1
    · exact all_of_map (List.cons.inj h).2 x hx
theorem line_w : ∀ S, pairsN.map (fun p => m_words_of [.str (lineT p.1 p.2.1 p.2.2)] S) = pairsN.map (fun p => .ok (strL [p.1, dgI p.2.1, dgI p.2.2]) S) := fun S => by kernel_rfl
theorem line_n : ∀ S, pairsN.map (fun p => m_numbers_in [strL [dgI p.2.1, dgI p.2.2]] S) = pairsN.map (fun p => .ok (tupI [(p.2.1 : Int), (p.2.2 : Int)]) S) := fun S => by kernel_rfl
theorem line_t : ∀ S, pairsN.map (fun p => m__law_line [deedD p.1 p.2.1 p.2.2] S) = pairsN.map (fun p => .ok (.str (lineT p.1 p.2.1 p.2.2)) S) := fun S => by kernel_rfl
theorem reach_w : ∀ S, (List.range 7).map (fun i : Nat => m_words_of [.str (reachT (i : Int))] S) = (List.range 7).map (fun i : Nat => .ok (strL ["reach", dgI (i : Int)]) S) := fun S => by kernel_rfl
theorem reach_n : ∀ S, (List.range 7).map (fun i : Nat => m_numbers_in [strL [dgI (i : Int)]] S) = (List.range 7).map (fun i : Nat => .ok (tupI [(i : Int)]) S) := fun S => by kernel_rfl
theorem reach_len : (List.range 7).all (fun i : Nat => decide (("reach " : Str).length + (dgI (i : Int)).length ≤ big)) = true := by kernel_rfl
theorem in_pairs {w : Str} {a b : Nat} (hw : isWord w) (ha : a < 7) (hb : b < 7) : (w, a, b) ∈ pairsN := by
  unfold pairsN
  refine List.mem_flatMap.mpr ⟨w, ?_, List.mem_flatMap.mpr ⟨a, List.mem_range.mpr ha, List.mem_map.mpr ⟨b, List.mem_range.mpr hb, rfl⟩⟩⟩
  rcases hw with rfl | rfl
  · exact List.mem_cons_self
  · exact List.mem_cons_of_mem _ List.mem_cons_self
theorem par_line {w : Str} {a b : Int} (hw : isWord w) (a0 : 0 ≤ a) (a7 : a < 7) (b0 : 0 ≤ b) (b7 : b < 7) : Par (lineT w a b) (some (w, [dgI a, dgI b], [a, b])) ∧ ∀ S, m__law_line [deedD w a b] S = .ok (.str (lineT w a b)) S := by
  obtain ⟨i, rfl⟩ : ∃ k : Nat, a = k := ⟨a.toNat, by omega⟩
  obtain ⟨j, rfl⟩ : ∃ k : Nat, b = k := ⟨b.toNat, by omega⟩
  have hm := in_pairs (w := w) (a := i) (b := j) hw (by omega) (by omega)
  have h1 := fun S => all_of_map (line_w S) _ hm
  have h2 := fun S => all_of_map (line_n S) _ hm
  have h3 := fun S => all_of_map (line_t S) _ hm
  dsimp only at h1 h2 h3
  exact ⟨.line h1 h2, h3⟩
theorem par_reach {x : Int} (x0 : 0 ≤ x) (x7 : x < 7) : Par (reachT x) (some (("reach" : Str), [dgI x], [x])) ∧ ("reach " : Str).length + (dgI x).length ≤ big := by
  obtain ⟨i, rfl⟩ : ∃ k : Nat, x = k := ⟨x.toNat, by omega⟩
  have hm : i ∈ List.range 7 := List.mem_range.mpr (by omega)
  have h1 := fun S => all_of_map (reach_w S) _ hm
  have h2 := fun S => all_of_map (reach_n S) _ hm
  exact ⟨.line h1 h2, of_decide_eq_true (List.all_eq_true.mp reach_len _ hm)⟩
theorem par_undo : Par "undo" (some (("undo" : Str), [], [])) := .line (fun S => by kernel_rfl) (fun S => by kernel_rfl)
theorem par_opens : Par "opens" (some (("opens" : Str), [], [])) := .line (fun S => by kernel_rfl) (fun S => by kernel_rfl)
theorem say_undo {c y : Nat} {S S2 : Store} {d : Da} (hc : S[c]? = some (conC y)) (h : m_said_of_undo [.cell y] S = .ok d S2) : m_Console_say [.cell c, .str "undo"] S = .ok d S2 :=
  say_word par_undo hc (by decide +kernel) (by decide +kernel) (fun h => nomatch h.2) (word_undo h)
theorem cut_last {α : Type} {l : List α} {x : α} : cutD (l ++ [x]) none (some (-1)) = l := by
  unfold cutD HT.sIx
  simp
  have e : (-1 + ((l.length : Int) + 1)).toNat = l.length := by omega
  rw [e]
  simp
theorem len_lst {l : List Da} {S : Store} : lenD [.lst l] S = some (.int l.length) := by
  show (asL S (.lst l)).map (fun l => Da.int l.length) = _
  rfl
theorem ix_lastL {l : List Da} {d : Da} {S : Store} : ixD (.lst (l ++ [d])) (.int (-1)) S = some d := atI_last
/-! ### the open lots of a new yard -/
def combD (n r : Nat) : List Da := (combIx n r).map fun ix => .tup (ix.map fun k => (rngL 0 n).getD k .non)
def lotsTo (n k : Nat) : List Da := (List.range k).flatMap (combD n)
def lotsR (n : Nat) : List (List Int) := (rowsD (lotsTo n (n + 1))).getD []
def lotsL (n : Nat) : List Da := (sortL (lotsR n)).map rowT
theorem lots_fin : (List.range 8).all (fun n => (List.range (n + 1)).all (fun r => chainB n (combIx n r) && decide ((lotsTo n r).length + (combD n r).length ≤ big) && decide ((combD n r).length ≤ big)) && decide (rowsD (lotsTo n (n + 1)) = some (lotsR n)) && decide (Ok3 (lotsR n))) = true := by kernel_rfl
theorem lotsTo_succ (n k : Nat) : lotsTo n (k + 1) = lotsTo n k ++ combD n k := by
  unfold lotsTo
  rw [List.range_succ, List.flatMap_append]
  simp
theorem lots_at {n : Nat} (h7 : n ≤ 7) : (∀ r ≤ n, chainB n (combIx n r) = true ∧ (lotsTo n r).length + (combD n r).length ≤ big ∧ (combD n r).length ≤ big) ∧ rowsD (lotsTo n (n + 1)) = some (lotsR n) ∧ Ok3 (lotsR n) := by
  have h := List.all_eq_true.mp lots_fin n (List.mem_range.mpr (by omega))
  rw [Bool.and_eq_true, Bool.and_eq_true] at h
  obtain ⟨⟨h1, h2⟩, h3⟩ := h
  refine ⟨fun r hr => ?_, of_decide_eq_true h2, of_decide_eq_true h3⟩
  have q := List.all_eq_true.mp h1 r (List.mem_range.mpr (by omega))
  rw [Bool.and_eq_true, Bool.and_eq_true] at q
  exact ⟨q.1.1, of_decide_eq_true q.1.2, of_decide_eq_true q.2⟩
theorem ev_comb {f g : M Da} {ρ : En} {S : Store} {n r : Nat} (h7 : n ≤ 7) (hr : r ≤ n) (hf : f ρ S = .ok (.lst (rngL 0 n)) S) (hg : g ρ S = .ok (.int r) S) : combM f g ρ S = .ok (combD n r) S := by
  have hl : (rngL 0 n).length = n := by unfold rngL; simp
  unfold combM
  rw [hf]
  simp only [Res.bind]
  rw [hg]
  dsimp only
  rw [if_pos ⟨by omega, by rw [hl, Int.toNat_natCast]; exact hr, by rw [hl]; omega, by rw [hl, Int.toNat_natCast]; exact ((lots_at h7).1 r hr).1⟩, hl, Int.toNat_natCast]
  rfl
theorem lot_step {n r : Nat} (h7 : n ≤ 7) (hr : r ≤ n) {S0 : Store} {z : Option Da} : dropS (extM (varM 1) (lcM [3] (.one 3) (combM (frzM (lrgF (varM 0))) (callM intD (consM (varM 2) (nilM)))) (yesM) (varM 3))) [some (.int n), some (.cell S0.length), some (.int r), z] (S0 ++ [.lst (lotsTo n r)]) =
    .nx [some (.int n), some (.cell S0.length), some (.int r), z] (S0 ++ [.lst (lotsTo n (r + 1))]) := by
  obtain ⟨_, h2, h3⟩ := (lots_at h7).1 r hr
  have er : frzM (lrgF (varM 0)) [some (.int n), some (.cell S0.length), some (.int r), z] (S0 ++ [.lst (lotsTo n r)]) = .ok (.lst (rngL 0 n)) (S0 ++ [.lst (lotsTo n r)]) := by
    refine ev_frz ?_
    unfold lrgF
    rw [ev_var (i := 0) rfl]
    simp only [Res.bind]
    rw [if_pos ⟨by omega, by omega⟩, Int.toNat_natCast]
  have l1 : lcM [3] (.one 3) (combM (frzM (lrgF (varM 0))) (callM intD (consM (varM 2) (nilM)))) (yesM) (varM 3) [some (.int n), some (.cell S0.length), some (.int r), z] (S0 ++ [.lst (lotsTo n r)]) = .ok ((combD n r).map id) (S0 ++ [.lst (lotsTo n r)]) :=
    ev_lc_yes (fx := id) (kρ := fun d => [some (.int n), some (.cell S0.length), some (.int r), some d]) (by rw [List.map_id]; exact ev_comb h7 hr er (ev_call (ev_cons (ev_var rfl) ev_nil) rfl)) h3 (fun d => rfl) fun d _ => ev_var rfl
  rw [List.map_id] at l1
  have e1 : extM (varM 1) (lcM [3] (.one 3) (combM (frzM (lrgF (varM 0))) (callM intD (consM (varM 2) (nilM)))) (yesM) (varM 3)) [some (.int n), some (.cell S0.length), some (.int r), z] (S0 ++ [.lst (lotsTo n r)]) = .ok .non (S0 ++ [.lst (lotsTo n (r + 1))]) := by
    have hc : cellL (S0 ++ [.lst (lotsTo n r)]) (.cell S0.length) = some (S0.length, lotsTo n r) := cellL_at (at_app0 rfl)
    unfold extM
    rw [ev_var (i := 1) rfl]
    simp only [Res.bind]
    rw [hc]
    dsimp only
    rw [l1]
    dsimp only
    rw [hc]
    dsimp only
    rw [if_pos h2, set_app0, lotsTo_succ]
    rfl
  exact ev_drop e1
theorem all_lots_ok {n : Nat} (h7 : n ≤ 7) {S : Store} : m_all_lots [.int n] S = .ok (.lst (lotsL n)) (S ++ [.lst (lotsTo n (n + 1))]) := by
  refine congrArg RS.res (a₁ := b_all_lots [some (.int n), none, none, none] S) (a₂ := .rt _ _) ?_
  unfold b_all_lots
  have ec : celM (listM nilM) [some (.int n), none, none, none] S = .ok (.cell S.length) (S ++ [.lst []]) := rfl
  refine ev_seq_set ec rfl ?_
  have hstep : ∀ (k r : Nat) (q : Option Da), r + k = n + 1 → ∃ q2, forL (.one 2) (dropS (extM (varM 1) (lcM [3] (.one 3) (combM (frzM (lrgF (varM 0))) (callM intD (consM (varM 2) (nilM)))) (yesM) (varM 3)))) (((List.range k).map fun i : Nat => ((r + i : Nat) : Int)).map Da.int) [some (.int n), some (.cell S.length), q, none] (S ++ [.lst (lotsTo n r)]) =
      .nx [some (.int n), some (.cell S.length), q2, none] (S ++ [.lst (lotsTo n (n + 1))]) := by
    intro k
    induction k with
    | zero => intro r q h; exact ⟨q, by rw [show n + 1 = r by omega]; rfl⟩
    | succ k ih =>
      intro r q h
      obtain ⟨q2, e⟩ := ih (r + 1) (some (.int r)) (by omega)
      refine ⟨q2, ?_⟩
      have hr : (List.range (k + 1)).map (fun i : Nat => ((r + i : Nat) : Int)) = (r : Int) :: (List.range k).map (fun i : Nat => ((r + 1 + i : Nat) : Int)) := by
        rw [List.range_succ_eq_map]
        simp only [List.map_cons, List.map_map]
        congr 1
        apply List.map_congr_left; intro i _
        show ((r + (i + 1) : Nat) : Int) = ((r + 1 + i : Nat) : Int)
        omega
      rw [hr, List.map_cons, forL_cons]
      have hb : bindT (.one 2) (.int r) [some (.int n), some (.cell S.length), q, none] = some [some (.int n), some (.cell S.length), some (.int r), none] := rfl
      rw [hb]
      dsimp only
      rw [lot_step h7 (by omega)]
      exact e
  obtain ⟨q2, e⟩ := hstep (n + 1) 0 none (by omega)
  have e0 : ((List.range (n + 1)).map fun i : Nat => ((0 + i : Nat) : Int)) = intsN (n + 1) := by
    unfold intsN
    apply List.map_congr_left; intro i _; omega
  rw [e0] at e
  refine ev_seq_for (ev_itR1 (n := n + 1) (ev_op (ev_var rfl) ev_c (by show some (Da.int _) = _; congr 2)) (by omega)) e ?_
  obtain ⟨_, hr, hk⟩ := lots_at h7
  refine ev_ret (ev_frz ?_)
  unfold slF
  rw [ev_var (i := 1) rfl]
  simp only [Res.bind]
  have ht : tryL (S ++ [.lst (lotsTo n (n + 1))]) (.cell S.length) = some (lotsTo n (n + 1)) := by
    unfold tryL
    dsimp only
    rw [at_app0 rfl]
  rw [ht]
  dsimp only
  rw [hr]
  dsimp only
  rw [if_pos hk]
  rfl
/-! ### opens told -/
def opB (n : Nat) (l : Da) : Bool := match m_is_open_by [spD (aloneR n), l] [] with
  | .ok (.bl b) _ => b
  | _ => false
theorem open_c : ∀ S, [2, 3, 4, 5, 6].map (fun n => (lotsL n).map fun l => m_is_open_by [spD (aloneR n), l] S) = [2, 3, 4, 5, 6].map (fun n => (lotsL n).map fun l => .ok (.bl (opB n l)) S) := fun S => by kernel_rfl
theorem open_len : [2, 3, 4, 5, 6].all (fun n => decide ((lotsL n).length ≤ 1000)) = true := by kernel_rfl
theorem in5 {n : Nat} (h2 : 2 ≤ n) (h6 : n ≤ 6) : n ∈ [2, 3, 4, 5, 6] := by
  have : n = 2 ∨ n = 3 ∨ n = 4 ∨ n = 5 ∨ n = 6 := by omega
  rcases this with rfl | rfl | rfl | rfl | rfl <;> decide
def opensT (n : Nat) : Str := toString (((lotsL n).filter (opB n)).length : Int)
theorem word_opens {n p y : Nat} {dl : List Da} {S : Store} (h2 : 2 ≤ n) (h6 : n ≤ 6) (hj : S[y]? = some (yardC n (aloneR n) dl p)) : m_said_of_word [.cell y, .str "opens"] S = .ok (.str (opensT n)) (S ++ [.lst (lotsTo n (n + 1))]) := by
  have hlen := of_decide_eq_true (List.all_eq_true.mp open_len n (in5 h2 h6))
  have hopen : ∀ S, ∀ l ∈ lotsL n, m_is_open_by [spD (aloneR n), l] S = .ok (.bl (opB n l)) S := fun S l hl => all_of_map (all_of_map (open_c S) n (in5 h2 h6)) l hl
  have hal : (aloneR n).length = n := (good_alone n).len
  have hsl : lenD [spD (aloneR n)] S = some (.int n) := by unfold spD lenD; simp [hal]
  have op : m_open_lots_by [spD (aloneR n)] S = .ok (.tup ((lotsL n).filter (opB n))) (S ++ [.lst (lotsTo n (n + 1))]) := by
    refine congrArg RS.res (a₁ := b_open_lots_by [some (spD (aloneR n)), none] S) (a₂ := .rt _ _) ?_
    unfold b_open_lots_by
    have src : itL (callF 1 m_all_lots (consM (callM lenD (consM (varM 0) (nilM))) (nilM))) [some (spD (aloneR n)), none] S = .ok (lotsL n) (S ++ [.lst (lotsTo n (n + 1))]) :=
      ev_itL (ev_fun (ev_cons (ev_call (ev_cons (ev_var rfl) ev_nil) hsl) ev_nil) rfl (all_lots_ok (by omega)))
    have lc := lc_at (own := [1]) (tg := .one 1) (cond := tstM (callF 2 m_is_open_by (consM (varM 0) (consM (varM 1) (nilM))))) (elt := varM 1) (ρ := [some (spD (aloneR n)), none]) (kρ := fun d => [some (spD (aloneR n)), some d]) (kc := opB n) src (by unfold big; omega) (fun d => rfl)
      (fun d hd => ev_tst (ev_fun (ev_cons (ev_var rfl) (ev_cons (ev_var rfl) ev_nil)) rfl (hopen _ d hd))) (fun d _ => ev_var rfl)
    exact ev_ret (ev_call (ev_cons (ev_frz lc) ev_nil) rfl)
  have hflt : ((lotsL n).filter (opB n)).length ≤ 1000 := Nat.le_trans (List.length_filter_le _ _) hlen
  refine congrArg RS.res (a₁ := b_said_of_word [some (.cell y), some (.str "opens")] S) (a₂ := .rt _ _) ?_
  unfold b_said_of_word
  refine ev_seq_if_f (S1 := S) (ev_tst (ev_op (ev_var rfl) ev_c (by rw [eqD_str, decide_eq_false (by decide +kernel)]))) (ev_seq_skip ?_)
  refine ev_seq_if_t (S1 := S) (ev_tst (ev_op (ev_var rfl) ev_c (by rw [eqD_str, decide_eq_true rfl]))) (ev_seq_rt ?_)
  exact ev_ret (ev_call (ev_cons (ev_call (ev_cons (ev_fun (ev_cons (ev_fld rfl hj lk_space) ev_nil) rfl op) ev_nil) (by unfold lenD; rfl)) ev_nil) (str_nat hflt))
theorem say_opens {n p c y : Nat} {dl : List Da} {S : Store} (h2 : 2 ≤ n) (h6 : n ≤ 6) (hc : S[c]? = some (conC y)) (hj : S[y]? = some (yardC n (aloneR n) dl p)) : m_Console_say [.cell c, .str "opens"] S = .ok (.str (opensT n)) (S ++ [.lst (lotsTo n (n + 1))]) :=
  say_word par_opens hc (by decide +kernel) (by decide +kernel) (fun h => nomatch h.2) (word_opens h2 h6 hj)
/-! ### a turn -/
theorem ev_catL {f g : M Da} {ρ : En} {S S1 S2 : Store} {l m : List Da} (hf : f ρ S = .ok (.lst l) S1) (hg : g ρ S1 = .ok (.lst m) S2) (hb : l.length + m.length ≤ big) : catF f g ρ S = .ok (l ++ m) S2 := by
  unfold catF
  rw [hf]
  simp only [Res.bind]
  rw [hg]
  have e1 : tryL S2 (.lst l) = some l := rfl
  have e2 : tryL S2 (.lst m) = some m := rfl
  simp only [e1, e2]
  rw [if_pos hb]
theorem sl_last {ρ : En} {S : Store} {i : Nat} {l : List Da} {x : Da} (h : ρ[i]? = some (some (.lst (l ++ [x])))) : sliceM slLD (varM i) (noPartM) (partM (unM negD (cM (.int 1)))) ρ S = .ok (.lst l) S := by
  unfold sliceM
  rw [ev_var h]
  have e : slLD (.lst (l ++ [x])) none (some (-1)) S = some (.lst l) := by
    show some (Da.lst (cutD (l ++ [x]) none (some (-1)))) = _
    rw [cut_last]
  simp [Res.bind, noPartM, partM, unM, cM, negD, ofO, e]
theorem ev_methN {cn m : Str} {fs : List (Str × Da)} {ds : List Da} {d : Da} {j k : Nat} {mf : Mf} {fo : M Da} {t : M (List Da)} {ρ : En} {S S1 S2 S3 : Store} (ho : fo ρ S = .ok (.cell j) S1) (h : S1[j]? = some (.obj cn fs)) (hl : fs.lookup m = none) (ht : t ρ S1 = .ok ds S2) (hn : ds.length + 1 = k)
    (hr : mf (.cell j :: ds) S2 = .ok d S3) : methF cn m k mf fo t ρ S = .ok d S3 := by
  have e : objAt S1 cn (.cell j) = some (j, fs) := by
    unfold objAt
    dsimp only
    rw [h]
    exact if_pos rfl
  unfold methF
  rw [ho]
  simp only [Res.bind, e, hl]
  rw [ht]
  dsimp only
  rw [if_pos (by rw [List.length_cons]; exact hn), hr]
def env85 (src : Da) (lap : Int) (k n : Nat) (rows : List Da) (r7 r8 r9 r10 r11 : Option Da) : En := [some src, some (.int lap), some (.cell k), some (.int n), some (.cell (k + 1)), some (.lst rows), some (.cell (k + 3)), r7, r8, r9, r10, r11]
def B85 (k n : Nat) (x y z : Int) (sp : List (List Int)) (dl pl : List Da) : Store := [wellC x y z, yardC n (aloneR n) [] (k + 2), .lst [], conC (k + 4), yardC n sp dl (k + 5), .lst pl]
theorem places_ok {r : List Int} {S : Store} (h : ∀ x ∈ r, 0 ≤ x ∧ x < 7) (hl : r.length ≤ 7) : m__law_places [rowD r] S = .ok (.str (rowT' r)) S := by
  refine congrArg RS.res (a₁ := b__law_places [some (rowD r), none] S) (a₂ := .rt _ S) ?_
  unfold b__law_places
  exact ev_ret (ev_joinR h hl)
theorem rest85 {src : Da} {lap : Int} {S0 : Store} {n : Nat} {x y z : Int} {sp : List (List Int)} {dl pl : List Da} {r7 r8 r9 r10 r11 : Option Da} (h2 : 2 ≤ n) (h7 : n ≤ 7) (tr : Tr n sp dl pl) : ∃ x' y' z' q,
    (seqS (setS 11 (callF 2 m__law_take (consM (varM 2) (consM (varM 3) (nilM))))) (seqS (ifS (tstM (opM neD (methF "Console" "say" 2 m_Console_say (varM 6) (consM (opM addD (cM (.str "reach ")) (callM strD (consM (varM 11) (nilM)))) (nilM))) (callF 1 m__law_places (consM (opM ixD (opM ixD (varM 5) (unM negD (cM (.int 1)))) (varM 11)) (nilM))))) (retS (cM (.bl false))) (skipS)) (ifS (orT (tstM (opM neD (fldM "Yard" "space" (varM 4)) (callF 1 m__law_alone (consM (varM 3) (nilM))))) (tstM (opM neD (fldM "Yard" "deeds" (varM 4)) (tupM (nilM))))) (retS (cM (.bl false))) (skipS))))
      (env85 src lap S0.length n (pl ++ [spD sp]) r7 r8 r9 r10 r11) (S0 ++ B85 S0.length n x y z sp dl pl) = .nx (env85 src lap S0.length n (pl ++ [spD sp]) r7 r8 r9 r10 q) (S0 ++ B85 S0.length n x' y' z' sp dl pl) := by
  have g := tr.good
  have hl := g.len
  obtain ⟨d, x1, y1, z1, t1, d0, d1⟩ := take1 (S := S0 ++ B85 S0.length n x y z sp dl pl) (j := S0.length) (at_app0 rfl) (m := n) (by omega) (by omega)
  rw [set_app0] at t1
  have t1 : m__law_take [.cell S0.length, .int n] (S0 ++ B85 S0.length n x y z sp dl pl) = .ok (.int d) (S0 ++ B85 S0.length n x1 y1 z1 sp dl pl) := t1
  refine ⟨x1, y1, z1, some (.int d), ?_⟩
  unfold env85
  refine ev_seq_set (ev_fun (ev_cons (ev_var rfl) (ev_cons (ev_var rfl) ev_nil)) rfl t1) (by rfl') ?_
  generalize hS : S0 ++ B85 S0.length n x1 y1 z1 sp dl pl = S
  have hcon : S[S0.length + 3]? = some (conC (S0.length + 4)) := by rw [← hS]; exact at_app rfl
  have hyard : S[S0.length + 4]? = some (yardC n sp dl (S0.length + 5)) := by rw [← hS]; exact at_app rfl
  have hy0 : S[S0.length + 1]? = some (yardC n (aloneR n) [] (S0.length + 2)) := by rw [← hS]; exact at_app rfl
  obtain ⟨pr, hb⟩ := par_reach d0 (by omega)
  have sr := say_reach (S := S) pr hcon (reach_ok g h7 hyard d0 d1)
  have hm := row_mem (sp := sp) d0 (by omega)
  have hsh := g.short hm
  have lp := places_ok (S := S) (r := row sp d) (fun q hq => by have := g.rng _ hm q hq; omega) (by omega)
  have ad : addD (.str "reach ") (.str (dgI d)) S = some (.str (reachT d)) := if_pos hb
  refine ev_seq_if_f (S1 := S) (ev_tst (ev_op (ev_methO (ev_var rfl) hcon lk_say (ev_cons (ev_op ev_c (ev_call (ev_cons (ev_var rfl) ev_nil) (str_i d0 (by omega))) ad) ev_nil) rfl sr) (ev_fun (ev_cons (ev_op (ev_op (ev_var rfl) (ev_un ev_c rfl) ix_lastL) (ev_var rfl) (ixD_row d0 (by omega))) ev_nil) rfl lp) (by rw [neD_str]; simp))) (ev_seq_skip ?_)
  have nal : neD (spD (aloneR n)) (spD (aloneR n)) S = some (.bl false) := ne_self (SmD.space (good_alone n) h7) (by decide) rfl (fun j h => nomatch h)
  have dnil : neD (.tup []) (.tup []) S = some (.bl false) := by
    have := neD_tnil (S := S) (dl := []) (wt := 1) (dp := 1) (fun e he => nomatch he) (by decide)
    rw [decide_eq_true rfl] at this
    exact this
  exact ev_ifs_f (S1 := S) (ev_orT_f (ev_tst (ev_op (ev_fld rfl hy0 lk_space) (ev_fun (ev_cons (ev_var rfl) ev_nil) rfl (alone_ok h7 _)) nal)) (ev_tst (ev_op (ev_fld rfl hy0 lk_deeds) (ev_tup ev_nil rfl) dnil))) rfl
structure Inv85 (src : Da) (lap : Int) (S0 : Store) (n t : Nat) (ρ : En) (S : Store) : Prop where
  ex : ∃ sp dl pl x y z r7 r8 r9 r10 r11, ρ = env85 src lap S0.length n (pl ++ [spD sp]) r7 r8 r9 r10 r11 ∧ S = S0 ++ B85 S0.length n x y z sp dl pl ∧ Tr n sp dl pl ∧ dl.length ≤ t
theorem turn85 {src : Da} {lap : Int} {S0 : Store} {n t : Nat} {ρ : En} {S : Store} {i : Int} (h2 : 2 ≤ n) (h7 : n ≤ 7) (ht : t < 100) (iv : Inv85 src lap S0 n t ρ S) : ∃ ρ1, bindT (.one 7) (.int i) ρ = some ρ1 ∧ ∃ ρ2 S2, l_law_0 ρ1 S = .nx ρ2 S2 ∧ Inv85 src lap S0 n (t + 1) ρ2 S2 := by
  obtain ⟨sp, dl, pl, x, y, z, r7, r8, r9, r10, r11, rfl, rfl, tr, hd⟩ := iv.ex
  have g := tr.good
  have hp := tr.len
  refine ⟨_, rfl, ?_⟩
  obtain ⟨d, x', y', z', htk, d0, d4⟩ := take1 (m := 4) (S := S0 ++ B85 S0.length n x y z sp dl pl) (j := S0.length) (at_app0 rfl) (by decide) (by decide)
  rw [set_app0] at htk
  have htk : m__law_take [.cell S0.length, .int 4] (S0 ++ B85 S0.length n x y z sp dl pl) = .ok (.int d) (S0 ++ B85 S0.length n x' y' z' sp dl pl) := htk
  have c1 : ∀ (ρ : En), ρ[2]? = some (some (.cell S0.length)) → tstM (opM eqD (callF 2 m__law_take (consM (varM 2) (consM (cM (.int 4)) (nilM)))) (cM (.int 0))) ρ (S0 ++ B85 S0.length n x y z sp dl pl) = .ok (decide (d = 0)) (S0 ++ B85 S0.length n x' y' z' sp dl pl) := fun ρ h => ev_tst (ev_op (ev_fun (ev_cons (ev_var h) (ev_cons ev_c ev_nil)) rfl htk) ev_c (eqD_int _ _ _))
  have hcon : ∀ sp dl pl, (S0 ++ B85 S0.length n x' y' z' sp dl pl)[S0.length + 3]? = some (conC (S0.length + 4)) := fun _ _ _ => at_app rfl
  by_cases q : d = 0
  · rw [decide_eq_true q] at c1
    cases tr with
    | nil =>
      obtain ⟨x2, y2, z2, r, e⟩ := rest85 (src := src) (lap := lap) (S0 := S0) (x := x') (y := y') (z := z') (r7 := some (.int i)) (r8 := some (.str "nothing")) (r9 := r9) (r10 := r10) (r11 := r11) h2 h7 (.nil : Tr n _ _ _)
      refine ⟨_, _, Eq.trans ?_ e, ⟨_, _, _, x2, y2, z2, _, _, _, _, r, rfl, rfl, .nil, by omega⟩⟩
      unfold l_law_0 env85
      refine ev_seq_if_t (c1 _ rfl) ?_
      refine ev_assoc (ev_seq_set (ev_if_f (ev_tst (ev_op (ev_call (ev_cons (ev_var rfl) ev_nil) len_lst) ev_c rfl)) ev_c) (by rfl') ?_)
      refine ev_assoc (ev_seq_if_f (ev_tst (ev_op (ev_methO (ev_var rfl) (hcon _ _ _) lk_say (ev_cons ev_c ev_nil) rfl (say_undo (hcon _ _ _) (said_nothing (n := n) (p := S0.length + 5) (at_app rfl) (at_app rfl)))) (ev_var rfl) rfl)) (ev_seq_skip ?_))
      exact ev_seq_set (ev_if_f (ev_tst (ev_op (ev_var rfl) ev_c (by rw [eqD_str, decide_eq_false (by decide +kernel)]))) (ev_var rfl)) (by rfl') rfl
    | @snoc sp0 dl0 pl0 w a b hh hw a0 an b0 bn hab hr =>
      rw [List.length_append] at hd
      obtain ⟨x2, y2, z2, r, e⟩ := rest85 (src := src) (lap := lap) (S0 := S0) (x := x') (y := y') (z := z') (r7 := some (.int i)) (r8 := some (.str "done")) (r9 := r9) (r10 := r10) (r11 := r11) h2 h7 hh
      have u := said_undone (n := n) (sp := behind sp0 w a b) (sp0 := sp0) (dl := dl0) (dd := deedD w a b) (pl := pl0) (p := S0.length + 5) (y := S0.length + 4) (S := S0 ++ B85 S0.length n x' y' z' (behind sp0 w a b) (dl0 ++ [deedD w a b]) (pl0 ++ [spD sp0])) (at_app rfl) (at_app rfl) ((Tr.snoc hh hw a0 an b0 bn hab hr).smp h7)
      rw [set_app, set_app] at u
      have u : m_said_of_undo [.cell (S0.length + 4)] (S0 ++ B85 S0.length n x' y' z' (behind sp0 w a b) (dl0 ++ [deedD w a b]) (pl0 ++ [spD sp0])) = .ok (.str "done") (S0 ++ B85 S0.length n x' y' z' sp0 dl0 pl0) := u
      refine ⟨_, _, Eq.trans ?_ e, ⟨_, _, _, x2, y2, z2, _, _, _, _, r, rfl, rfl, hh, by omega⟩⟩
      unfold l_law_0 env85
      refine ev_seq_if_t (c1 _ rfl) ?_
      have hgt : ∀ S, gtD (.int (((pl0 ++ [spD sp0]) ++ [spD (behind sp0 w a b)]).length : Nat)) (.int 1) S = some (.bl true) := fun S => by rw [gt_one, decide_eq_true (by simp)]
      refine ev_assoc (ev_seq_set (ev_if_t (ev_tst (ev_op (ev_call (ev_cons (ev_var rfl) ev_nil) len_lst) ev_c (hgt _))) ev_c) (by rfl') ?_)
      refine ev_assoc (ev_seq_if_f (ev_tst (ev_op (ev_methO (ev_var rfl) (hcon _ _ _) lk_say (ev_cons ev_c ev_nil) rfl (say_undo (hcon _ _ _) u)) (ev_var rfl) rfl)) (ev_seq_skip ?_))
      exact ev_seq_set (ev_if_t (ev_tst (ev_op (ev_var rfl) ev_c (by rw [eqD_str, decide_eq_true rfl]))) (sl_last rfl)) (by rfl') rfl
  · rw [decide_eq_false q] at c1
    obtain ⟨w, a, b, x2, y2, z2, hdd, hw, a0, an, b0, bn, hab⟩ := deed_ok (S := S0 ++ B85 S0.length n x' y' z' sp dl pl) (j := S0.length) (at_app0 rfl) h2 h7
    rw [set_app0] at hdd
    have hdd : m__law_deed [.cell S0.length, .int n] (S0 ++ B85 S0.length n x' y' z' sp dl pl) = .ok (deedD w a b) (S0 ++ B85 S0.length n x2 y2 z2 sp dl pl) := hdd
    have dd := did_ok (S := S0 ++ B85 S0.length n x2 y2 z2 sp dl pl) g h7 hw a0 an b0 bn hab
    obtain ⟨pl1, ln⟩ := par_line (a := a) (b := b) hw a0 (by omega) b0 (by omega)
    have hcon2 : (S0 ++ B85 S0.length n x2 y2 z2 sp dl pl)[S0.length + 3]? = some (conC (S0.length + 4)) := at_app rfl
    have hsz : (kv_SIZES.lookup w).isSome = true := by rcases hw with rfl | rfl <;> decide +kernel
    cases hr : reason sp n w a b with
    | some xx =>
      rw [show nextSp sp n w a b = sp by unfold nextSp; rw [hr], show dueS (reason sp n w a b) = xx by rw [hr]; rfl] at dd
      have hx := reason_ne hr
      have sd := said_barred (x := xx) (p := S0.length + 5) (y := S0.length + 4) (dl := dl) (S := S0 ++ B85 S0.length n x2 y2 z2 sp dl pl) g h7 (at_app rfl) hw a0 an b0 bn hab hr
      obtain ⟨x3, y3, z3, r, e⟩ := rest85 (src := src) (lap := lap) (S0 := S0) (x := x2) (y := y2) (z := z2) (r7 := some (.int i)) (r8 := some (.str xx)) (r9 := some (deedD w a b)) (r10 := some (spD sp)) (r11 := r11) h2 h7 tr
      refine ⟨_, _, Eq.trans ?_ e, ⟨_, _, _, x3, y3, z3, _, _, _, _, r, rfl, rfl, tr, by omega⟩⟩
      unfold l_law_0 env85
      refine ev_seq_if_f (c1 _ rfl) ?_
      refine ev_assoc (ev_seq_set (ev_fun (ev_cons (ev_var rfl) (ev_cons (ev_var rfl) ev_nil)) rfl hdd) (by rfl') ?_)
      refine ev_assoc (ev_seq_unp2 (ev_fun (ev_cons (ev_op (ev_var rfl) (ev_un ev_c rfl) ix_lastL) (ev_cons (ev_var rfl) ev_nil)) rfl dd) (by rfl') ?_)
      refine ev_assoc (ev_seq_if_f (ev_tst (ev_op (ev_methO (ev_var rfl) hcon2 lk_say (ev_cons (ev_fun (ev_cons (ev_var rfl) ev_nil) rfl (ln _)) ev_nil) rfl (say_deed pl1 (by show 2 ≤ 1000; decide) hcon2 hsz sd)) (ev_var rfl) (by rw [neD_str]; simp))) (ev_seq_skip ?_))
      exact ev_seq_set (ev_frz (ev_catL (ev_var rfl) (ev_if_f (ev_tst (ev_op (ev_var rfl) ev_c (by rw [eqD_str, decide_eq_false hx]))) (ev_frz (ev_list ev_nil rfl))) (by rw [List.length_append]; unfold big; simp; omega))) (by rw [List.append_nil]; rfl') rfl
    | none =>
      rw [show nextSp sp n w a b = behind sp w a b by unfold nextSp; rw [hr], show dueS (reason sp n w a b) = "done" by rw [hr]; rfl] at dd
      have tr2 := Tr.snoc tr hw a0 an b0 bn hab hr
      have sd := said_done (p := S0.length + 5) (y := S0.length + 4) (dl := dl) (pl := pl) (S := S0 ++ B85 S0.length n x2 y2 z2 sp dl pl) g h7 (at_app rfl) (at_app rfl) (by omega) (by omega) hw a0 an b0 bn hab hr
      rw [set_app, set_app] at sd
      have sd : m_said_of_deed [.cell (S0.length + 4), .tup (.str w :: [a, b].map Da.int)] (S0 ++ B85 S0.length n x2 y2 z2 sp dl pl) = .ok (.str "done") (S0 ++ B85 S0.length n x2 y2 z2 (behind sp w a b) (dl ++ [deedD w a b]) (pl ++ [spD sp])) := sd
      obtain ⟨x3, y3, z3, r, e⟩ := rest85 (src := src) (lap := lap) (S0 := S0) (x := x2) (y := y2) (z := z2) (r7 := some (.int i)) (r8 := some (.str "done")) (r9 := some (deedD w a b)) (r10 := some (spD (behind sp w a b))) (r11 := r11) h2 h7 tr2
      refine ⟨_, _, Eq.trans ?_ e, ⟨_, _, _, x3, y3, z3, _, _, _, _, r, rfl, rfl, tr2, by simp; omega⟩⟩
      unfold l_law_0 env85
      refine ev_seq_if_f (c1 _ rfl) ?_
      refine ev_assoc (ev_seq_set (ev_fun (ev_cons (ev_var rfl) (ev_cons (ev_var rfl) ev_nil)) rfl hdd) (by rfl') ?_)
      refine ev_assoc (ev_seq_unp2 (ev_fun (ev_cons (ev_op (ev_var rfl) (ev_un ev_c rfl) ix_lastL) (ev_cons (ev_var rfl) ev_nil)) rfl dd) (by rfl') ?_)
      refine ev_assoc (ev_seq_if_f (ev_tst (ev_op (ev_methO (ev_var rfl) hcon2 lk_say (ev_cons (ev_fun (ev_cons (ev_var rfl) ev_nil) rfl (ln _)) ev_nil) rfl (say_deed pl1 (by show 2 ≤ 1000; decide) hcon2 hsz sd)) (ev_var rfl) (by rw [neD_str]; simp))) (ev_seq_skip ?_))
      exact ev_seq_set (ev_frz (ev_catL (ev_var rfl) (ev_if_t (ev_tst (ev_op (ev_var rfl) ev_c (by rw [eqD_str, decide_eq_true rfl]))) (ev_frz (ev_list (ev_cons (ev_var rfl) ev_nil) rfl))) (by rw [List.length_append]; unfold big; simp; omega))) (by rfl') rfl
/-! ### the lap -/
theorem at_left {A B : Store} {i : Nat} {c : Cell} (h : A[i]? = some c) : (A ++ B)[i]? = some c := by
  rw [List.getElem?_append_left (List.getElem?_eq_some_iff.mp h).1]; exact h
theorem lap85 {ns : List Int} (hn : ns.length ≤ 63) {lap : Nat} (hl : lap ≤ 2) (S0 : Store) (r2 r3 r4 r5 r6 r7 r8 r9 r10 r11 : Option Da) :
    Fin 12 (.src (ns.map Da.int)) (l_law_1 [some (.src (ns.map Da.int)), some (.int lap), r2, r3, r4, r5, r6, r7, r8, r9, r10, r11] S0) := by
  unfold l_law_1
  generalize hrest : (seqS (parS [4, 5] _) _) = rest
  obtain ⟨n, x, y, z, n2, n7, hk⟩ := lap_open (ns := ns) (lap := lap) (c := 2) (m := 5) (S0 := S0) (r2 := r2) (r3 := r3) (rest := [r4, r5, r6, r7, r8, r9, r10, r11]) hn hl (by decide) (by decide) rest
  refine Fin.of (hk _ rfl) ?_
  rw [← hrest]
  have h6 : n ≤ 6 := by omega
  have h7 : n ≤ 7 := by omega
  obtain ⟨ρ2, S2, e4, inv2⟩ := forL_invN (T := 100) (tg := .one 7) (body := l_law_0) (P := fun t ρ S => Inv85 (.src (ns.map Da.int)) lap S0 n t ρ S) (ds := (intsN 10).map Da.int) (t := 0) (by decide)
    (⟨aloneR n, [], [], x, y, z, r7, r8, r9, r10, r11, rfl, rfl, .nil, Nat.le_refl _⟩ : Inv85 (.src (ns.map Da.int)) lap S0 n 0 (env85 (.src (ns.map Da.int)) lap S0.length n ([] ++ [spD (aloneR n)]) r7 r8 r9 r10 r11) (S0 ++ B85 S0.length n x y z (aloneR n) [] [])) fun d hd t ρ S ht iv => by
      obtain ⟨i, _, rfl⟩ := List.mem_map.mp hd
      exact turn85 n2 h7 ht iv
  obtain ⟨sp, dl, pl, x1, y1, z1, q7, q8, q9, q10, q11, rfl, rfl, tr, hd⟩ := inv2.ex
  have l1 : (S0 ++ [wellC x y z]).length = S0.length + 1 := by simp
  have mk := make_ok (n := n) (ρ := [some (.src (ns.map Da.int)), some (.int lap), some (.cell S0.length), some (.int n), r4, r5, r6, r7, r8, r9, r10, r11]) (S := S0 ++ [wellC x y z]) (S1 := S0 ++ [wellC x y z]) (t := consM (varM 3) nilM) (by omega) (by omega) (ev_cons (ev_var rfl) ev_nil)
  rw [l1, List.append_assoc] at mk
  refine Fin.of (ev_seq_par (ev_cons mk (ev_cons (ev_frz (ev_list (ev_cons (ev_fun (ev_cons (ev_var rfl) ev_nil) rfl (alone_ok h7 _)) ev_nil) rfl)) ev_nil)) rfl (by rfl') rfl) ?_
  have l2 : (S0 ++ ([wellC x y z] ++ [yardC n (aloneR n) [] (S0.length + 1 + 1), .lst []])).length = S0.length + 3 := by simp
  have mc := con_make (n := n) (ρ := [some (.src (ns.map Da.int)), some (.int lap), some (.cell S0.length), some (.int n), some (.cell (S0.length + 1)), some (.lst [spD (aloneR n)]), r6, r7, r8, r9, r10, r11]) (t := consM (varM 4) nilM) (S := S0 ++ ([wellC x y z] ++ [yardC n (aloneR n) [] (S0.length + 1 + 1), .lst []])) (dl := []) (pl := []) (sp := aloneR n) (p := S0.length + 1 + 1) (j := S0.length + 1) (by omega) (by omega) (ev_cons (ev_var rfl) ev_nil) (at_app rfl) .nil (by decide)
  rw [l2, List.append_assoc] at mc
  have mc : makeF "Console" 2 m_Console_init (consM (varM 4) nilM) [some (.src (ns.map Da.int)), some (.int lap), some (.cell S0.length), some (.int n), some (.cell (S0.length + 1)), some (.lst [spD (aloneR n)]), r6, r7, r8, r9, r10, r11] (S0 ++ ([wellC x y z] ++ [yardC n (aloneR n) [] (S0.length + 1 + 1), .lst []])) = .ok (.cell (S0.length + 3)) (S0 ++ B85 S0.length n x y z (aloneR n) [] []) := mc
  refine Fin.of (ev_seq_set mc (by rfl') rfl) ?_
  have hcon0 : (S0 ++ B85 S0.length n x y z (aloneR n) [] [])[S0.length + 3]? = some (conC (S0.length + 4)) := at_app rfl
  refine Fin.of (ev_seq_if_f (ev_tst (ev_op (ev_methO (ev_var rfl) hcon0 lk_say (ev_cons ev_c ev_nil) rfl (say_undo hcon0 (said_nothing (n := n) (p := S0.length + 5) (at_app rfl) (at_app rfl)))) ev_c rfl)) rfl) ?_
  refine Fin.of (ev_seq_skip rfl) ?_
  refine Fin.of (ev_seq_for (ev_itR1c (n := 10) (by decide)) e4 rfl) ?_
  unfold env85
  -- two consoles more
  generalize hA : S0 ++ B85 S0.length n x1 y1 z1 sp dl pl = A
  have hy0 : A[S0.length + 1]? = some (yardC n (aloneR n) [] (S0.length + 2)) := by rw [← hA]; exact at_app rfl
  have tn : Tr n (aloneR n) [] [] := .nil
  have m1 := fun ρ (h4 : ρ[4]? = some (some (.cell (S0.length + 1)))) => con_make (n := n) (ρ := ρ) (t := consM (varM 4) nilM) (S := A) (S1 := A) (dl := []) (pl := []) (sp := aloneR n) (p := S0.length + 2) (j := S0.length + 1) (by omega) (by omega) (ev_cons (ev_var h4) ev_nil) hy0 tn (by decide)
  generalize hB : A ++ [conC (A.length + 1), yardC n (aloneR n) [] (A.length + 2), .lst []] = B at m1
  have hc1 : B[A.length]? = some (conC (A.length + 1)) := by rw [← hB]; exact at_app0 rfl
  have hy1 : B[A.length + 1]? = some (yardC n (aloneR n) [] (A.length + 2)) := by rw [← hB]; exact at_app rfl
  have s1 := say_opens n2 h6 hc1 hy1
  have hyB : (B ++ [.lst (lotsTo n (n + 1))])[S0.length + 1]? = some (yardC n (aloneR n) [] (S0.length + 2)) := at_left (by rw [← hB]; exact at_left hy0)
  generalize B ++ [.lst (lotsTo n (n + 1))] = D at s1 hyB
  have m2 := fun ρ (h4 : ρ[4]? = some (some (.cell (S0.length + 1)))) => con_make (n := n) (ρ := ρ) (t := consM (varM 4) nilM) (S := D) (S1 := D) (dl := []) (pl := []) (sp := aloneR n) (p := S0.length + 2) (j := S0.length + 1) (by omega) (by omega) (ev_cons (ev_var h4) ev_nil) hyB tn (by decide)
  generalize hE : D ++ [conC (D.length + 1), yardC n (aloneR n) [] (D.length + 2), .lst []] = E at m2
  have hc2 : E[D.length]? = some (conC (D.length + 1)) := by rw [← hE]; exact at_app0 rfl
  have hy2 : E[D.length + 1]? = some (yardC n (aloneR n) [] (D.length + 2)) := by rw [← hE]; exact at_app rfl
  have s2 := say_opens n2 h6 hc2 hy2
  refine Fin.of (ev_ifs_f (ev_tst (ev_op (ev_methN (m1 _ rfl) hc1 lk_say (ev_cons ev_c ev_nil) rfl s1) (ev_methN (m2 _ rfl) hc2 lk_say (ev_cons ev_c ev_nil) rfl s2) (d := .bl false) (by rw [neD_str]; simp))) rfl) ?_
  exact Fin.nx rfl
theorem law_true : ∀ ns : List Int, ns.length ≤ 63 → ∃ S, m_law [.src (ns.map Da.int)] [] = .ok (.bl true) S := fun ns hn => by
  obtain ⟨S2, e⟩ := law_fin (N := 12) (body := l_law_1) (src := .src (ns.map Da.int)) (r1 := none) (rest := List.replicate 10 none) rfl (fun lap S0 q hl hq => by
    match q, hq with
    | [r2, r3, r4, r5, r6, r7, r8, r9, r10, r11], _ => exact lap85 hn hl S0 r2 r3 r4 r5 r6 r7 r8 r9 r10 r11) []
  exact ⟨S2, congrArg RS.res e⟩
end NL

set_option Elab.async false
set_option linter.all false
set_option autoImplicit false
set_option maxRecDepth 100000
set_option maxHeartbeats 4100000
namespace NL
open PySem PySem.Spec PyProof.Rows L2

def top (i : Nat) : Stmt := PySem.Challenge.pw_nearlots_k85_whole_deeds_said.main.body.getD i (.Pass ⟨0, 0, 0, 0⟩)
abbrev s_check_yard : Stmt := top 58
abbrev s_is_string : Stmt := top 13
abbrev s_has_form : Stmt := top 51
abbrev s_is_whole : Stmt := top 11
abbrev s_is_between : Stmt := top 12
abbrev s_is_place_of : Stmt := top 22
abbrev s_check_deed : Stmt := top 52
abbrev s_is_near_by : Stmt := top 29
abbrev s_places_of : Stmt := top 27
abbrev s_has_between : Stmt := top 53
abbrev s_reason_against : Stmt := top 54
abbrev s_union_of : Stmt := top 25
abbrev s_without : Stmt := top 56
abbrev s_space_behind : Stmt := top 55
abbrev s_Yard_do : Stmt := inClass (top 57) 1
abbrev s_single_space : Stmt := top 34
abbrev s_Yard_init : Stmt := inClass (top 57) 0
abbrev s_copy_of : Stmt := top 59
abbrev s_Console_init : Stmt := inClass (top 72) 0
abbrev s_is_made_of : Stmt := top 14
abbrev s_number_in : Stmt := top 16
abbrev s_numbers_in : Stmt := top 17
abbrev s_common_of : Stmt := top 26
abbrev s_closing_by : Stmt := top 32
abbrev s_is_lot_of : Stmt := top 20
abbrev s_is_lot : Stmt := top 23
abbrev s_lot_text : Stmt := top 66
abbrev s_said_of_closing : Stmt := top 69
abbrev s_said_of_deed : Stmt := top 67
abbrev s_said_of_reach : Stmt := top 70
abbrev s_are_tied : Stmt := top 36
abbrev s_held_with : Stmt := top 37
abbrev s_parts_by : Stmt := top 38
abbrev s_Yard_parts : Stmt := inClass (top 57) 4
abbrev s_all_lots : Stmt := top 24
abbrev s_is_within : Stmt := top 21
abbrev s_is_open_by : Stmt := top 30
abbrev s_open_lots_by : Stmt := top 33
abbrev s_Yard_undo : Stmt := inClass (top 57) 2
abbrev s_said_of_undo : Stmt := top 68
abbrev s_said_of_word : Stmt := top 71
abbrev s_words_of : Stmt := top 15
abbrev s_Console_say : Stmt := inClass (top 72) 1
abbrev s__law_alone : Stmt := top 79
abbrev s__law_take : Stmt := top 75
abbrev s__law_of : Stmt := top 76
abbrev s__law_deed : Stmt := top 78
abbrev s__law_did : Stmt := top 77
abbrev s__law_line : Stmt := top 80
abbrev s__law_places : Stmt := top 81
abbrev s__law_well : Stmt := top 74
abbrev s_law : Stmt := top 82
abbrev s_InvalidNumber_init : Stmt := inClass (top 3) 0
abbrev s_InvalidLine_init : Stmt := inClass (top 4) 0
abbrev s_NotAYard_init : Stmt := inClass (top 5) 0
abbrev s_InvalidDeed_init : Stmt := inClass (top 6) 0
abbrev s_Barred_init : Stmt := inClass (top 7) 0
theorem sc_check_yard : FnScope ["value"] ["value"] (defScope s_check_yard) := ⟨rfl, rfl, rfl, by decide +kernel, rfl, by decide +kernel, by decide +kernel⟩
theorem sc_is_string : FnScope ["value"] ["value"] (defScope s_is_string) := ⟨rfl, rfl, rfl, by decide +kernel, rfl, by decide +kernel, by decide +kernel⟩
theorem sc_has_form : FnScope ["value"] ["value"] (defScope s_has_form) := ⟨rfl, rfl, rfl, by decide +kernel, rfl, by decide +kernel, by decide +kernel⟩
theorem sc_is_whole : FnScope ["value"] ["value"] (defScope s_is_whole) := ⟨rfl, rfl, rfl, by decide +kernel, rfl, by decide +kernel, by decide +kernel⟩
theorem sc_is_between : FnScope ["value", "least", "most"] ["value", "least", "most"] (defScope s_is_between) := ⟨rfl, rfl, rfl, by decide +kernel, rfl, by decide +kernel, by decide +kernel⟩
theorem sc_is_place_of : FnScope ["space", "value"] ["space", "value"] (defScope s_is_place_of) := ⟨rfl, rfl, rfl, by decide +kernel, rfl, by decide +kernel, by decide +kernel⟩
theorem sc_check_deed : FnScope ["space", "value"] ["space", "value"] (defScope s_check_deed) := ⟨rfl, rfl, rfl, by decide +kernel, rfl, by decide +kernel, by decide +kernel⟩
theorem sc_is_near_by : FnScope ["space", "place", "near_to"] ["space", "place", "near_to"] (defScope s_is_near_by) := ⟨rfl, rfl, rfl, by decide +kernel, rfl, by decide +kernel, by decide +kernel⟩
theorem sc_places_of : FnScope ["space"] ["space"] (defScope s_places_of) := ⟨rfl, rfl, rfl, by decide +kernel, rfl, by decide +kernel, by decide +kernel⟩
theorem sc_has_between : FnScope ["space", "one", "other", "thirds", "place"] ["space", "one", "other"] (defScope s_has_between) := ⟨rfl, rfl, rfl, by decide +kernel, rfl, by decide +kernel, by decide +kernel⟩
theorem sc_reason_against : FnScope ["space", "deed", "word", "one", "other"] ["space", "deed"] (defScope s_reason_against) := ⟨rfl, rfl, rfl, by decide +kernel, rfl, by decide +kernel, by decide +kernel⟩
theorem sc_union_of : FnScope ["lot", "other"] ["lot", "other"] (defScope s_union_of) := ⟨rfl, rfl, rfl, by decide +kernel, rfl, by decide +kernel, by decide +kernel⟩
theorem sc_without : FnScope ["reach", "place", "near"] ["reach", "place"] (defScope s_without) := ⟨rfl, rfl, rfl, by decide +kernel, rfl, by decide +kernel, by decide +kernel⟩
theorem sc_space_behind : FnScope ["space", "deed", "word", "one", "other", "reach", "place"] ["space", "deed"] (defScope s_space_behind) := ⟨rfl, rfl, rfl, by decide +kernel, rfl, by decide +kernel, by decide +kernel⟩
theorem sc_Yard_do : FnScope ["self", "deed", "reason"] ["self", "deed"] (defScope s_Yard_do) := ⟨rfl, rfl, rfl, by decide +kernel, rfl, by decide +kernel, by decide +kernel⟩
theorem sc_single_space : FnScope ["places", "place"] ["places"] (defScope s_single_space) := ⟨rfl, rfl, rfl, by decide +kernel, rfl, by decide +kernel, by decide +kernel⟩
theorem sc_Yard_init : FnScope ["self", "places"] ["self", "places"] (defScope s_Yard_init) := ⟨rfl, rfl, rfl, by decide +kernel, rfl, by decide +kernel, by decide +kernel⟩
theorem sc_copy_of : FnScope ["yard", "found", "deed"] ["yard"] (defScope s_copy_of) := ⟨rfl, rfl, rfl, by decide +kernel, rfl, by decide +kernel, by decide +kernel⟩
theorem sc_Console_init : FnScope ["self", "yard"] ["self", "yard"] (defScope s_Console_init) := ⟨rfl, rfl, rfl, by decide +kernel, rfl, by decide +kernel, by decide +kernel⟩
theorem sc_is_made_of : FnScope ["text", "signs", "sign"] ["text", "signs"] (defScope s_is_made_of) := ⟨rfl, rfl, rfl, by decide +kernel, rfl, by decide +kernel, by decide +kernel⟩
theorem sc_number_in : FnScope ["word", "found", "sign"] ["word"] (defScope s_number_in) := ⟨rfl, rfl, rfl, by decide +kernel, rfl, by decide +kernel, by decide +kernel⟩
theorem sc_numbers_in : FnScope ["words", "found", "word"] ["words"] (defScope s_numbers_in) := ⟨rfl, rfl, rfl, by decide +kernel, rfl, by decide +kernel, by decide +kernel⟩
theorem sc_common_of : FnScope ["lot", "other", "place"] ["lot", "other"] (defScope s_common_of) := ⟨rfl, rfl, rfl, by decide +kernel, rfl, by decide +kernel, by decide +kernel⟩
theorem sc_closing_by : FnScope ["space", "lot", "place"] ["space", "lot"] (defScope s_closing_by) := ⟨rfl, rfl, rfl, by decide +kernel, rfl, by decide +kernel, by decide +kernel⟩
theorem sc_is_lot_of : FnScope ["places", "value", "place", "one", "other"] ["places", "value"] (defScope s_is_lot_of) := ⟨rfl, rfl, rfl, by decide +kernel, rfl, by decide +kernel, by decide +kernel⟩
theorem sc_is_lot : FnScope ["space", "value"] ["space", "value"] (defScope s_is_lot) := ⟨rfl, rfl, rfl, by decide +kernel, rfl, by decide +kernel, by decide +kernel⟩
theorem sc_lot_text : FnScope ["lot", "place"] ["lot"] (defScope s_lot_text) := ⟨rfl, rfl, rfl, by decide +kernel, rfl, by decide +kernel, by decide +kernel⟩
theorem sc_said_of_closing : FnScope ["yard", "lot"] ["yard", "lot"] (defScope s_said_of_closing) := ⟨rfl, rfl, rfl, by decide +kernel, rfl, by decide +kernel, by decide +kernel⟩
theorem sc_said_of_deed : FnScope ["yard", "deed", "barred"] ["yard", "deed"] (defScope s_said_of_deed) := ⟨rfl, rfl, rfl, by decide +kernel, rfl, by decide +kernel, by decide +kernel⟩
theorem sc_said_of_reach : FnScope ["yard", "place"] ["yard", "place"] (defScope s_said_of_reach) := ⟨rfl, rfl, rfl, by decide +kernel, rfl, by decide +kernel, by decide +kernel⟩
theorem sc_are_tied : FnScope ["space", "one", "other"] ["space", "one", "other"] (defScope s_are_tied) := ⟨rfl, rfl, rfl, by decide +kernel, rfl, by decide +kernel, by decide +kernel⟩
theorem sc_held_with : FnScope ["space", "place", "line", "at", "here", "other"] ["space", "place"] (defScope s_held_with) := ⟨rfl, rfl, rfl, by decide +kernel, rfl, by decide +kernel, by decide +kernel⟩
theorem sc_parts_by : FnScope ["space", "place"] ["space"] (defScope s_parts_by) := ⟨rfl, rfl, rfl, by decide +kernel, rfl, by decide +kernel, by decide +kernel⟩
theorem sc_Yard_parts : FnScope ["self"] ["self"] (defScope s_Yard_parts) := ⟨rfl, rfl, rfl, by decide +kernel, rfl, by decide +kernel, by decide +kernel⟩
theorem sc_all_lots : FnScope ["places", "found", "many", "lot"] ["places"] (defScope s_all_lots) := ⟨rfl, rfl, rfl, by decide +kernel, rfl, by decide +kernel, by decide +kernel⟩
theorem sc_is_within : FnScope ["lot", "other", "place"] ["lot", "other"] (defScope s_is_within) := ⟨rfl, rfl, rfl, by decide +kernel, rfl, by decide +kernel, by decide +kernel⟩
theorem sc_is_open_by : FnScope ["space", "lot", "place"] ["space", "lot"] (defScope s_is_open_by) := ⟨rfl, rfl, rfl, by decide +kernel, rfl, by decide +kernel, by decide +kernel⟩
theorem sc_open_lots_by : FnScope ["space", "lot"] ["space"] (defScope s_open_lots_by) := ⟨rfl, rfl, rfl, by decide +kernel, rfl, by decide +kernel, by decide +kernel⟩
theorem sc_Yard_undo : FnScope ["self"] ["self"] (defScope s_Yard_undo) := ⟨rfl, rfl, rfl, by decide +kernel, rfl, by decide +kernel, by decide +kernel⟩
theorem sc_said_of_undo : FnScope ["yard"] ["yard"] (defScope s_said_of_undo) := ⟨rfl, rfl, rfl, by decide +kernel, rfl, by decide +kernel, by decide +kernel⟩
theorem sc_said_of_word : FnScope ["yard", "word"] ["yard", "word"] (defScope s_said_of_word) := ⟨rfl, rfl, rfl, by decide +kernel, rfl, by decide +kernel, by decide +kernel⟩
theorem sc_words_of : FnScope ["line", "words"] ["line"] (defScope s_words_of) := ⟨rfl, rfl, rfl, by decide +kernel, rfl, by decide +kernel, by decide +kernel⟩
theorem sc_Console_say : FnScope ["self", "line", "words", "numbers"] ["self", "line"] (defScope s_Console_say) := ⟨rfl, rfl, rfl, by decide +kernel, rfl, by decide +kernel, by decide +kernel⟩
theorem sc__law_alone : FnScope ["many", "place"] ["many"] (defScope s__law_alone) := ⟨rfl, rfl, rfl, by decide +kernel, rfl, by decide +kernel, by decide +kernel⟩
theorem sc__law_take : FnScope ["well", "many", "digit"] ["well", "many"] (defScope s__law_take) := ⟨rfl, rfl, rfl, by decide +kernel, rfl, by decide +kernel, by decide +kernel⟩
theorem sc__law_of : FnScope ["well", "things"] ["well", "things"] (defScope s__law_of) := ⟨rfl, rfl, rfl, by decide +kernel, rfl, by decide +kernel, by decide +kernel⟩
theorem sc__law_deed : FnScope ["well", "many", "one", "two"] ["well", "many"] (defScope s__law_deed) := ⟨rfl, rfl, rfl, by decide +kernel, rfl, by decide +kernel, by decide +kernel⟩
theorem sc__law_did : FnScope ["space", "deed", "word", "a", "b", "less", "reach", "c", "place"] ["space", "deed"] (defScope s__law_did) := ⟨rfl, rfl, rfl, by decide +kernel, rfl, by decide +kernel, by decide +kernel⟩
theorem sc__law_line : FnScope ["deed"] ["deed"] (defScope s__law_line) := ⟨rfl, rfl, rfl, by decide +kernel, rfl, by decide +kernel, by decide +kernel⟩
theorem sc__law_places : FnScope ["lot", "place"] ["lot"] (defScope s__law_places) := ⟨rfl, rfl, rfl, by decide +kernel, rfl, by decide +kernel, by decide +kernel⟩
theorem sc__law_well : FnScope ["script", "lap", "own", "stir", "each"] ["script", "lap"] (defScope s__law_well) := ⟨rfl, rfl, rfl, by decide +kernel, rfl, by decide +kernel, by decide +kernel⟩
theorem sc_law : FnScope ["script", "lap", "well", "many", "yard", "rows", "console", "turn", "due", "deed", "after", "place"] ["script"] (defScope s_law) := ⟨rfl, rfl, rfl, by decide +kernel, rfl, by decide +kernel, by decide +kernel⟩
theorem sc_InvalidNumber_init : FnScope ["self", "given"] ["self", "given"] (defScope s_InvalidNumber_init) := ⟨rfl, rfl, rfl, by decide +kernel, rfl, by decide +kernel, by decide +kernel⟩
theorem sc_InvalidLine_init : FnScope ["self", "given"] ["self", "given"] (defScope s_InvalidLine_init) := ⟨rfl, rfl, rfl, by decide +kernel, rfl, by decide +kernel, by decide +kernel⟩
theorem sc_NotAYard_init : FnScope ["self", "given"] ["self", "given"] (defScope s_NotAYard_init) := ⟨rfl, rfl, rfl, by decide +kernel, rfl, by decide +kernel, by decide +kernel⟩
theorem sc_InvalidDeed_init : FnScope ["self", "index"] ["self", "index"] (defScope s_InvalidDeed_init) := ⟨rfl, rfl, rfl, by decide +kernel, rfl, by decide +kernel, by decide +kernel⟩
theorem sc_Barred_init : FnScope ["self", "reason"] ["self", "reason"] (defScope s_Barred_init) := ⟨rfl, rfl, rfl, by decide +kernel, rfl, by decide +kernel, by decide +kernel⟩
structure Txt (P : Program) (w : World) (mg : Str → Option Value) (base : Heap) (G : Gc) : Prop where
  b_abs : mg "abs" = none
  b_all : mg "all" = none
  b_any : mg "any" = none
  b_bool : mg "bool" = none
  b_divmod : mg "divmod" = none
  b_enumerate : mg "enumerate" = none
  b_int : mg "int" = none
  b_isinstance : mg "isinstance" = none
  b_len : mg "len" = none
  b_list : mg "list" = none
  b_range : mg "range" = none
  b_set : mg "set" = none
  b_sorted : mg "sorted" = none
  b_str : mg "str" = none
  b_tuple : mg "tuple" = none
  b_zip : mg "zip" = none
  im_combinations : mg "combinations" = some (.type "itertools.combinations")
  g_DONE : ∃ t, mg "DONE" = some (.str "done" t)
  g_FIGURES : ∃ t, mg "FIGURES" = some (.str "0123456789" t)
  g_LOST : ∃ t, mg "LOST" = some (.str "not understood" t)
  g_MOST_PLACES : ∃ t, mg "MOST_PLACES" = some (.int 7 t)
  g_NOBODY : ∃ t, mg "NOBODY" = some (.str "nobody" t)
  g_NONE_consoles : ∃ t, mg "NONE_consoles" = some (.str "none" t)
  g_NONE_yards : ∃ t, mg "NONE_yards" = some (.str "none" t)
  g_NOTHING : ∃ t, mg "NOTHING" = some (.str "nothing" t)
  g_SAME : ∃ t, mg "SAME" = some (.str "same" t)
  g_THROUGH : ∃ t, mg "THROUGH" = some (.str "through" t)
  d_SIZES : DctOk G.K w mg "SIZES" kv_SIZES
  x_Barred : OwnX P w G.K mg base G "Barred" "reason"
  x_InvalidDeed : OwnX P w G.K mg base G "InvalidDeed" "index"
  x_InvalidLine : OwnX P w G.K mg base G "InvalidLine" "given"
  x_InvalidNumber : OwnX P w G.K mg base G "InvalidNumber" "given"
  x_NotAYard : OwnX P w G.K mg base G "NotAYard" "given"
  x_NothingToUndo : OwnX0 G.K mg G "NothingToUndo"
  f_Console_yard : FldOk G.K G "Console" "yard"
  f_Yard_deeds : FldOk G.K G "Yard" "deeds"
  f_Yard_past : FldOk G.K G "Yard" "past"
  f_Yard_places : FldOk G.K G "Yard" "places"
  f_Yard_space : FldOk G.K G "Yard" "space"
  nm_Barred : mg "Barred" = some (.ref (G.cls "Barred"))
  nm_InvalidDeed : mg "InvalidDeed" = some (.ref (G.cls "InvalidDeed"))
  nm_NothingToUndo : mg "NothingToUndo" = some (.ref (G.cls "NothingToUndo"))
  nm_Yard : mg "Yard" = some (.ref (G.cls "Yard"))
  qm_Barred : ∀ c b, xm_Barred c = some b → PySem.W.exmOne G.K (.ref (G.cls c)) (.ref (G.cls "Barred")) = some b
  exc_Barred : ∀ c, xm_Barred c = some true → ExcC G.K (G.cls c)
  xfc_Barred : ∀ c, xm_Barred c = some true → XfC G.K (G.cls c)
  qm_InvalidDeed : ∀ c b, xm_InvalidDeed c = some b → PySem.W.exmOne G.K (.ref (G.cls c)) (.ref (G.cls "InvalidDeed")) = some b
  exc_InvalidDeed : ∀ c, xm_InvalidDeed c = some true → ExcC G.K (G.cls c)
  xfc_InvalidDeed : ∀ c, xm_InvalidDeed c = some true → XfC G.K (G.cls c)
  qm_NothingToUndo : ∀ c b, xm_NothingToUndo c = some b → PySem.W.exmOne G.K (.ref (G.cls c)) (.ref (G.cls "NothingToUndo")) = some b
  exc_NothingToUndo : ∀ c, xm_NothingToUndo c = some true → ExcC G.K (G.cls c)
  xfc_NothingToUndo : ∀ c, xm_NothingToUndo c = some true → XfC G.K (G.cls c)
  xn_Barred_reason : ∀ c, xm_Barred c = some true → PySem.W.findIn G.K (.ref (G.cls c)) "reason" = some none
  xt_reason : ∀ c, xh_reason c = true → G.xf c = some "reason" ∧ PySem.W.findIn G.K (.ref (G.cls c)) "reason" = some none
  io_Yard : IsoOk G.K mg G "Yard"
section
variable {P : Program} {w : World} {mg : Str → Option Value} {base : Heap} {G : Gc}
theorem ok_InvalidNumber_init {f : Addr} {fd : FuncData} (F : Fun G.K "__init__" "InvalidNumber.__init__" s_InvalidNumber_init f fd) : FnOk P w G.K mg base (L2.CX P w) 1 f fd ["self", "given"] (spIni G.K "given") :=
  F.okX sc_InvalidNumber_init (fun vs H Q E h => by obtain ⟨a, C, y, rfl, _⟩ := h; rfl) fun cdv A outer s H vs Q E hr h => by
    obtain ⟨a, C, y, rfl, h1, h2, h3, h4⟩ := h
    exact ⟨_, pss_one (ps_ost (pv 0) (pv 1)), _, rfl, _, rfl, a, C, rfl, h1, h2, .inl ⟨h3, fun dx h5 h6 => h4 dx h5 h6⟩⟩
theorem ok_InvalidLine_init {f : Addr} {fd : FuncData} (F : Fun G.K "__init__" "InvalidLine.__init__" s_InvalidLine_init f fd) : FnOk P w G.K mg base (L2.CX P w) 1 f fd ["self", "given"] (spIni G.K "given") :=
  F.okX sc_InvalidLine_init (fun vs H Q E h => by obtain ⟨a, C, y, rfl, _⟩ := h; rfl) fun cdv A outer s H vs Q E hr h => by
    obtain ⟨a, C, y, rfl, h1, h2, h3, h4⟩ := h
    exact ⟨_, pss_one (ps_ost (pv 0) (pv 1)), _, rfl, _, rfl, a, C, rfl, h1, h2, .inl ⟨h3, fun dx h5 h6 => h4 dx h5 h6⟩⟩
theorem ok_NotAYard_init {f : Addr} {fd : FuncData} (F : Fun G.K "__init__" "NotAYard.__init__" s_NotAYard_init f fd) : FnOk P w G.K mg base (L2.CX P w) 1 f fd ["self", "given"] (spIni G.K "given") :=
  F.okX sc_NotAYard_init (fun vs H Q E h => by obtain ⟨a, C, y, rfl, _⟩ := h; rfl) fun cdv A outer s H vs Q E hr h => by
    obtain ⟨a, C, y, rfl, h1, h2, h3, h4⟩ := h
    exact ⟨_, pss_one (ps_ost (pv 0) (pv 1)), _, rfl, _, rfl, a, C, rfl, h1, h2, .inl ⟨h3, fun dx h5 h6 => h4 dx h5 h6⟩⟩
theorem ok_InvalidDeed_init {f : Addr} {fd : FuncData} (F : Fun G.K "__init__" "InvalidDeed.__init__" s_InvalidDeed_init f fd) : FnOk P w G.K mg base (L2.CX P w) 1 f fd ["self", "index"] (spIni G.K "index") :=
  F.okX sc_InvalidDeed_init (fun vs H Q E h => by obtain ⟨a, C, y, rfl, _⟩ := h; rfl) fun cdv A outer s H vs Q E hr h => by
    obtain ⟨a, C, y, rfl, h1, h2, h3, h4⟩ := h
    exact ⟨_, pss_one (ps_ost (pv 0) (pv 1)), _, rfl, _, rfl, a, C, rfl, h1, h2, .inl ⟨h3, fun dx h5 h6 => h4 dx h5 h6⟩⟩
theorem ok_Barred_init {f : Addr} {fd : FuncData} (F : Fun G.K "__init__" "Barred.__init__" s_Barred_init f fd) : FnOk P w G.K mg base (L2.CX P w) 1 f fd ["self", "reason"] (spIni G.K "reason") :=
  F.okX sc_Barred_init (fun vs H Q E h => by obtain ⟨a, C, y, rfl, _⟩ := h; rfl) fun cdv A outer s H vs Q E hr h => by
    obtain ⟨a, C, y, rfl, h1, h2, h3, h4⟩ := h
    exact ⟨_, pss_one (ps_ost (pv 0) (pv 1)), _, rfl, _, rfl, a, C, rfl, h1, h2, .inl ⟨h3, fun dx h5 h6 => h4 dx h5 h6⟩⟩
theorem ok_check_yard {f : Addr} {fd : FuncData} (F : Fun G.K "check_yard" "check_yard" s_check_yard f fd) (T : Txt P w mg base G) : FnG P w G.K mg base 3 f fd ["value"] (spM G 1 m_check_yard) :=
  defk 2 1 1 m_check_yard b_check_yard rfl rfl rfl F sc_check_yard fun cdv A outer s H E hr => psd_one (psd_if (ptd_not (ptd_val (pd_isO T.io_Yard T.b_isinstance (pd_var 0)))) (psd_one (psd_raise T.x_NotAYard (hr.mono (by decide)) (takes_of rfl rfl rfl rfl) (pd_var 0) (hpx := passX0))) (psd_nil))
theorem ok_is_string {f : Addr} {fd : FuncData} (F : Fun G.K "is_string" "is_string" s_is_string f fd) (T : Txt P w mg base G) : FnG P w G.K mg base 1 f fd ["value"] (spM G 1 m_is_string) :=
  defk 0 1 1 m_is_string b_is_string rfl rfl rfl F sc_is_string fun cdv A outer s H E hr => psd_one (psd_ret (pd_isi T.b_isinstance (pd_var 0) T.b_str))
theorem ok_has_form {f : Addr} {fd : FuncData} (F : Fun G.K "has_form" "has_form" s_has_form f fd) (T : Txt P w mg base G) (c_is_string : CallOk P w G.K mg base G "is_string" 1 1 m_is_string) : FnG P w G.K mg base 2 f fd ["value"] (spM G 1 m_has_form) :=
  defk 1 1 1 m_has_form b_has_form rfl rfl rfl F sc_has_form fun cdv A outer s H E hr => psd_cons (psd_if (ptd_of (pwd_or (ptd_not (ptd_val (pd_isi T.b_isinstance (pd_var 0) T.b_tuple))) (pwd_or (ptd_cmp (or_eq (hu64 hr)) (pd_callB cr_len T.b_len (pda_cons (pd_var 0) (pda_nil))) (pd_int)) (pwd_or1 (ptd_not (ptd_val (pdc_call c_is_string (hr.mono (by decide)) (takes_of rfl rfl rfl rfl) (pda_cons (pd_ix ir_ix (pd_var 0) (pd_int)) (pda_nil))))))))) (psd_one (psd_ret (pd_bl))) (psd_nil)) (psd_one (psd_ret (pd_and (pd_inDct T.d_SIZES (pd_ix ir_ix (pd_var 0) (pd_int))) (pd_one (pd_cmp (or_eq (hu64 hr)) (pd_callB cr_len T.b_len (pda_cons (pd_var 0) (pda_nil))) (pd_ixDct T.d_SIZES (pd_ix ir_ix (pd_var 0) (pd_int))))))))
theorem ok_is_whole {f : Addr} {fd : FuncData} (F : Fun G.K "is_whole" "is_whole" s_is_whole f fd) (T : Txt P w mg base G) : FnG P w G.K mg base 1 f fd ["value"] (spM G 1 m_is_whole) :=
  defk 0 1 1 m_is_whole b_is_whole rfl rfl rfl F sc_is_whole fun cdv A outer s H E hr => psd_one (psd_ret (pd_and (pd_isi T.b_isinstance (pd_var 0) T.b_int) (pd_one (pd_not (pd_isi T.b_isinstance (pd_var 0) T.b_bool)))))
theorem ok_is_between {f : Addr} {fd : FuncData} (F : Fun G.K "is_between" "is_between" s_is_between f fd) (T : Txt P w mg base G) (c_is_whole : CallOk P w G.K mg base G "is_whole" 1 1 m_is_whole) : FnG P w G.K mg base 2 f fd ["value", "least", "most"] (spM G 3 m_is_between) :=
  defk 1 3 3 m_is_between b_is_between rfl rfl rfl F sc_is_between fun cdv A outer s H E hr => psd_one (psd_ret (pd_and (pdc_call c_is_whole (hr.mono (by decide)) (takes_of rfl rfl rfl rfl) (pda_cons (pd_var 0) (pda_nil))) (pd_one (pd_chain or_le or_le (pd_var 1) (pd_var 0) (pd_var 2)))))
theorem ok_is_place_of {f : Addr} {fd : FuncData} (F : Fun G.K "is_place_of" "is_place_of" s_is_place_of f fd) (T : Txt P w mg base G) (c_is_between : CallOk P w G.K mg base G "is_between" 2 3 m_is_between) : FnG P w G.K mg base 3 f fd ["space", "value"] (spM G 2 m_is_place_of) :=
  defk 2 2 2 m_is_place_of b_is_place_of rfl rfl rfl F sc_is_place_of fun cdv A outer s H E hr => psd_one (psd_ret (pdc_call c_is_between (hr.mono (by decide)) (takes_of rfl rfl rfl rfl) (pda_cons (pd_var 1) (pda_cons (pd_int) (pda_cons (pd_op or_sub (pd_callB cr_len T.b_len (pda_cons (pd_var 0) (pda_nil))) (pd_int)) (pda_nil))))))
theorem ok_check_deed {f : Addr} {fd : FuncData} (F : Fun G.K "check_deed" "check_deed" s_check_deed f fd) (T : Txt P w mg base G) (c_has_form : CallOk P w G.K mg base G "has_form" 2 1 m_has_form) (c_is_place_of : CallOk P w G.K mg base G "is_place_of" 3 2 m_is_place_of) : FnG P w G.K mg base 4 f fd ["space", "value"] (spM G 2 m_check_deed) :=
  defk 3 2 2 m_check_deed b_check_deed rfl rfl rfl F sc_check_deed fun cdv A outer s H E hr => psd_cons (psd_if (ptd_not (ptd_val (pdc_call c_has_form (hr.mono (by decide)) (takes_of rfl rfl rfl rfl) (pda_cons (pd_var 1) (pda_nil))))) (psd_one (psd_raise T.x_InvalidDeed (hr.mono (by decide)) (takes_of rfl rfl rfl rfl) (pd_int) (hpx := passX0))) (psd_nil)) (psd_cons (psd_if (ptd_not (ptd_val (pdc_call c_is_place_of (hr.mono (by decide)) (takes_of rfl rfl rfl rfl) (pda_cons (pd_var 0) (pda_cons (pd_ix ir_ix (pd_var 1) (pd_int)) (pda_nil)))))) (psd_one (psd_raise T.x_InvalidDeed (hr.mono (by decide)) (takes_of rfl rfl rfl rfl) (pd_int) (hpx := passX0))) (psd_nil)) (psd_one (psd_if (ptd_of (pwd_or (ptd_not (ptd_val (pdc_call c_is_place_of (hr.mono (by decide)) (takes_of rfl rfl rfl rfl) (pda_cons (pd_var 0) (pda_cons (pd_ix ir_ix (pd_var 1) (pd_int)) (pda_nil)))))) (pwd_or1 (ptd_cmp (or_eq (hu64 hr)) (pd_ix ir_ix (pd_var 1) (pd_int)) (pd_ix ir_ix (pd_var 1) (pd_int)))))) (psd_one (psd_raise T.x_InvalidDeed (hr.mono (by decide)) (takes_of rfl rfl rfl rfl) (pd_int) (hpx := passX0))) (psd_nil))))
theorem ok_is_near_by {f : Addr} {fd : FuncData} (F : Fun G.K "is_near_by" "is_near_by" s_is_near_by f fd) (T : Txt P w mg base G) : FnG P w G.K mg base 1 f fd ["space", "place", "near_to"] (spM G 3 m_is_near_by) :=
  defk 0 3 3 m_is_near_by b_is_near_by rfl rfl rfl F sc_is_near_by fun cdv A outer s H E hr => psd_one (psd_ret (pd_cmp or_in (pd_var 1) (pd_ix ir_ix (pd_var 0) (pd_var 2))))
theorem ok_places_of {f : Addr} {fd : FuncData} (F : Fun G.K "places_of" "places_of" s_places_of f fd) (T : Txt P w mg base G) : FnG P w G.K mg base 1 f fd ["space"] (spM G 1 m_places_of) :=
  defk 0 1 1 m_places_of b_places_of rfl rfl rfl F sc_places_of fun cdv A outer s H E hr => psd_one (psd_ret (pd_frz (pdf_listRange T.b_list T.b_range (pd_callB cr_len T.b_len (pda_cons (pd_var 0) (pda_nil))))))
theorem ok_has_between {f : Addr} {fd : FuncData} (F : Fun G.K "has_between" "has_between" s_has_between f fd) (T : Txt P w mg base G) (c_is_near_by : CallOk P w G.K mg base G "is_near_by" 1 3 m_is_near_by) (c_places_of : CallOk P w G.K mg base G "places_of" 1 1 m_places_of) : FnG P w G.K mg base 2 f fd ["space", "one", "other"] (spM G 3 m_has_between) :=
  defk 1 3 5 m_has_between b_has_between rfl rfl rfl F sc_has_between fun cdv A outer s H E hr => psd_cons (psd_lc (i := 3) (own := [("place", 4)]) rfl sc_has_between.nd (pid_list (pdc_call c_places_of (hr.mono (by decide)) (takes_of rfl rfl rfl rfl) (pda_cons (pd_var 0) (pda_nil)))) (blkOk_by (by kernel_rfl)) (fun _ _ _ _ _ => pgd_name (i := 4) sc_has_between.nd) (fun _ _ _ _ _ => ptsd_one (ptd_cmp or_notin (pd_var 4) (pd_tup (pda_cons (pd_var 1) (pda_cons (pd_var 2) (pda_nil)))))) (fun _ _ _ _ _ => pd_var 4)) (psd_one (psd_ret (pd_callB (cr_anyD rfl) T.b_any (pda_cons (pd_frz (pd_lc (own := [("place", 4)]) rfl sc_has_between.nd (pid_list (pd_var 3)) (blkOk_by (by kernel_rfl)) (fun _ _ _ _ _ => pgd_name (i := 4) sc_has_between.nd) (fun _ _ _ _ _ => ptsd_nil) (fun _ _ _ _ _ => pd_and (pdc_call c_is_near_by (hr.mono (by decide)) takes0 (pda_cons (pd_var 0) (pda_cons (pd_var 4) (pda_cons (pd_var 2) (pda_nil))))) (pd_one (pdc_call c_is_near_by (hr.mono (by decide)) takes0 (pda_cons (pd_var 0) (pda_cons (pd_var 1) (pda_cons (pd_var 4) (pda_nil))))))))) (pda_nil)))))
theorem ok_reason_against {f : Addr} {fd : FuncData} (F : Fun G.K "reason_against" "reason_against" s_reason_against f fd) (T : Txt P w mg base G) (c_has_between : CallOk P w G.K mg base G "has_between" 2 3 m_has_between) (c_is_near_by : CallOk P w G.K mg base G "is_near_by" 1 3 m_is_near_by) : FnG P w G.K mg base 3 f fd ["space", "deed"] (spM G 2 m_reason_against) :=
  defk 2 2 5 m_reason_against b_reason_against rfl rfl rfl F sc_reason_against fun cdv A outer s H E hr => psd_cons (psm_asg (pd_var 1) (pgm_tup rfl (pgm_cons (pgm_name (i := 2) sc_reason_against.nd) (pgm_cons (pgm_name (i := 3) sc_reason_against.nd) (pgm_cons (pgm_name (i := 4) sc_reason_against.nd) (pgm_nil)))))) (psd_cons (psd_if (ptd_cmp (or_eq (hu64 hr)) (pd_var 2) (pd_str)) (psd_one (psd_ret (pd_if (ptd_val (pdc_call c_is_near_by (hr.mono (by decide)) (takes_of rfl rfl rfl rfl) (pda_cons (pd_var 0) (pda_cons (pd_var 3) (pda_cons (pd_var 4) (pda_nil)))))) (pd_gstrE T.g_SAME) (pd_non)))) (psd_nil)) (psd_cons (psd_if (ptd_not (ptd_val (pdc_call c_is_near_by (hr.mono (by decide)) (takes_of rfl rfl rfl rfl) (pda_cons (pd_var 0) (pda_cons (pd_var 3) (pda_cons (pd_var 4) (pda_nil))))))) (psd_one (psd_ret (pd_gstrE T.g_NONE_yards))) (psd_nil)) (psd_one (psd_ret (pd_if (ptd_val (pdc_call c_has_between (hr.mono (by decide)) (takes_of rfl rfl rfl rfl) (pda_cons (pd_var 0) (pda_cons (pd_var 3) (pda_cons (pd_var 4) (pda_nil)))))) (pd_gstrE T.g_THROUGH) (pd_non))))))
theorem ok_union_of {f : Addr} {fd : FuncData} (F : Fun G.K "union_of" "union_of" s_union_of f fd) (T : Txt P w mg base G) : FnG P w G.K mg base 1 f fd ["lot", "other"] (spM G 2 m_union_of) :=
  defk 0 2 2 m_union_of b_union_of rfl rfl rfl F sc_union_of fun cdv A outer s H E hr => psd_one (psd_ret (pd_callT cr_tuple T.b_tuple (pda_cons (pd_frz (pdf_sortedSet T.b_sorted T.b_set (pd_op or_add (pd_var 0) (pd_var 1)))) (pda_nil))))
theorem ok_without {f : Addr} {fd : FuncData} (F : Fun G.K "without" "without" s_without f fd) (T : Txt P w mg base G) : FnG P w G.K mg base 1 f fd ["reach", "place"] (spM G 2 m_without) :=
  defk 0 2 3 m_without b_without rfl rfl rfl F sc_without fun cdv A outer s H E hr => psd_one (psd_ret (pd_callT cr_tuple T.b_tuple (pda_cons (pd_frz (pd_lc (own := [("near", 2)]) rfl sc_without.nd (pid_tup (pd_var 0)) (blkOk_by (by kernel_rfl)) (fun _ _ _ _ _ => pgd_name (i := 2) sc_without.nd) (fun _ _ _ _ _ => ptsd_one (ptd_cmp (or_ne (hu64 hr)) (pd_var 2) (pd_var 1))) (fun _ _ _ _ _ => pd_var 2))) (pda_nil))))
theorem ok_space_behind {f : Addr} {fd : FuncData} (F : Fun G.K "space_behind" "space_behind" s_space_behind f fd) (T : Txt P w mg base G) (c_union_of : CallOk P w G.K mg base G "union_of" 1 2 m_union_of) (c_without : CallOk P w G.K mg base G "without" 1 2 m_without) : FnG P w G.K mg base 2 f fd ["space", "deed"] (spM G 2 m_space_behind) :=
  defk 1 2 7 m_space_behind b_space_behind rfl rfl rfl F sc_space_behind fun cdv A outer s H E hr => psd_cons (psm_asg (pd_var 1) (pgm_tup rfl (pgm_cons (pgm_name (i := 2) sc_space_behind.nd) (pgm_cons (pgm_name (i := 3) sc_space_behind.nd) (pgm_cons (pgm_name (i := 4) sc_space_behind.nd) (pgm_nil)))))) (psd_cons (psd_if (ptd_cmp (or_eq (hu64 hr)) (pd_var 2) (pd_str)) (psd_one (psd_ret (pd_callT cr_tuple T.b_tuple (pda_cons (pd_frz (pd_lc (own := [("reach", 5)]) rfl sc_space_behind.nd (pid_tup (pd_var 0)) (blkOk_by (by kernel_rfl)) (fun _ _ _ _ _ => pgd_name (i := 5) sc_space_behind.nd) (fun _ _ _ _ _ => ptsd_nil) (fun _ _ _ _ _ => pd_if (ptd_cmp or_in (pd_var 4) (pd_var 5)) (pdc_call c_union_of (hr.mono (by decide)) takes0 (pda_cons (pd_var 5) (pda_cons (pd_ix ir_ix (pd_var 0) (pd_var 3)) (pda_nil)))) (pd_var 5)))) (pda_nil))))) (psd_nil)) (psd_one (psd_ret (pd_callT cr_tuple T.b_tuple (pda_cons (pd_frz (pd_lc (own := [("place", 6), ("reach", 5)]) rfl sc_space_behind.nd (pid_enumT T.b_enumerate (pd_var 0)) (blkOk_by (by kernel_rfl)) (fun _ _ _ _ _ => pgd_tup rfl rfl (pgd_cons (pgd_name (i := 6) sc_space_behind.nd) (pgd_cons (pgd_name (i := 5) sc_space_behind.nd) (pgd_nil)))) (fun _ _ _ _ _ => ptsd_nil) (fun _ _ _ _ _ => pd_if (ptd_cmp (or_eq (hu64 hr)) (pd_var 6) (pd_var 4)) (pdc_call c_without (hr.mono (by decide)) takes0 (pda_cons (pd_var 5) (pda_cons (pd_var 3) (pda_nil)))) (pd_var 5)))) (pda_nil))))))
theorem ok_Yard_do {f : Addr} {fd : FuncData} (F : Fun G.K "do" "Yard.do" s_Yard_do f fd) (T : Txt P w mg base G) (c_check_deed : CallOk P w G.K mg base G "check_deed" 4 2 m_check_deed) (c_reason_against : CallOk P w G.K mg base G "reason_against" 3 2 m_reason_against) (c_space_behind : CallOk P w G.K mg base G "space_behind" 2 2 m_space_behind) : FnG P w G.K mg base 5 f fd ["self", "deed"] (spM G 2 m_Yard_do) :=
  defk 4 2 3 m_Yard_do b_Yard_do rfl rfl rfl F sc_Yard_do fun cdv A outer s H E hr => psd_cons (psd_expr (pdc_call c_check_deed (hr.mono (by decide)) (takes_of rfl rfl rfl rfl) (pda_cons (pdc_fld T.f_Yard_space (pd_var 0)) (pda_cons (pd_var 1) (pda_nil))))) (psd_cons (psd_set (i := 2) sc_Yard_do.nd (pdc_call c_reason_against (hr.mono (by decide)) (takes_of rfl rfl rfl rfl) (pda_cons (pdc_fld T.f_Yard_space (pd_var 0)) (pda_cons (pd_var 1) (pda_nil))))) (psd_cons (psd_if (ptd_cmp or_notN (pd_var 2) (pd_non)) (psd_one (psd_raise T.x_Barred (hr.mono (by decide)) (takes_of rfl rfl rfl rfl) (pd_var 2) (hpx := passX0))) (psd_nil)) (psd_cons (psd_expr (pd_app (pdc_fld T.f_Yard_past (pd_var 0)) (pdc_fld T.f_Yard_space (pd_var 0)))) (psd_cons (psdc_fld T.f_Yard_space (pd_var 0) (pdc_call c_space_behind (hr.mono (by decide)) (takes_of rfl rfl rfl rfl) (pda_cons (pdc_fld T.f_Yard_space (pd_var 0)) (pda_cons (pd_var 1) (pda_nil))))) (psd_one (psdc_fld T.f_Yard_deeds (pd_var 0) (pd_op or_add (pdc_fld T.f_Yard_deeds (pd_var 0)) (pd_tup (pda_cons (pd_var 1) (pda_nil))))))))))
theorem ok_single_space {f : Addr} {fd : FuncData} (F : Fun G.K "single_space" "single_space" s_single_space f fd) (T : Txt P w mg base G) : FnG P w G.K mg base 1 f fd ["places"] (spM G 1 m_single_space) :=
  defk 0 1 2 m_single_space b_single_space rfl rfl rfl F sc_single_space fun cdv A outer s H E hr => psd_one (psd_ret (pd_callT cr_tuple T.b_tuple (pda_cons (pd_frz (pd_lc (own := [("place", 1)]) rfl sc_single_space.nd (pid_range1 T.b_range (pd_var 0)) (blkOk_by (by kernel_rfl)) (fun _ _ _ _ _ => pgd_name (i := 1) sc_single_space.nd) (fun _ _ _ _ _ => ptsd_nil) (fun _ _ _ _ _ => pd_tup (pda_cons (pd_var 1) (pda_nil))))) (pda_nil))))
theorem ok_Yard_init {f : Addr} {fd : FuncData} (F : Fun G.K "__init__" "Yard.__init__" s_Yard_init f fd) (T : Txt P w mg base G) (c_is_between : CallOk P w G.K mg base G "is_between" 2 3 m_is_between) (c_single_space : CallOk P w G.K mg base G "single_space" 1 1 m_single_space) : FnG P w G.K mg base 3 f fd ["self", "places"] (spM G 2 m_Yard_init) :=
  defk 2 2 2 m_Yard_init b_Yard_init rfl rfl rfl F sc_Yard_init fun cdv A outer s H E hr => psd_cons (psd_if (ptd_not (ptd_val (pdc_call c_is_between (hr.mono (by decide)) (takes_of rfl rfl rfl rfl) (pda_cons (pd_var 1) (pda_cons (pd_int) (pda_cons (pd_gintE T.g_MOST_PLACES) (pda_nil))))))) (psd_one (psd_raise T.x_InvalidNumber (hr.mono (by decide)) (takes_of rfl rfl rfl rfl) (pd_var 1) (hpx := passX0))) (psd_nil)) (psd_cons (psdc_fld T.f_Yard_places (pd_var 0) (pd_var 1)) (psd_cons (psdc_fld T.f_Yard_space (pd_var 0) (pdc_call c_single_space (hr.mono (by decide)) (takes_of rfl rfl rfl rfl) (pda_cons (pd_var 1) (pda_nil)))) (psd_cons (psdc_fld T.f_Yard_deeds (pd_var 0) (pd_tup (pda_nil))) (psd_one (psdc_fld T.f_Yard_past (pd_var 0) (pd_cel (pdf_lst (pda_nil))))))))
theorem ok_copy_of {f : Addr} {fd : FuncData} (F : Fun G.K "copy_of" "copy_of" s_copy_of f fd) (T : Txt P w mg base G) (c_Yard_do : MethOk P w G.K mg base G "Yard" "do" 5 2 m_Yard_do) (c_Yard_init : MakeOk P w G.K mg base G "Yard" 3 2 m_Yard_init) : FnG P w G.K mg base 6 f fd ["yard"] (spM G 1 m_copy_of) :=
  defk 5 1 3 m_copy_of b_copy_of rfl rfl rfl F sc_copy_of fun cdv A outer s H E hr => psd_cons (psd_set (i := 1) sc_copy_of.nd (pdc_make c_Yard_init (hr.mono (by decide)) (takes_of rfl rfl rfl rfl) (pda_cons (pdc_fld T.f_Yard_places (pd_var 0)) (pda_nil)))) (psd_cons (psd_for (passes_of rfl) rfl (pid_tup (pdc_fld T.f_Yard_deeds (pd_var 0))) (pgd_name (i := 2) sc_copy_of.nd) (psd_one (psd_expr (pdc_meth c_Yard_do (hr.mono (by decide)) (takes_of rfl rfl rfl rfl) (pd_var 1) (pda_cons (pd_var 2) (pda_nil)))))) (psd_one (psd_ret (pd_var 1))))
theorem ok_Console_init {f : Addr} {fd : FuncData} (F : Fun G.K "__init__" "Console.__init__" s_Console_init f fd) (T : Txt P w mg base G) (c_check_yard : CallOk P w G.K mg base G "check_yard" 3 1 m_check_yard) (c_copy_of : CallOk P w G.K mg base G "copy_of" 6 1 m_copy_of) : FnG P w G.K mg base 7 f fd ["self", "yard"] (spM G 2 m_Console_init) :=
  defk 6 2 2 m_Console_init b_Console_init rfl rfl rfl F sc_Console_init fun cdv A outer s H E hr => psd_cons (psd_expr (pdc_call c_check_yard (hr.mono (by decide)) (takes_of rfl rfl rfl rfl) (pda_cons (pd_var 1) (pda_nil)))) (psd_one (psdc_fld T.f_Console_yard (pd_var 0) (pdc_call c_copy_of (hr.mono (by decide)) (takes_of rfl rfl rfl rfl) (pda_cons (pd_var 1) (pda_nil)))))
theorem ok_is_made_of {f : Addr} {fd : FuncData} (F : Fun G.K "is_made_of" "is_made_of" s_is_made_of f fd) (T : Txt P w mg base G) : FnG P w G.K mg base 1 f fd ["text", "signs"] (spM G 2 m_is_made_of) :=
  defk 0 2 3 m_is_made_of b_is_made_of rfl rfl rfl F sc_is_made_of fun cdv A outer s H E hr => psd_one (psd_ret (pd_and (pd_cmp (or_ne (hu64 hr)) (pd_var 0) (pd_str)) (pd_one (pd_callB (cr_allD rfl) T.b_all (pda_cons (pd_frz (pd_lc (own := [("sign", 2)]) rfl sc_is_made_of.nd (pid_str (pd_var 0)) (blkOk_by (by kernel_rfl)) (fun _ _ _ _ _ => pgd_name (i := 2) sc_is_made_of.nd) (fun _ _ _ _ _ => ptsd_nil) (fun _ _ _ _ _ => pd_cmp or_inS (pd_var 2) (pd_var 1)))) (pda_nil))))))
theorem ok_number_in {f : Addr} {fd : FuncData} (F : Fun G.K "number_in" "number_in" s_number_in f fd) (T : Txt P w mg base G) (c_is_made_of : CallOk P w G.K mg base G "is_made_of" 1 2 m_is_made_of) : FnG P w G.K mg base 2 f fd ["word"] (spM G 1 m_number_in) :=
  defk 1 1 3 m_number_in b_number_in rfl rfl rfl F sc_number_in fun cdv A outer s H E hr => psd_cons (psd_if (ptd_of (pwd_or (ptd_not (ptd_val (pdc_call c_is_made_of (hr.mono (by decide)) (takes_of rfl rfl rfl rfl) (pda_cons (pd_var 0) (pda_cons (pd_gstrE T.g_FIGURES) (pda_nil)))))) (pwd_or1 (ptd_of (pwd_and (ptd_cmp or_gt (pd_callB cr_len T.b_len (pda_cons (pd_var 0) (pda_nil))) (pd_int)) (pwd_and1 (ptd_cmp (or_eq (hu64 hr)) (pd_ix ir_ix (pd_var 0) (pd_int)) (pd_str)))))))) (psd_one (psd_ret (pd_non))) (psd_nil)) (psd_cons (psd_set (i := 1) sc_number_in.nd (pd_int)) (psd_cons (psd_for (passes_of rfl) rfl (pid_str (pd_var 0)) (pgd_name (i := 2) sc_number_in.nd) (psd_one (psd_set (i := 1) sc_number_in.nd (pd_op or_add (pd_op or_mul (pd_int) (pd_var 1)) (pd_sidx rfl (takes_of rfl rfl rfl rfl) (pd_gstrE T.g_FIGURES) (pd_var 2)))))) (psd_one (psd_ret (pd_var 1)))))
theorem ok_numbers_in {f : Addr} {fd : FuncData} (F : Fun G.K "numbers_in" "numbers_in" s_numbers_in f fd) (T : Txt P w mg base G) (c_number_in : CallOk P w G.K mg base G "number_in" 2 1 m_number_in) : FnG P w G.K mg base 3 f fd ["words"] (spM G 1 m_numbers_in) :=
  defk 2 1 3 m_numbers_in b_numbers_in rfl rfl rfl F sc_numbers_in fun cdv A outer s H E hr => psd_cons (psd_set (i := 1) sc_numbers_in.nd (pd_callT cr_tuple T.b_tuple (pda_cons (pd_frz (pd_lc (own := [("word", 2)]) rfl sc_numbers_in.nd (pid_list (pd_var 0)) (blkOk_by (by kernel_rfl)) (fun _ _ _ _ _ => pgd_name (i := 2) sc_numbers_in.nd) (fun _ _ _ _ _ => ptsd_nil) (fun _ _ _ _ _ => pdc_call c_number_in (hr.mono (by decide)) takes0 (pda_cons (pd_var 2) (pda_nil))))) (pda_nil)))) (psd_one (psd_ret (pd_if (ptd_cmp or_in (pd_non) (pd_var 1)) (pd_non) (pd_var 1))))
theorem ok_common_of {f : Addr} {fd : FuncData} (F : Fun G.K "common_of" "common_of" s_common_of f fd) (T : Txt P w mg base G) : FnG P w G.K mg base 1 f fd ["lot", "other"] (spM G 2 m_common_of) :=
  defk 0 2 3 m_common_of b_common_of rfl rfl rfl F sc_common_of fun cdv A outer s H E hr => psd_one (psd_ret (pd_callT cr_tuple T.b_tuple (pda_cons (pd_frz (pd_lc (own := [("place", 2)]) rfl sc_common_of.nd (pid_tup (pd_var 0)) (blkOk_by (by kernel_rfl)) (fun _ _ _ _ _ => pgd_name (i := 2) sc_common_of.nd) (fun _ _ _ _ _ => ptsd_one (ptd_cmp or_in (pd_var 2) (pd_var 1))) (fun _ _ _ _ _ => pd_var 2))) (pda_nil))))
theorem ok_closing_by {f : Addr} {fd : FuncData} (F : Fun G.K "closing_by" "closing_by" s_closing_by f fd) (T : Txt P w mg base G) (c_common_of : CallOk P w G.K mg base G "common_of" 1 2 m_common_of) (c_places_of : CallOk P w G.K mg base G "places_of" 1 1 m_places_of) : FnG P w G.K mg base 2 f fd ["space", "lot"] (spM G 2 m_closing_by) :=
  defk 1 2 3 m_closing_by b_closing_by rfl rfl rfl F sc_closing_by fun cdv A outer s H E hr => psd_one (psd_ret (pd_callT cr_tuple T.b_tuple (pda_cons (pd_frz (pd_lc (own := [("place", 2)]) rfl sc_closing_by.nd (pid_list (pdc_call c_places_of (hr.mono (by decide)) (takes_of rfl rfl rfl rfl) (pda_cons (pd_var 0) (pda_nil)))) (blkOk_by (by kernel_rfl)) (fun _ _ _ _ _ => pgd_name (i := 2) sc_closing_by.nd) (fun _ _ _ _ _ => ptsd_one (ptd_cmp (or_ne (hu64 hr)) (pdc_call c_common_of (hr.mono (by decide)) takes0 (pda_cons (pd_ix ir_ix (pd_var 0) (pd_var 2)) (pda_cons (pd_var 1) (pda_nil)))) (pd_tup (pda_nil)))) (fun _ _ _ _ _ => pd_var 2))) (pda_nil))))
theorem ok_is_lot_of {f : Addr} {fd : FuncData} (F : Fun G.K "is_lot_of" "is_lot_of" s_is_lot_of f fd) (T : Txt P w mg base G) (c_is_between : CallOk P w G.K mg base G "is_between" 2 3 m_is_between) : FnG P w G.K mg base 3 f fd ["places", "value"] (spM G 2 m_is_lot_of) :=
  defk 2 2 5 m_is_lot_of b_is_lot_of rfl rfl rfl F sc_is_lot_of fun cdv A outer s H E hr => psd_cons (psd_if (ptd_of (pwd_or (ptd_not (ptd_val (pd_isi T.b_isinstance (pd_var 1) T.b_tuple))) (pwd_or1 (ptd_not (ptd_val (pd_callB (cr_allD rfl) T.b_all (pda_cons (pd_frz (pd_lc (own := [("place", 2)]) rfl sc_is_lot_of.nd (pid_tup (pd_var 1)) (blkOk_by (by kernel_rfl)) (fun _ _ _ _ _ => pgd_name (i := 2) sc_is_lot_of.nd) (fun _ _ _ _ _ => ptsd_nil) (fun _ _ _ _ _ => pdc_call c_is_between (hr.mono (by decide)) takes0 (pda_cons (pd_var 2) (pda_cons (pd_int) (pda_cons (pd_op or_sub (pd_var 0) (pd_int)) (pda_nil))))))) (pda_nil)))))))) (psd_one (psd_ret (pd_bl))) (psd_nil)) (psd_one (psd_ret (pd_callB (cr_allD rfl) T.b_all (pda_cons (pd_frz (pd_lc (own := [("one", 3), ("other", 4)]) rfl sc_is_lot_of.nd (pid_zipT T.b_zip (pd_var 1) (pd_slice sr_tup (pd_var 1) (pod_some (pd_int)) (pod_none))) (blkOk_by (by kernel_rfl)) (fun _ _ _ _ _ => pgd_tup rfl rfl (pgd_cons (pgd_name (i := 3) sc_is_lot_of.nd) (pgd_cons (pgd_name (i := 4) sc_is_lot_of.nd) (pgd_nil)))) (fun _ _ _ _ _ => ptsd_nil) (fun _ _ _ _ _ => pd_cmp or_lt (pd_var 3) (pd_var 4)))) (pda_nil)))))
theorem ok_is_lot {f : Addr} {fd : FuncData} (F : Fun G.K "is_lot" "is_lot" s_is_lot f fd) (T : Txt P w mg base G) (c_is_lot_of : CallOk P w G.K mg base G "is_lot_of" 3 2 m_is_lot_of) : FnG P w G.K mg base 4 f fd ["space", "value"] (spM G 2 m_is_lot) :=
  defk 3 2 2 m_is_lot b_is_lot rfl rfl rfl F sc_is_lot fun cdv A outer s H E hr => psd_one (psd_ret (pdc_call c_is_lot_of (hr.mono (by decide)) (takes_of rfl rfl rfl rfl) (pda_cons (pd_callB cr_len T.b_len (pda_cons (pd_var 0) (pda_nil))) (pda_cons (pd_var 1) (pda_nil)))))
theorem ok_lot_text {f : Addr} {fd : FuncData} (F : Fun G.K "lot_text" "lot_text" s_lot_text f fd) (T : Txt P w mg base G) : FnG P w G.K mg base 1 f fd ["lot"] (spM G 1 m_lot_text) :=
  defk 0 1 2 m_lot_text b_lot_text rfl rfl rfl F sc_lot_text fun cdv A outer s H E hr => psd_one (psd_ret (pd_if (ptd_cmp (or_ne (hu64 hr)) (pd_var 0) (pd_tup (pda_nil))) (pd_join (pd_str) (pd_frz (pd_lc (own := [("place", 1)]) rfl sc_lot_text.nd (pid_tup (pd_var 0)) (blkOk_by (by kernel_rfl)) (fun _ _ _ _ _ => pgd_name (i := 1) sc_lot_text.nd) (fun _ _ _ _ _ => ptsd_nil) (fun _ _ _ _ _ => pd_callT cr_strI T.b_str (pda_cons (pd_var 1) (pda_nil)))))) (pd_gstrE T.g_NOBODY)))
theorem ok_said_of_closing {f : Addr} {fd : FuncData} (F : Fun G.K "said_of_closing" "said_of_closing" s_said_of_closing f fd) (T : Txt P w mg base G) (c_closing_by : CallOk P w G.K mg base G "closing_by" 2 2 m_closing_by) (c_is_lot : CallOk P w G.K mg base G "is_lot" 4 2 m_is_lot) (c_lot_text : CallOk P w G.K mg base G "lot_text" 1 1 m_lot_text) : FnG P w G.K mg base 5 f fd ["yard", "lot"] (spM G 2 m_said_of_closing) :=
  defk 4 2 2 m_said_of_closing b_said_of_closing rfl rfl rfl F sc_said_of_closing fun cdv A outer s H E hr => psd_one (psd_ret (pd_if (ptd_val (pdc_call c_is_lot (hr.mono (by decide)) (takes_of rfl rfl rfl rfl) (pda_cons (pdc_fld T.f_Yard_space (pd_var 0)) (pda_cons (pd_var 1) (pda_nil))))) (pdc_call c_lot_text (hr.mono (by decide)) (takes_of rfl rfl rfl rfl) (pda_cons (pdc_call c_closing_by (hr.mono (by decide)) (takes_of rfl rfl rfl rfl) (pda_cons (pdc_fld T.f_Yard_space (pd_var 0)) (pda_cons (pd_var 1) (pda_nil)))) (pda_nil))) (pd_gstrE T.g_LOST)))
theorem hd_said_of_deed_0_ind : ∀ (a : Addr) (dx : Option Addr) (c : Str) (d : Da) (ρ : En) (S : Store), wipeRS 2 (hd_said_of_deed_0 a dx c (ρ.set 2 (some (.exc a dx c d))) S) = wipeRS 2 (hd_said_of_deed_0 0 none c (ρ.set 2 (some (.exc 0 none c d))) S) := by
  intro a dx c d ρ S
  unfold hd_said_of_deed_0
  by_cases h : 2 < ρ.length
  · simp only [retS, xfM_at, if_pos h]
    cases xh_reason c <;> simp [Res.thenS, wipeRS]
  · simp [retS, xfM_at, h, Res.thenS, wipeRS]
theorem hd_said_of_deed_1_ind : ∀ (a : Addr) (dx : Option Addr) (c : Str) (ρ : En) (S : Store), hd_said_of_deed_1 a dx c ρ S = hd_said_of_deed_1 0 none c ρ S := fun _ _ _ _ _ => rfl
theorem ok_said_of_deed {f : Addr} {fd : FuncData} (F : Fun G.K "said_of_deed" "said_of_deed" s_said_of_deed f fd) (T : Txt P w mg base G) (c_Yard_do : MethOk P w G.K mg base G "Yard" "do" 5 2 m_Yard_do) : FnG P w G.K mg base 6 f fd ["yard", "deed"] (spM G 2 m_said_of_deed) :=
  defk 5 2 3 m_said_of_deed b_said_of_deed rfl rfl rfl F sc_said_of_deed fun cdv A outer s H E hr => psd_cons (psd_trys sc_said_of_deed.nd (takes_of rfl rfl rfl rfl) (DCl.bare ⟨rfl, by decide, .inl T.nm_InvalidDeed⟩ T.qm_InvalidDeed (fun a oe c dx pn hm hz hf => psd_one (psd_ret (pd_gstrE T.g_LOST))) hd_said_of_deed_1_ind (DCl.held (i := 2) rfl rfl ⟨rfl, by decide, .inl T.nm_Barred⟩ T.qm_Barred (fun a oe c dx pn hm hz hf => psd_one (psd_ret (pd_xf (i := 2) (T.xfc_Barred c hm) hz hf (T.xt_reason c) (T.xn_Barred_reason c hm)))) hd_said_of_deed_0_ind DCl.nil)) (fun _ _ _ tk po => psd_one (psd_expr (pdc_meth c_Yard_do (hr.mono (by decide)) tk (pd_var 0) (pda_cons (pd_var 1) (pda_nil)))))) (psd_one (psd_ret (pd_gstrE T.g_DONE)))
theorem ok_said_of_reach {f : Addr} {fd : FuncData} (F : Fun G.K "said_of_reach" "said_of_reach" s_said_of_reach f fd) (T : Txt P w mg base G) (c_is_place_of : CallOk P w G.K mg base G "is_place_of" 3 2 m_is_place_of) (c_lot_text : CallOk P w G.K mg base G "lot_text" 1 1 m_lot_text) : FnG P w G.K mg base 4 f fd ["yard", "place"] (spM G 2 m_said_of_reach) :=
  defk 3 2 2 m_said_of_reach b_said_of_reach rfl rfl rfl F sc_said_of_reach fun cdv A outer s H E hr => psd_one (psd_ret (pd_if (ptd_val (pdc_call c_is_place_of (hr.mono (by decide)) (takes_of rfl rfl rfl rfl) (pda_cons (pdc_fld T.f_Yard_space (pd_var 0)) (pda_cons (pd_var 1) (pda_nil))))) (pdc_call c_lot_text (hr.mono (by decide)) (takes_of rfl rfl rfl rfl) (pda_cons (pd_ix ir_ix (pdc_fld T.f_Yard_space (pd_var 0)) (pd_var 1)) (pda_nil))) (pd_gstrE T.g_NONE_consoles)))
theorem ok_are_tied {f : Addr} {fd : FuncData} (F : Fun G.K "are_tied" "are_tied" s_are_tied f fd) (T : Txt P w mg base G) (c_is_near_by : CallOk P w G.K mg base G "is_near_by" 1 3 m_is_near_by) : FnG P w G.K mg base 2 f fd ["space", "one", "other"] (spM G 3 m_are_tied) :=
  defk 1 3 3 m_are_tied b_are_tied rfl rfl rfl F sc_are_tied fun cdv A outer s H E hr => psd_one (psd_ret (pd_or (pdc_call c_is_near_by (hr.mono (by decide)) (takes_of rfl rfl rfl rfl) (pda_cons (pd_var 0) (pda_cons (pd_var 1) (pda_cons (pd_var 2) (pda_nil))))) (pd_one (pdc_call c_is_near_by (hr.mono (by decide)) (takes_of rfl rfl rfl rfl) (pda_cons (pd_var 0) (pda_cons (pd_var 2) (pda_cons (pd_var 1) (pda_nil))))))))
theorem ok_held_with {f : Addr} {fd : FuncData} (F : Fun G.K "held_with" "held_with" s_held_with f fd) (T : Txt P w mg base G) (c_are_tied : CallOk P w G.K mg base G "are_tied" 2 3 m_are_tied) (c_places_of : CallOk P w G.K mg base G "places_of" 1 1 m_places_of) : FnG P w G.K mg base 3 f fd ["space", "place"] (spM G 2 m_held_with) :=
  defk 2 2 6 m_held_with b_held_with rfl rfl rfl F sc_held_with fun cdv A outer s H E hr => psd_cons (psm_asg (pd_tup (pda_cons (pd_frz (pdf_lst (pda_cons (pd_var 1) (pda_nil)))) (pda_cons (pd_int) (pda_nil)))) (pgm_tup rfl (pgm_cons (pgm_name (i := 2) sc_held_with.nd) (pgm_cons (pgm_name (i := 3) sc_held_with.nd) (pgm_nil))))) (psd_cons (psd_while 1000 (passes_of rfl) (ptd_cmp or_lt (pd_var 3) (pd_callB cr_len T.b_len (pda_cons (pd_var 2) (pda_nil)))) (psd_cons (psm_asg (pd_tup (pda_cons (pd_ix ir_ix (pd_var 2) (pd_var 3)) (pda_cons (pd_op or_add (pd_var 3) (pd_int)) (pda_nil)))) (pgm_tup rfl (pgm_cons (pgm_name (i := 4) sc_held_with.nd) (pgm_cons (pgm_name (i := 3) sc_held_with.nd) (pgm_nil))))) (psd_one (psd_set (i := 2) sc_held_with.nd (pd_frz (pdf_cat (pd_var 2) (pd_frz (pd_lc (own := [("other", 5)]) rfl sc_held_with.nd (pid_list (pdc_call c_places_of (hr.mono (by decide)) (takes_of rfl rfl rfl rfl) (pda_cons (pd_var 0) (pda_nil)))) (blkOk_by (by kernel_rfl)) (fun _ _ _ _ _ => pgd_name (i := 5) sc_held_with.nd) (fun _ _ _ _ _ => ptsd_one (ptd_of (pwd_and (ptd_cmp or_notin (pd_var 5) (pd_var 2)) (pwd_and1 (ptd_val (pdc_call c_are_tied (hr.mono (by decide)) takes0 (pda_cons (pd_var 0) (pda_cons (pd_var 4) (pda_cons (pd_var 5) (pda_nil)))))))))) (fun _ _ _ _ _ => pd_var 5))))))))) (psd_one (psd_ret (pd_callT cr_tuple T.b_tuple (pda_cons (pd_frz (pdf_sortI T.b_sorted (pd_var 2))) (pda_nil))))))
theorem ok_parts_by {f : Addr} {fd : FuncData} (F : Fun G.K "parts_by" "parts_by" s_parts_by f fd) (T : Txt P w mg base G) (c_held_with : CallOk P w G.K mg base G "held_with" 3 2 m_held_with) (c_places_of : CallOk P w G.K mg base G "places_of" 1 1 m_places_of) : FnG P w G.K mg base 4 f fd ["space"] (spM G 1 m_parts_by) :=
  defk 3 1 2 m_parts_by b_parts_by rfl rfl rfl F sc_parts_by fun cdv A outer s H E hr => psd_one (psd_ret (pd_callT cr_tuple T.b_tuple (pda_cons (pd_frz (pdf_sortSet (hu64 hr) T.b_sorted T.b_set (pd_frz (pd_lc (own := [("place", 1)]) rfl sc_parts_by.nd (pid_list (pdc_call c_places_of (hr.mono (by decide)) (takes_of rfl rfl rfl rfl) (pda_cons (pd_var 0) (pda_nil)))) (blkOk_by (by kernel_rfl)) (fun _ _ _ _ _ => pgd_name (i := 1) sc_parts_by.nd) (fun _ _ _ _ _ => ptsd_nil) (fun _ _ _ _ _ => pdc_call c_held_with (hr.mono (by decide)) takes0 (pda_cons (pd_var 0) (pda_cons (pd_var 1) (pda_nil)))))))) (pda_nil))))
theorem ok_Yard_parts {f : Addr} {fd : FuncData} (F : Fun G.K "parts" "Yard.parts" s_Yard_parts f fd) (T : Txt P w mg base G) (c_parts_by : CallOk P w G.K mg base G "parts_by" 4 1 m_parts_by) : FnG P w G.K mg base 5 f fd ["self"] (spM G 1 m_Yard_parts) :=
  defk 4 1 1 m_Yard_parts b_Yard_parts rfl rfl rfl F sc_Yard_parts fun cdv A outer s H E hr => psd_one (psd_ret (pd_callB cr_len T.b_len (pda_cons (pdc_call c_parts_by (hr.mono (by decide)) (takes_of rfl rfl rfl rfl) (pda_cons (pdc_fld T.f_Yard_space (pd_var 0)) (pda_nil))) (pda_nil))))
theorem ok_all_lots {f : Addr} {fd : FuncData} (F : Fun G.K "all_lots" "all_lots" s_all_lots f fd) (T : Txt P w mg base G) : FnG P w G.K mg base 1 f fd ["places"] (spM G 1 m_all_lots) :=
  defk 0 1 4 m_all_lots b_all_lots rfl rfl rfl F sc_all_lots fun cdv A outer s H E hr => psd_cons (psd_set (i := 1) sc_all_lots.nd (pd_cel (pdf_lst (pda_nil)))) (psd_cons (psd_for (passes_of rfl) rfl (pid_range1 T.b_range (pd_op or_add (pd_var 0) (pd_int))) (pgd_name (i := 2) sc_all_lots.nd) (psd_one (psd_expr (pd_ext (pd_var 1) (pd_lc (own := [("lot", 3)]) rfl sc_all_lots.nd (pid_comb T.im_combinations (pd_frz (pdf_listRange T.b_list T.b_range (pd_var 0))) (pd_callT cr_int T.b_int (pda_cons (pd_var 2) (pda_nil)))) (blkOk_by (by kernel_rfl)) (fun _ _ _ _ _ => pgd_name (i := 3) sc_all_lots.nd) (fun _ _ _ _ _ => ptsd_nil) (fun _ _ _ _ _ => pd_var 3)))))) (psd_one (psd_ret (pd_frz (pdf_sortL (hu64 hr) T.b_sorted (pd_var 1))))))
theorem ok_is_within {f : Addr} {fd : FuncData} (F : Fun G.K "is_within" "is_within" s_is_within f fd) (T : Txt P w mg base G) : FnG P w G.K mg base 1 f fd ["lot", "other"] (spM G 2 m_is_within) :=
  defk 0 2 3 m_is_within b_is_within rfl rfl rfl F sc_is_within fun cdv A outer s H E hr => psd_one (psd_ret (pd_callB (cr_allD rfl) T.b_all (pda_cons (pd_frz (pd_lc (own := [("place", 2)]) rfl sc_is_within.nd (pid_tup (pd_var 0)) (blkOk_by (by kernel_rfl)) (fun _ _ _ _ _ => pgd_name (i := 2) sc_is_within.nd) (fun _ _ _ _ _ => ptsd_nil) (fun _ _ _ _ _ => pd_cmp or_in (pd_var 2) (pd_var 1)))) (pda_nil))))
theorem ok_is_open_by {f : Addr} {fd : FuncData} (F : Fun G.K "is_open_by" "is_open_by" s_is_open_by f fd) (T : Txt P w mg base G) (c_is_within : CallOk P w G.K mg base G "is_within" 1 2 m_is_within) : FnG P w G.K mg base 2 f fd ["space", "lot"] (spM G 2 m_is_open_by) :=
  defk 1 2 3 m_is_open_by b_is_open_by rfl rfl rfl F sc_is_open_by fun cdv A outer s H E hr => psd_one (psd_ret (pd_callB (cr_allD rfl) T.b_all (pda_cons (pd_frz (pd_lc (own := [("place", 2)]) rfl sc_is_open_by.nd (pid_tup (pd_var 1)) (blkOk_by (by kernel_rfl)) (fun _ _ _ _ _ => pgd_name (i := 2) sc_is_open_by.nd) (fun _ _ _ _ _ => ptsd_nil) (fun _ _ _ _ _ => pdc_call c_is_within (hr.mono (by decide)) takes0 (pda_cons (pd_ix ir_ix (pd_var 0) (pd_var 2)) (pda_cons (pd_var 1) (pda_nil)))))) (pda_nil))))
theorem ok_open_lots_by {f : Addr} {fd : FuncData} (F : Fun G.K "open_lots_by" "open_lots_by" s_open_lots_by f fd) (T : Txt P w mg base G) (c_all_lots : CallOk P w G.K mg base G "all_lots" 1 1 m_all_lots) (c_is_open_by : CallOk P w G.K mg base G "is_open_by" 2 2 m_is_open_by) : FnG P w G.K mg base 3 f fd ["space"] (spM G 1 m_open_lots_by) :=
  defk 2 1 2 m_open_lots_by b_open_lots_by rfl rfl rfl F sc_open_lots_by fun cdv A outer s H E hr => psd_one (psd_ret (pd_callT cr_tuple T.b_tuple (pda_cons (pd_frz (pd_lc (own := [("lot", 1)]) rfl sc_open_lots_by.nd (pid_list (pdc_call c_all_lots (hr.mono (by decide)) (takes_of rfl rfl rfl rfl) (pda_cons (pd_callB cr_len T.b_len (pda_cons (pd_var 0) (pda_nil))) (pda_nil)))) (blkOk_by (by kernel_rfl)) (fun _ _ _ _ _ => pgd_name (i := 1) sc_open_lots_by.nd) (fun _ _ _ _ _ => ptsd_one (ptd_val (pdc_call c_is_open_by (hr.mono (by decide)) takes0 (pda_cons (pd_var 0) (pda_cons (pd_var 1) (pda_nil)))))) (fun _ _ _ _ _ => pd_var 1))) (pda_nil))))
theorem ok_Yard_undo {f : Addr} {fd : FuncData} (F : Fun G.K "undo" "Yard.undo" s_Yard_undo f fd) (T : Txt P w mg base G) : FnG P w G.K mg base 1 f fd ["self"] (spM G 1 m_Yard_undo) :=
  defk 0 1 1 m_Yard_undo b_Yard_undo rfl rfl rfl F sc_Yard_undo fun cdv A outer s H E hr => psd_cons (psd_if (ptd_cmp (or_eq (hu64 hr)) (pdc_fld T.f_Yard_past (pd_var 0)) (pd_frz (pdf_lst (pda_nil)))) (psd_one (psd_raise0 T.x_NothingToUndo (takes_of rfl rfl rfl rfl))) (psd_nil)) (psd_cons (psdc_fld T.f_Yard_space (pd_var 0) (pd_pop (pdc_fld T.f_Yard_past (pd_var 0)))) (psd_one (psdc_fld T.f_Yard_deeds (pd_var 0) (pd_slice sr_tup (pdc_fld T.f_Yard_deeds (pd_var 0)) (pod_none) (pod_some (pd_un ur_neg (pd_int)))))))
theorem hd_said_of_undo_0_ind : ∀ (a : Addr) (dx : Option Addr) (c : Str) (ρ : En) (S : Store), hd_said_of_undo_0 a dx c ρ S = hd_said_of_undo_0 0 none c ρ S := fun _ _ _ _ _ => rfl
theorem ok_said_of_undo {f : Addr} {fd : FuncData} (F : Fun G.K "said_of_undo" "said_of_undo" s_said_of_undo f fd) (T : Txt P w mg base G) (c_Yard_undo : MethOk P w G.K mg base G "Yard" "undo" 1 1 m_Yard_undo) : FnG P w G.K mg base 2 f fd ["yard"] (spM G 1 m_said_of_undo) :=
  defk 1 1 1 m_said_of_undo b_said_of_undo rfl rfl rfl F sc_said_of_undo fun cdv A outer s H E hr => psd_cons (psd_trys sc_said_of_undo.nd (takes_of rfl rfl rfl rfl) (DCl.bare ⟨rfl, by decide, .inl T.nm_NothingToUndo⟩ T.qm_NothingToUndo (fun a oe c dx pn hm hz hf => psd_one (psd_ret (pd_gstrE T.g_NOTHING))) hd_said_of_undo_0_ind DCl.nil) (fun _ _ _ tk po => psd_one (psd_expr (pdc_meth0 c_Yard_undo (hr.mono (by decide)) tk (pd_var 0))))) (psd_one (psd_ret (pd_gstrE T.g_DONE)))
theorem ok_said_of_word {f : Addr} {fd : FuncData} (F : Fun G.K "said_of_word" "said_of_word" s_said_of_word f fd) (T : Txt P w mg base G) (c_Yard_parts : MethOk P w G.K mg base G "Yard" "parts" 5 1 m_Yard_parts) (c_open_lots_by : CallOk P w G.K mg base G "open_lots_by" 3 1 m_open_lots_by) (c_said_of_undo : CallOk P w G.K mg base G "said_of_undo" 2 1 m_said_of_undo) : FnG P w G.K mg base 6 f fd ["yard", "word"] (spM G 2 m_said_of_word) :=
  defk 5 2 2 m_said_of_word b_said_of_word rfl rfl rfl F sc_said_of_word fun cdv A outer s H E hr => psd_cons (psd_if (ptd_cmp (or_eq (hu64 hr)) (pd_var 1) (pd_str)) (psd_one (psd_ret (pdc_call c_said_of_undo (hr.mono (by decide)) (takes_of rfl rfl rfl rfl) (pda_cons (pd_var 0) (pda_nil))))) (psd_nil)) (psd_cons (psd_if (ptd_cmp (or_eq (hu64 hr)) (pd_var 1) (pd_str)) (psd_one (psd_ret (pd_callT cr_strI T.b_str (pda_cons (pd_callB cr_len T.b_len (pda_cons (pdc_call c_open_lots_by (hr.mono (by decide)) (takes_of rfl rfl rfl rfl) (pda_cons (pdc_fld T.f_Yard_space (pd_var 0)) (pda_nil))) (pda_nil))) (pda_nil))))) (psd_nil)) (psd_cons (psd_if (ptd_cmp (or_eq (hu64 hr)) (pd_var 1) (pd_str)) (psd_one (psd_never)) (psd_nil)) (psd_one (psd_ret (pd_if (ptd_cmp (or_eq (hu64 hr)) (pd_var 1) (pd_str)) (pd_callT cr_strI T.b_str (pda_cons (pdc_meth0 c_Yard_parts (hr.mono (by decide)) (takes_of rfl rfl rfl rfl) (pd_var 0)) (pda_nil))) (pd_gstrE T.g_LOST))))))
theorem ok_words_of {f : Addr} {fd : FuncData} (F : Fun G.K "words_of" "words_of" s_words_of f fd) (T : Txt P w mg base G) : FnG P w G.K mg base 1 f fd ["line"] (spM G 1 m_words_of) :=
  defk 0 1 2 m_words_of b_words_of rfl rfl rfl F sc_words_of fun cdv A outer s H E hr => psd_cons (psd_set (i := 1) sc_words_of.nd (pd_frz (pdf_split (pd_var 0) (pd_str)))) (psd_one (psd_ret (pd_if (ptd_cmp or_in (pd_str) (pd_var 1)) (pd_non) (pd_var 1))))
theorem ok_Console_say {f : Addr} {fd : FuncData} (F : Fun G.K "say" "Console.say" s_Console_say f fd) (T : Txt P w mg base G) (c_is_string : CallOk P w G.K mg base G "is_string" 1 1 m_is_string) (c_numbers_in : CallOk P w G.K mg base G "numbers_in" 3 1 m_numbers_in) (c_said_of_closing : CallOk P w G.K mg base G "said_of_closing" 5 2 m_said_of_closing) (c_said_of_deed : CallOk P w G.K mg base G "said_of_deed" 6 2 m_said_of_deed) (c_said_of_reach : CallOk P w G.K mg base G "said_of_reach" 4 2 m_said_of_reach) (c_said_of_word : CallOk P w G.K mg base G "said_of_word" 6 2 m_said_of_word) (c_words_of : CallOk P w G.K mg base G "words_of" 1 1 m_words_of) : FnG P w G.K mg base 7 f fd ["self", "line"] (spM G 2 m_Console_say) :=
  defk 6 2 4 m_Console_say b_Console_say rfl rfl rfl F sc_Console_say fun cdv A outer s H E hr => psd_cons (psd_if (ptd_not (ptd_val (pdc_call c_is_string (hr.mono (by decide)) (takes_of rfl rfl rfl rfl) (pda_cons (pd_var 1) (pda_nil))))) (psd_one (psd_raise T.x_InvalidLine (hr.mono (by decide)) (takes_of rfl rfl rfl rfl) (pd_var 1) (hpx := passX0))) (psd_nil)) (psd_cons (psd_set (i := 2) sc_Console_say.nd (pdc_call c_words_of (hr.mono (by decide)) (takes_of rfl rfl rfl rfl) (pda_cons (pd_var 1) (pda_nil)))) (psd_cons (psd_set (i := 3) sc_Console_say.nd (pd_if (ptd_cmp or_notN (pd_var 2) (pd_non)) (pdc_call c_numbers_in (hr.mono (by decide)) (takes_of rfl rfl rfl rfl) (pda_cons (pd_slice sr_lst (pd_var 2) (pod_some (pd_int)) (pod_none)) (pda_nil))) (pd_non))) (psd_cons (psd_if (ptd_cmp or_isN (pd_var 3) (pd_non)) (psd_one (psd_ret (pd_gstrE T.g_LOST))) (psd_nil)) (psd_cons (psd_if (ptd_inDct T.d_SIZES (pd_ix ir_ix (pd_var 2) (pd_int))) (psd_one (psd_ret (pdc_call c_said_of_deed (hr.mono (by decide)) (takes_of rfl rfl rfl rfl) (pda_cons (pdc_fld T.f_Console_yard (pd_var 0)) (pda_cons (pd_tup (pda_cons (pd_ix ir_ix (pd_var 2) (pd_int)) (pda_star (pd_var 3) (pda_nil)))) (pda_nil)))))) (psd_nil)) (psd_cons (psd_if (ptd_cmp (or_eq (hu64 hr)) (pd_ix ir_ix (pd_var 2) (pd_int)) (pd_str)) (psd_one (psd_ret (pdc_call c_said_of_closing (hr.mono (by decide)) (takes_of rfl rfl rfl rfl) (pda_cons (pdc_fld T.f_Console_yard (pd_var 0)) (pda_cons (pd_var 3) (pda_nil)))))) (psd_nil)) (psd_cons (psd_if (ptd_of (pwd_and (ptd_cmp (or_eq (hu64 hr)) (pd_ix ir_ix (pd_var 2) (pd_int)) (pd_str)) (pwd_and1 (ptd_cmp (or_eq (hu64 hr)) (pd_callB cr_len T.b_len (pda_cons (pd_var 3) (pda_nil))) (pd_int))))) (psd_one (psd_ret (pdc_call c_said_of_reach (hr.mono (by decide)) (takes_of rfl rfl rfl rfl) (pda_cons (pdc_fld T.f_Console_yard (pd_var 0)) (pda_cons (pd_ix ir_ix (pd_var 3) (pd_int)) (pda_nil)))))) (psd_nil)) (psd_one (psd_ret (pd_if (ptd_cmp (or_eq (hu64 hr)) (pd_callB cr_len T.b_len (pda_cons (pd_var 2) (pda_nil))) (pd_int)) (pdc_call c_said_of_word (hr.mono (by decide)) (takes_of rfl rfl rfl rfl) (pda_cons (pdc_fld T.f_Console_yard (pd_var 0)) (pda_cons (pd_ix ir_ix (pd_var 2) (pd_int)) (pda_nil)))) (pd_gstrE T.g_LOST))))))))))
theorem ok__law_alone {f : Addr} {fd : FuncData} (F : Fun G.K "_law_alone" "_law_alone" s__law_alone f fd) (T : Txt P w mg base G) : FnG P w G.K mg base 1 f fd ["many"] (spM G 1 m__law_alone) :=
  defk 0 1 2 m__law_alone b__law_alone rfl rfl rfl F sc__law_alone fun cdv A outer s H E hr => psd_one (psd_ret (pd_callT cr_tuple T.b_tuple (pda_cons (pd_frz (pd_lc (own := [("place", 1)]) rfl sc__law_alone.nd (pid_range1 T.b_range (pd_var 0)) (blkOk_by (by kernel_rfl)) (fun _ _ _ _ _ => pgd_name (i := 1) sc__law_alone.nd) (fun _ _ _ _ _ => ptsd_nil) (fun _ _ _ _ _ => pd_tup (pda_cons (pd_var 1) (pda_nil))))) (pda_nil))))
theorem ok__law_take {f : Addr} {fd : FuncData} (F : Fun G.K "_law_take" "_law_take" s__law_take f fd) (T : Txt P w mg base G) : FnG P w G.K mg base 1 f fd ["well", "many"] (spM G 2 m__law_take) :=
  defk 0 2 3 m__law_take b__law_take rfl rfl rfl F sc__law_take fun cdv A outer s H E hr => psd_cons (psd_if (ptd_cmp or_gt (pd_ix ir_ix (pd_var 0) (pd_int)) (pd_int)) (psd_cons (psm_asg (pd_callB cr_divmod' T.b_divmod (pda_cons (pd_ix ir_ix (pd_var 0) (pd_int)) (pda_cons (pd_var 1) (pda_nil)))) (pgm_tup rfl (pgm_cons (pgm_sub (pd_var 0) (pd_int)) (pgm_cons (pgm_name (i := 2) sc__law_take.nd) (pgm_nil))))) (psd_one (psd_ret (pd_var 2)))) (psd_nil)) (psd_cons (psm_asg (pd_op or_add (pd_ix ir_ix (pd_var 0) (pd_int)) (pd_int)) (pgm_sub (pd_var 0) (pd_int))) (psd_cons (psm_asg (pd_op or_mod (pd_callT cr_int T.b_int (pda_cons (pd_op or_add (pd_op or_add (pd_op or_mul (pd_ix ir_ix (pd_var 0) (pd_int)) (pd_int)) (pd_op or_mul (pd_ix ir_ix (pd_var 0) (pd_int)) (pd_int))) (pd_int)) (pda_nil))) (pd_int)) (pgm_sub (pd_var 0) (pd_int))) (psd_one (psd_ret (pd_op or_mod (pd_callT cr_int T.b_int (pda_cons (pd_op or_add (pd_op or_fdiv (pd_ix ir_ix (pd_var 0) (pd_int)) (pd_int)) (pd_ix ir_ix (pd_var 0) (pd_int))) (pda_nil))) (pd_var 1))))))
theorem ok__law_of {f : Addr} {fd : FuncData} (F : Fun G.K "_law_of" "_law_of" s__law_of f fd) (T : Txt P w mg base G) (c__law_take : CallOk P w G.K mg base G "_law_take" 1 2 m__law_take) : FnG P w G.K mg base 2 f fd ["well", "things"] (spM G 2 m__law_of) :=
  defk 1 2 2 m__law_of b__law_of rfl rfl rfl F sc__law_of fun cdv A outer s H E hr => psd_one (psd_ret (pd_ix ir_ix (pd_var 1) (pdc_call c__law_take (hr.mono (by decide)) (takes_of rfl rfl rfl rfl) (pda_cons (pd_var 0) (pda_cons (pd_callB cr_len T.b_len (pda_cons (pd_var 1) (pda_nil))) (pda_nil))))))
theorem ok__law_deed {f : Addr} {fd : FuncData} (F : Fun G.K "_law_deed" "_law_deed" s__law_deed f fd) (T : Txt P w mg base G) (c__law_of : CallOk P w G.K mg base G "_law_of" 2 2 m__law_of) (c__law_take : CallOk P w G.K mg base G "_law_take" 1 2 m__law_take) : FnG P w G.K mg base 3 f fd ["well", "many"] (spM G 2 m__law_deed) :=
  defk 2 2 4 m__law_deed b__law_deed rfl rfl rfl F sc__law_deed fun cdv A outer s H E hr => psd_cons (psd_set (i := 2) sc__law_deed.nd (pdc_call c__law_take (hr.mono (by decide)) (takes_of rfl rfl rfl rfl) (pda_cons (pd_var 0) (pda_cons (pd_var 1) (pda_nil))))) (psd_cons (psd_set (i := 3) sc__law_deed.nd (pd_op or_mod (pd_callT cr_int T.b_int (pda_cons (pd_op or_add (pd_op or_add (pd_var 2) (pd_int)) (pdc_call c__law_take (hr.mono (by decide)) (takes_of rfl rfl rfl rfl) (pda_cons (pd_var 0) (pda_cons (pd_op or_sub (pd_var 1) (pd_int)) (pda_nil))))) (pda_nil))) (pd_var 1))) (psd_one (psd_ret (pd_tup (pda_cons (pdc_call c__law_of (hr.mono (by decide)) (takes_of rfl rfl rfl rfl) (pda_cons (pd_var 0) (pda_cons (pd_tup (pda_cons (pd_str) (pda_cons (pd_str) (pda_cons (pd_str) (pda_nil))))) (pda_nil)))) (pda_cons (pd_var 2) (pda_cons (pd_var 3) (pda_nil))))))))
theorem ok__law_did {f : Addr} {fd : FuncData} (F : Fun G.K "_law_did" "_law_did" s__law_did f fd) (T : Txt P w mg base G) : FnG P w G.K mg base 1 f fd ["space", "deed"] (spM G 2 m__law_did) :=
  defk 0 2 9 m__law_did b__law_did rfl rfl rfl F sc__law_did fun cdv A outer s H E hr => psd_cons (psm_asg (pd_var 1) (pgm_tup rfl (pgm_cons (pgm_name (i := 2) sc__law_did.nd) (pgm_cons (pgm_name (i := 3) sc__law_did.nd) (pgm_cons (pgm_name (i := 4) sc__law_did.nd) (pgm_nil)))))) (psd_cons (psd_if (ptd_cmp (or_eq (hu64 hr)) (pd_var 2) (pd_str)) (psd_cons (psd_if (ptd_cmp or_in (pd_var 3) (pd_ix ir_ix (pd_var 0) (pd_var 4))) (psd_one (psd_ret (pd_tup (pda_cons (pd_str) (pda_cons (pd_var 0) (pda_nil)))))) (psd_nil)) (psd_one (psd_ret (pd_tup (pda_cons (pd_str) (pda_cons (pd_callT cr_tuple T.b_tuple (pda_cons (pd_frz (pd_lc (own := [("reach", 6)]) rfl sc__law_did.nd (pid_tup (pd_var 0)) (blkOk_by (by kernel_rfl)) (fun _ _ _ _ _ => pgd_name (i := 6) sc__law_did.nd) (fun _ _ _ _ _ => ptsd_nil) (fun _ _ _ _ _ => pd_callT cr_tuple T.b_tuple (pda_cons (pd_frz (pdf_sortedSet T.b_sorted T.b_set (pd_op or_add (pd_var 6) (pd_if (ptd_cmp or_in (pd_var 4) (pd_var 6)) (pd_ix ir_ix (pd_var 0) (pd_var 3)) (pd_tup (pda_nil)))))) (pda_nil))))) (pda_nil))) (pda_nil))))))) (psd_nil)) (psd_cons (psd_if (ptd_cmp or_notin (pd_var 3) (pd_ix ir_ix (pd_var 0) (pd_var 4))) (psd_one (psd_ret (pd_tup (pda_cons (pd_str) (pda_cons (pd_var 0) (pda_nil)))))) (psd_nil)) (psd_cons (psd_if (ptd_cmp (or_ne (hu64 hr)) (pd_frz (pd_lc (own := [("c", 7)]) rfl sc__law_did.nd (pid_tup (pd_ix ir_ix (pd_var 0) (pd_var 4))) (blkOk_by (by kernel_rfl)) (fun _ _ _ _ _ => pgd_name (i := 7) sc__law_did.nd) (fun _ _ _ _ _ => ptsd_one (ptd_of (pwd_and (ptd_cmp or_notin (pd_var 7) (pd_tup (pda_cons (pd_var 3) (pda_cons (pd_var 4) (pda_nil))))) (pwd_and1 (ptd_cmp or_in (pd_var 3) (pd_ix ir_ix (pd_var 0) (pd_var 7))))))) (fun _ _ _ _ _ => pd_var 7))) (pd_frz (pdf_lst (pda_nil)))) (psd_one (psd_ret (pd_tup (pda_cons (pd_str) (pda_cons (pd_var 0) (pda_nil)))))) (psd_nil)) (psd_cons (psd_set (i := 5) sc__law_did.nd (pd_callT cr_tuple T.b_tuple (pda_cons (pd_frz (pd_lc (own := [("place", 8)]) rfl sc__law_did.nd (pid_tup (pd_ix ir_ix (pd_var 0) (pd_var 4))) (blkOk_by (by kernel_rfl)) (fun _ _ _ _ _ => pgd_name (i := 8) sc__law_did.nd) (fun _ _ _ _ _ => ptsd_one (ptd_cmp (or_ne (hu64 hr)) (pd_var 8) (pd_var 3))) (fun _ _ _ _ _ => pd_var 8))) (pda_nil)))) (psd_one (psd_ret (pd_tup (pda_cons (pd_str) (pda_cons (pd_op or_add (pd_op or_add (pd_slice sr_tup (pd_var 0) (pod_none) (pod_some (pd_var 4))) (pd_tup (pda_cons (pd_var 5) (pda_nil)))) (pd_slice sr_tup (pd_var 0) (pod_some (pd_op or_add (pd_var 4) (pd_int))) (pod_none))) (pda_nil))))))))))
theorem ok__law_line {f : Addr} {fd : FuncData} (F : Fun G.K "_law_line" "_law_line" s__law_line f fd) (T : Txt P w mg base G) : FnG P w G.K mg base 1 f fd ["deed"] (spM G 1 m__law_line) :=
  defk 0 1 1 m__law_line b__law_line rfl rfl rfl F sc__law_line fun cdv A outer s H E hr => psd_one (psd_ret (pd_op or_add (pd_op or_add (pd_op or_add (pd_op or_add (pd_ix ir_ix (pd_var 0) (pd_int)) (pd_str)) (pd_callT cr_strI T.b_str (pda_cons (pd_ix ir_ix (pd_var 0) (pd_int)) (pda_nil)))) (pd_str)) (pd_callT cr_strI T.b_str (pda_cons (pd_ix ir_ix (pd_var 0) (pd_int)) (pda_nil)))))
theorem ok__law_places {f : Addr} {fd : FuncData} (F : Fun G.K "_law_places" "_law_places" s__law_places f fd) (T : Txt P w mg base G) : FnG P w G.K mg base 1 f fd ["lot"] (spM G 1 m__law_places) :=
  defk 0 1 2 m__law_places b__law_places rfl rfl rfl F sc__law_places fun cdv A outer s H E hr => psd_one (psd_ret (pd_join (pd_str) (pd_frz (pd_lc (own := [("place", 1)]) rfl sc__law_places.nd (pid_tup (pd_var 0)) (blkOk_by (by kernel_rfl)) (fun _ _ _ _ _ => pgd_name (i := 1) sc__law_places.nd) (fun _ _ _ _ _ => ptsd_nil) (fun _ _ _ _ _ => pd_callT cr_strI T.b_str (pda_cons (pd_var 1) (pda_nil)))))))
theorem ok__law_well {f : Addr} {fd : FuncData} (F : Fun G.K "_law_well" "_law_well" s__law_well f fd) (T : Txt P w mg base G) : FnG P w G.K mg base 1 f fd ["script", "lap"] (spM G 2 m__law_well) :=
  defk 0 2 5 m__law_well b__law_well rfl rfl rfl F sc__law_well fun cdv A outer s H E hr => psd_cons (psd_set (i := 2) sc__law_well.nd (pd_if (ptd_cmp or_lt (pd_var 1) (pd_callB cr_len T.b_len (pda_cons (pd_var 0) (pda_nil)))) (pd_callT cr_int T.b_int (pda_cons (pd_ix ir_ix (pd_var 0) (pd_var 1)) (pda_nil))) (pd_int))) (psd_cons (psd_set (i := 3) sc__law_well.nd (pd_op or_add (pd_int) (pd_op or_mul (pd_int) (pd_var 1)))) (psd_cons (psd_for (passes_of rfl) rfl (pid_list (pd_frz (pdf_cat (pd_slice sr_lst (pd_var 0) (pod_none) (pod_some (pd_int))) (pd_frz (pdf_lst (pda_cons (pd_var 2) (pda_nil))))))) (pgd_name (i := 4) sc__law_well.nd) (psd_one (psd_set (i := 3) sc__law_well.nd (pd_op or_mod (pd_callT cr_int T.b_int (pda_cons (pd_op or_add (pd_op or_add (pd_op or_mul (pd_var 3) (pd_int)) (pd_op or_mod (pd_callT cr_int T.b_int (pda_cons (pd_var 4) (pda_nil))) (pd_int))) (pd_int)) (pda_nil))) (pd_int))))) (psd_one (psd_ret (pd_cel (pdf_lst (pda_cons (pd_if (ptd_of (pwd_or (ptd_cmp or_lt (pd_var 2) (pd_int)) (pwd_or1 (ptd_cmp or_ge (pd_var 2) (pd_op or_pow (pd_int) (pd_int)))))) (pd_callB cr_abs T.b_abs (pda_cons (pd_var 2) (pda_nil))) (pd_int)) (pda_cons (pd_var 3) (pda_cons (pd_int) (pda_nil))))))))))
theorem ok_law {f : Addr} {fd : FuncData} (F : Fun G.K "law" "law" s_law f fd) (T : Txt P w mg base G) (c_Console_init : MakeOk P w G.K mg base G "Console" 7 2 m_Console_init) (c_Console_say : MethOk P w G.K mg base G "Console" "say" 7 2 m_Console_say) (c_Yard_init : MakeOk P w G.K mg base G "Yard" 3 2 m_Yard_init) (c__law_alone : CallOk P w G.K mg base G "_law_alone" 1 1 m__law_alone) (c__law_deed : CallOk P w G.K mg base G "_law_deed" 3 2 m__law_deed) (c__law_did : CallOk P w G.K mg base G "_law_did" 1 2 m__law_did) (c__law_line : CallOk P w G.K mg base G "_law_line" 1 1 m__law_line) (c__law_places : CallOk P w G.K mg base G "_law_places" 1 1 m__law_places) (c__law_take : CallOk P w G.K mg base G "_law_take" 1 2 m__law_take) (c__law_well : CallOk P w G.K mg base G "_law_well" 1 2 m__law_well) (kc_Console_init : MakeOkK P w G.K mg base G "Console" 7 2 m_Console_init ["yard"]) (kc_Console_say : MethOkK P w G.K mg base G "Console" "say" 7 2 m_Console_say ["line"]) : FnG P w G.K mg base 9 f fd ["script"] (spM G 1 m_law) :=
  defk 8 1 12 m_law b_law rfl rfl rfl F sc_law fun cdv A outer s H E hr => psd_cons (psd_for (passes_of rfl) rfl (pid_range1 T.b_range (pd_int)) (pgd_name (i := 1) sc_law.nd) (psd_cons (psd_set (i := 2) sc_law.nd (pdc_call c__law_well (hr.mono (by decide)) (takes_of rfl rfl rfl rfl) (pda_cons (pd_var 0) (pda_cons (pd_var 1) (pda_nil))))) (psd_cons (psd_set (i := 3) sc_law.nd (pd_op or_add (pd_int) (pdc_call c__law_take (hr.mono (by decide)) (takes_of rfl rfl rfl rfl) (pda_cons (pd_var 2) (pda_cons (pd_int) (pda_nil)))))) (psd_cons (psd_par (i := 4) (j := 5) sc_law.nd (pda_cons (pdc_make c_Yard_init (hr.mono (by decide)) (takes_of rfl rfl rfl rfl) (pda_cons (pd_var 3) (pda_nil))) (pda_cons (pd_frz (pdf_lst (pda_cons (pdc_call c__law_alone (hr.mono (by decide)) (takes_of rfl rfl rfl rfl) (pda_cons (pd_var 3) (pda_nil))) (pda_nil)))) (pda_nil)))) (psd_cons (psd_set (i := 6) sc_law.nd (pdc_make c_Console_init (hr.mono (by decide)) (takes_of rfl rfl rfl rfl) (pda_cons (pd_var 4) (pda_nil)))) (psd_cons (psd_if (ptd_cmp (or_ne (hu64 hr)) (pdc_meth c_Console_say (hr.mono (by decide)) (takes_of rfl rfl rfl rfl) (pd_var 6) (pda_cons (pd_str) (pda_nil))) (pd_str)) (psd_one (psd_ret (pd_bl))) (psd_nil)) (psd_cons (psd_for (passes_of rfl) rfl (pid_range1 T.b_range (pd_int)) (pgd_name (i := 7) sc_law.nd) (psd_cons (psd_if (ptd_cmp (or_eq (hu64 hr)) (pdc_call c__law_take (hr.mono (by decide)) (takes_of rfl rfl rfl rfl) (pda_cons (pd_var 2) (pda_cons (pd_int) (pda_nil)))) (pd_int)) (psd_cons (psd_set (i := 8) sc_law.nd (pd_if (ptd_cmp or_gt (pd_callB cr_len T.b_len (pda_cons (pd_var 5) (pda_nil))) (pd_int)) (pd_str) (pd_str))) (psd_cons (psd_if (ptd_cmp (or_ne (hu64 hr)) (pdc_meth c_Console_say (hr.mono (by decide)) (takes_of rfl rfl rfl rfl) (pd_var 6) (pda_cons (pd_str) (pda_nil))) (pd_var 8)) (psd_one (psd_ret (pd_bl))) (psd_nil)) (psd_one (psd_set (i := 5) sc_law.nd (pd_if (ptd_cmp (or_eq (hu64 hr)) (pd_var 8) (pd_str)) (pd_slice sr_lst (pd_var 5) (pod_none) (pod_some (pd_un ur_neg (pd_int)))) (pd_var 5)))))) (psd_cons (psd_set (i := 9) sc_law.nd (pdc_call c__law_deed (hr.mono (by decide)) (takes_of rfl rfl rfl rfl) (pda_cons (pd_var 2) (pda_cons (pd_var 3) (pda_nil))))) (psd_cons (psm_asg (pdc_call c__law_did (hr.mono (by decide)) (takes_of rfl rfl rfl rfl) (pda_cons (pd_ix ir_ix (pd_var 5) (pd_un ur_neg (pd_int))) (pda_cons (pd_var 9) (pda_nil)))) (pgm_tup rfl (pgm_cons (pgm_name (i := 8) sc_law.nd) (pgm_cons (pgm_name (i := 10) sc_law.nd) (pgm_nil))))) (psd_cons (psd_if (ptd_cmp (or_ne (hu64 hr)) (pdc_meth c_Console_say (hr.mono (by decide)) (takes_of rfl rfl rfl rfl) (pd_var 6) (pda_cons (pdc_call c__law_line (hr.mono (by decide)) (takes_of rfl rfl rfl rfl) (pda_cons (pd_var 9) (pda_nil))) (pda_nil))) (pd_var 8)) (psd_one (psd_ret (pd_bl))) (psd_nil)) (psd_one (psd_set (i := 5) sc_law.nd (pd_frz (pdf_cat (pd_var 5) (pd_if (ptd_cmp (or_eq (hu64 hr)) (pd_var 8) (pd_str)) (pd_frz (pdf_lst (pda_cons (pd_var 10) (pda_nil)))) (pd_frz (pdf_lst (pda_nil)))))))))))) (psd_cons (psd_set (i := 11) sc_law.nd (pdc_call c__law_take (hr.mono (by decide)) (takes_of rfl rfl rfl rfl) (pda_cons (pd_var 2) (pda_cons (pd_var 3) (pda_nil))))) (psd_cons (psd_if (ptd_cmp (or_ne (hu64 hr)) (pdc_meth c_Console_say (hr.mono (by decide)) (takes_of rfl rfl rfl rfl) (pd_var 6) (pda_cons (pd_op or_add (pd_str) (pd_callT cr_strI T.b_str (pda_cons (pd_var 11) (pda_nil)))) (pda_nil))) (pdc_call c__law_places (hr.mono (by decide)) (takes_of rfl rfl rfl rfl) (pda_cons (pd_ix ir_ix (pd_ix ir_ix (pd_var 5) (pd_un ur_neg (pd_int))) (pd_var 11)) (pda_nil)))) (psd_one (psd_ret (pd_bl))) (psd_nil)) (psd_one (psd_if (ptd_of (pwd_or (ptd_cmp (or_ne (hu64 hr)) (pdc_fld T.f_Yard_space (pd_var 4)) (pdc_call c__law_alone (hr.mono (by decide)) (takes_of rfl rfl rfl rfl) (pda_cons (pd_var 3) (pda_nil)))) (pwd_or1 (ptd_cmp (or_ne (hu64 hr)) (pdc_fld T.f_Yard_deeds (pd_var 4)) (pd_tup (pda_nil)))))) (psd_one (psd_ret (pd_bl))) (psd_nil))))))) (psd_one (psd_if (ptd_cmp (or_ne (hu64 hr)) (pdk_meth kc_Console_say (hr.mono (by decide)) (takes_of rfl rfl rfl rfl) rfl (pdk_make kc_Console_init (hr.mono (by decide)) (takes_of rfl rfl rfl rfl) rfl (pkd_cons (pd_var 4) (pkd_nil))) (pkd_cons (pd_str) (pkd_nil))) (pdc_meth c_Console_say (hr.mono (by decide)) (takes_of rfl rfl rfl rfl) (pdc_make c_Console_init (hr.mono (by decide)) (takes_of rfl rfl rfl rfl) (pda_cons (pd_var 4) (pda_nil))) (pda_cons (pd_str) (pda_nil)))) (psd_one (psd_ret (pd_bl))) (psd_nil)))))))))) (psd_one (psd_ret (pd_bl)))
end
end NL

set_option Elab.async false
set_option linter.all false
set_option autoImplicit false
set_option maxRecDepth 100000
set_option maxHeartbeats 4100000
namespace NL
open PySem PySem.Spec PyProof.Rows L2

theorem all_mk {P : Program} {w : World} {K : PySem.W.Frag} {h : Heap} {mg : Str → Option Value} {fa : Addr} {C_NearError : Addr} {C_InvalidNumber : Addr} {C_InvalidLine : Addr} {C_NotAYard : Addr} {C_InvalidDeed : Addr} {C_Barred : Addr} {C_NothingToUndo : Addr} {C_Console : Addr} {C_Yard : Addr} {t_DONE : Tok} {t_FIGURES : Tok} {t_LOST : Tok} {t_MOST_PLACES : Tok} {t_NOBODY : Tok} {t_NONE_consoles : Tok} {t_NONE_yards : Tok} {t_NOTHING : Tok} {t_SAME : Tok} {t_THROUGH : Tok} {D_SIZES : Addr} {es_SIZES : Array DictEntry} {n_SIZES : Nat} {f_check_yard : Addr} {od_check_yard an_check_yard : Option Addr} {sl_check_yard : Array (Option Value)} {oc_check_yard kV_check_yard dc_check_yard pm_check_yard cd_check_yard ct_check_yard : Value} {f_is_string : Addr} {od_is_string an_is_string : Option Addr} {sl_is_string : Array (Option Value)} {oc_is_string kV_is_string dc_is_string pm_is_string cd_is_string ct_is_string : Value} {f_has_form : Addr} {od_has_form an_has_form : Option Addr} {sl_has_form : Array (Option Value)} {oc_has_form kV_has_form dc_has_form pm_has_form cd_has_form ct_has_form : Value} {f_is_whole : Addr} {od_is_whole an_is_whole : Option Addr} {sl_is_whole : Array (Option Value)} {oc_is_whole kV_is_whole dc_is_whole pm_is_whole cd_is_whole ct_is_whole : Value} {f_is_between : Addr} {od_is_between an_is_between : Option Addr} {sl_is_between : Array (Option Value)} {oc_is_between kV_is_between dc_is_between pm_is_between cd_is_between ct_is_between : Value} {f_is_place_of : Addr} {od_is_place_of an_is_place_of : Option Addr} {sl_is_place_of : Array (Option Value)} {oc_is_place_of kV_is_place_of dc_is_place_of pm_is_place_of cd_is_place_of ct_is_place_of : Value} {f_check_deed : Addr} {od_check_deed an_check_deed : Option Addr} {sl_check_deed : Array (Option Value)} {oc_check_deed kV_check_deed dc_check_deed pm_check_deed cd_check_deed ct_check_deed : Value} {f_is_near_by : Addr} {od_is_near_by an_is_near_by : Option Addr} {sl_is_near_by : Array (Option Value)} {oc_is_near_by kV_is_near_by dc_is_near_by pm_is_near_by cd_is_near_by ct_is_near_by : Value} {f_places_of : Addr} {od_places_of an_places_of : Option Addr} {sl_places_of : Array (Option Value)} {oc_places_of kV_places_of dc_places_of pm_places_of cd_places_of ct_places_of : Value} {f_has_between : Addr} {od_has_between an_has_between : Option Addr} {sl_has_between : Array (Option Value)} {oc_has_between kV_has_between dc_has_between pm_has_between cd_has_between ct_has_between : Value} {f_reason_against : Addr} {od_reason_against an_reason_against : Option Addr} {sl_reason_against : Array (Option Value)} {oc_reason_against kV_reason_against dc_reason_against pm_reason_against cd_reason_against ct_reason_against : Value} {f_union_of : Addr} {od_union_of an_union_of : Option Addr} {sl_union_of : Array (Option Value)} {oc_union_of kV_union_of dc_union_of pm_union_of cd_union_of ct_union_of : Value} {f_without : Addr} {od_without an_without : Option Addr} {sl_without : Array (Option Value)} {oc_without kV_without dc_without pm_without cd_without ct_without : Value} {f_space_behind : Addr} {od_space_behind an_space_behind : Option Addr} {sl_space_behind : Array (Option Value)} {oc_space_behind kV_space_behind dc_space_behind pm_space_behind cd_space_behind ct_space_behind : Value} {f_Yard_do : Addr} {od_Yard_do an_Yard_do : Option Addr} {sl_Yard_do : Array (Option Value)} {oc_Yard_do kV_Yard_do dc_Yard_do pm_Yard_do cd_Yard_do ct_Yard_do : Value} {f_single_space : Addr} {od_single_space an_single_space : Option Addr} {sl_single_space : Array (Option Value)} {oc_single_space kV_single_space dc_single_space pm_single_space cd_single_space ct_single_space : Value} {f_Yard_init : Addr} {od_Yard_init an_Yard_init : Option Addr} {sl_Yard_init : Array (Option Value)} {oc_Yard_init kV_Yard_init dc_Yard_init pm_Yard_init cd_Yard_init ct_Yard_init : Value} {f_copy_of : Addr} {od_copy_of an_copy_of : Option Addr} {sl_copy_of : Array (Option Value)} {oc_copy_of kV_copy_of dc_copy_of pm_copy_of cd_copy_of ct_copy_of : Value} {f_Console_init : Addr} {od_Console_init an_Console_init : Option Addr} {sl_Console_init : Array (Option Value)} {oc_Console_init kV_Console_init dc_Console_init pm_Console_init cd_Console_init ct_Console_init : Value} {f_is_made_of : Addr} {od_is_made_of an_is_made_of : Option Addr} {sl_is_made_of : Array (Option Value)} {oc_is_made_of kV_is_made_of dc_is_made_of pm_is_made_of cd_is_made_of ct_is_made_of : Value} {f_number_in : Addr} {od_number_in an_number_in : Option Addr} {sl_number_in : Array (Option Value)} {oc_number_in kV_number_in dc_number_in pm_number_in cd_number_in ct_number_in : Value} {f_numbers_in : Addr} {od_numbers_in an_numbers_in : Option Addr} {sl_numbers_in : Array (Option Value)} {oc_numbers_in kV_numbers_in dc_numbers_in pm_numbers_in cd_numbers_in ct_numbers_in : Value} {f_common_of : Addr} {od_common_of an_common_of : Option Addr} {sl_common_of : Array (Option Value)} {oc_common_of kV_common_of dc_common_of pm_common_of cd_common_of ct_common_of : Value} {f_closing_by : Addr} {od_closing_by an_closing_by : Option Addr} {sl_closing_by : Array (Option Value)} {oc_closing_by kV_closing_by dc_closing_by pm_closing_by cd_closing_by ct_closing_by : Value} {f_is_lot_of : Addr} {od_is_lot_of an_is_lot_of : Option Addr} {sl_is_lot_of : Array (Option Value)} {oc_is_lot_of kV_is_lot_of dc_is_lot_of pm_is_lot_of cd_is_lot_of ct_is_lot_of : Value} {f_is_lot : Addr} {od_is_lot an_is_lot : Option Addr} {sl_is_lot : Array (Option Value)} {oc_is_lot kV_is_lot dc_is_lot pm_is_lot cd_is_lot ct_is_lot : Value} {f_lot_text : Addr} {od_lot_text an_lot_text : Option Addr} {sl_lot_text : Array (Option Value)} {oc_lot_text kV_lot_text dc_lot_text pm_lot_text cd_lot_text ct_lot_text : Value} {f_said_of_closing : Addr} {od_said_of_closing an_said_of_closing : Option Addr} {sl_said_of_closing : Array (Option Value)} {oc_said_of_closing kV_said_of_closing dc_said_of_closing pm_said_of_closing cd_said_of_closing ct_said_of_closing : Value} {f_said_of_deed : Addr} {od_said_of_deed an_said_of_deed : Option Addr} {sl_said_of_deed : Array (Option Value)} {oc_said_of_deed kV_said_of_deed dc_said_of_deed pm_said_of_deed cd_said_of_deed ct_said_of_deed : Value} {f_said_of_reach : Addr} {od_said_of_reach an_said_of_reach : Option Addr} {sl_said_of_reach : Array (Option Value)} {oc_said_of_reach kV_said_of_reach dc_said_of_reach pm_said_of_reach cd_said_of_reach ct_said_of_reach : Value} {f_are_tied : Addr} {od_are_tied an_are_tied : Option Addr} {sl_are_tied : Array (Option Value)} {oc_are_tied kV_are_tied dc_are_tied pm_are_tied cd_are_tied ct_are_tied : Value} {f_held_with : Addr} {od_held_with an_held_with : Option Addr} {sl_held_with : Array (Option Value)} {oc_held_with kV_held_with dc_held_with pm_held_with cd_held_with ct_held_with : Value} {f_parts_by : Addr} {od_parts_by an_parts_by : Option Addr} {sl_parts_by : Array (Option Value)} {oc_parts_by kV_parts_by dc_parts_by pm_parts_by cd_parts_by ct_parts_by : Value} {f_Yard_parts : Addr} {od_Yard_parts an_Yard_parts : Option Addr} {sl_Yard_parts : Array (Option Value)} {oc_Yard_parts kV_Yard_parts dc_Yard_parts pm_Yard_parts cd_Yard_parts ct_Yard_parts : Value} {f_all_lots : Addr} {od_all_lots an_all_lots : Option Addr} {sl_all_lots : Array (Option Value)} {oc_all_lots kV_all_lots dc_all_lots pm_all_lots cd_all_lots ct_all_lots : Value} {f_is_within : Addr} {od_is_within an_is_within : Option Addr} {sl_is_within : Array (Option Value)} {oc_is_within kV_is_within dc_is_within pm_is_within cd_is_within ct_is_within : Value} {f_is_open_by : Addr} {od_is_open_by an_is_open_by : Option Addr} {sl_is_open_by : Array (Option Value)} {oc_is_open_by kV_is_open_by dc_is_open_by pm_is_open_by cd_is_open_by ct_is_open_by : Value} {f_open_lots_by : Addr} {od_open_lots_by an_open_lots_by : Option Addr} {sl_open_lots_by : Array (Option Value)} {oc_open_lots_by kV_open_lots_by dc_open_lots_by pm_open_lots_by cd_open_lots_by ct_open_lots_by : Value} {f_Yard_undo : Addr} {od_Yard_undo an_Yard_undo : Option Addr} {sl_Yard_undo : Array (Option Value)} {oc_Yard_undo kV_Yard_undo dc_Yard_undo pm_Yard_undo cd_Yard_undo ct_Yard_undo : Value} {f_said_of_undo : Addr} {od_said_of_undo an_said_of_undo : Option Addr} {sl_said_of_undo : Array (Option Value)} {oc_said_of_undo kV_said_of_undo dc_said_of_undo pm_said_of_undo cd_said_of_undo ct_said_of_undo : Value} {f_said_of_word : Addr} {od_said_of_word an_said_of_word : Option Addr} {sl_said_of_word : Array (Option Value)} {oc_said_of_word kV_said_of_word dc_said_of_word pm_said_of_word cd_said_of_word ct_said_of_word : Value} {f_words_of : Addr} {od_words_of an_words_of : Option Addr} {sl_words_of : Array (Option Value)} {oc_words_of kV_words_of dc_words_of pm_words_of cd_words_of ct_words_of : Value} {f_Console_say : Addr} {od_Console_say an_Console_say : Option Addr} {sl_Console_say : Array (Option Value)} {oc_Console_say kV_Console_say dc_Console_say pm_Console_say cd_Console_say ct_Console_say : Value} {f__law_alone : Addr} {od__law_alone an__law_alone : Option Addr} {sl__law_alone : Array (Option Value)} {oc__law_alone kV__law_alone dc__law_alone pm__law_alone cd__law_alone ct__law_alone : Value} {f__law_take : Addr} {od__law_take an__law_take : Option Addr} {sl__law_take : Array (Option Value)} {oc__law_take kV__law_take dc__law_take pm__law_take cd__law_take ct__law_take : Value} {f__law_of : Addr} {od__law_of an__law_of : Option Addr} {sl__law_of : Array (Option Value)} {oc__law_of kV__law_of dc__law_of pm__law_of cd__law_of ct__law_of : Value} {f__law_deed : Addr} {od__law_deed an__law_deed : Option Addr} {sl__law_deed : Array (Option Value)} {oc__law_deed kV__law_deed dc__law_deed pm__law_deed cd__law_deed ct__law_deed : Value} {f__law_did : Addr} {od__law_did an__law_did : Option Addr} {sl__law_did : Array (Option Value)} {oc__law_did kV__law_did dc__law_did pm__law_did cd__law_did ct__law_did : Value} {f__law_line : Addr} {od__law_line an__law_line : Option Addr} {sl__law_line : Array (Option Value)} {oc__law_line kV__law_line dc__law_line pm__law_line cd__law_line ct__law_line : Value} {f__law_places : Addr} {od__law_places an__law_places : Option Addr} {sl__law_places : Array (Option Value)} {oc__law_places kV__law_places dc__law_places pm__law_places cd__law_places ct__law_places : Value} {f__law_well : Addr} {od__law_well an__law_well : Option Addr} {sl__law_well : Array (Option Value)} {oc__law_well kV__law_well dc__law_well pm__law_well cd__law_well ct__law_well : Value} {f_law : Addr} {od_law an_law : Option Addr} {sl_law : Array (Option Value)} {oc_law kV_law dc_law pm_law cd_law ct_law : Value} {nm_InvalidNumber q_InvalidNumber : Str} {N_InvalidNumber : Addr} {bs_InvalidNumber bm_InvalidNumber : List Value} {sn_InvalidNumber : List Str} {sub_InvalidNumber : List Value} {ab_InvalidNumber : Bool} {col_InvalidNumber : Option Bool} {dd_InvalidNumber : Option Addr} {m0_InvalidNumber m1_InvalidNumber m2_InvalidNumber m3_InvalidNumber m5_InvalidNumber : Option Value} {f_InvalidNumber_init : Addr} {od_InvalidNumber_init an_InvalidNumber_init : Option Addr} {sl_InvalidNumber_init : Array (Option Value)} {oc_InvalidNumber_init kV_InvalidNumber_init dc_InvalidNumber_init pm_InvalidNumber_init cd_InvalidNumber_init ct_InvalidNumber_init : Value} {nm_InvalidLine q_InvalidLine : Str} {N_InvalidLine : Addr} {bs_InvalidLine bm_InvalidLine : List Value} {sn_InvalidLine : List Str} {sub_InvalidLine : List Value} {ab_InvalidLine : Bool} {col_InvalidLine : Option Bool} {dd_InvalidLine : Option Addr} {m0_InvalidLine m1_InvalidLine m2_InvalidLine m3_InvalidLine m5_InvalidLine : Option Value} {f_InvalidLine_init : Addr} {od_InvalidLine_init an_InvalidLine_init : Option Addr} {sl_InvalidLine_init : Array (Option Value)} {oc_InvalidLine_init kV_InvalidLine_init dc_InvalidLine_init pm_InvalidLine_init cd_InvalidLine_init ct_InvalidLine_init : Value} {nm_NotAYard q_NotAYard : Str} {N_NotAYard : Addr} {bs_NotAYard bm_NotAYard : List Value} {sn_NotAYard : List Str} {sub_NotAYard : List Value} {ab_NotAYard : Bool} {col_NotAYard : Option Bool} {dd_NotAYard : Option Addr} {m0_NotAYard m1_NotAYard m2_NotAYard m3_NotAYard m5_NotAYard : Option Value} {f_NotAYard_init : Addr} {od_NotAYard_init an_NotAYard_init : Option Addr} {sl_NotAYard_init : Array (Option Value)} {oc_NotAYard_init kV_NotAYard_init dc_NotAYard_init pm_NotAYard_init cd_NotAYard_init ct_NotAYard_init : Value} {nm_InvalidDeed q_InvalidDeed : Str} {N_InvalidDeed : Addr} {bs_InvalidDeed bm_InvalidDeed : List Value} {sn_InvalidDeed : List Str} {sub_InvalidDeed : List Value} {ab_InvalidDeed : Bool} {col_InvalidDeed : Option Bool} {dd_InvalidDeed : Option Addr} {m0_InvalidDeed m1_InvalidDeed m2_InvalidDeed m3_InvalidDeed m5_InvalidDeed : Option Value} {f_InvalidDeed_init : Addr} {od_InvalidDeed_init an_InvalidDeed_init : Option Addr} {sl_InvalidDeed_init : Array (Option Value)} {oc_InvalidDeed_init kV_InvalidDeed_init dc_InvalidDeed_init pm_InvalidDeed_init cd_InvalidDeed_init ct_InvalidDeed_init : Value} {nm_Barred q_Barred : Str} {N_Barred : Addr} {bs_Barred bm_Barred : List Value} {sn_Barred : List Str} {sub_Barred : List Value} {ab_Barred : Bool} {col_Barred : Option Bool} {dd_Barred : Option Addr} {m0_Barred m1_Barred m2_Barred m3_Barred m5_Barred : Option Value} {f_Barred_init : Addr} {od_Barred_init an_Barred_init : Option Addr} {sl_Barred_init : Array (Option Value)} {oc_Barred_init kV_Barred_init dc_Barred_init pm_Barred_init cd_Barred_init ct_Barred_init : Value} (X : K.In h) (Gh : h.Ns mainGlobals mg) (hfa : mg "law" = some (.ref fa))
    (aC_NearError : PySem.W.nsIn K mainGlobals "NearError" = some (some (.ref C_NearError)))
    (aC_InvalidNumber : PySem.W.nsIn K mainGlobals "InvalidNumber" = some (some (.ref C_InvalidNumber)))
    (aC_InvalidLine : PySem.W.nsIn K mainGlobals "InvalidLine" = some (some (.ref C_InvalidLine)))
    (aC_NotAYard : PySem.W.nsIn K mainGlobals "NotAYard" = some (some (.ref C_NotAYard)))
    (aC_InvalidDeed : PySem.W.nsIn K mainGlobals "InvalidDeed" = some (some (.ref C_InvalidDeed)))
    (aC_Barred : PySem.W.nsIn K mainGlobals "Barred" = some (some (.ref C_Barred)))
    (aC_NothingToUndo : PySem.W.nsIn K mainGlobals "NothingToUndo" = some (some (.ref C_NothingToUndo)))
    (aC_Console : PySem.W.nsIn K mainGlobals "Console" = some (some (.ref C_Console)))
    (aC_Yard : PySem.W.nsIn K mainGlobals "Yard" = some (some (.ref C_Yard)))
    (im_combinations : PySem.W.nsIn K mainGlobals "combinations" = some (some (.type "itertools.combinations")))
    (z_abs : PySem.W.nsIn K mainGlobals "abs" = some none)
    (z_all : PySem.W.nsIn K mainGlobals "all" = some none)
    (z_any : PySem.W.nsIn K mainGlobals "any" = some none)
    (z_bool : PySem.W.nsIn K mainGlobals "bool" = some none)
    (z_divmod : PySem.W.nsIn K mainGlobals "divmod" = some none)
    (z_enumerate : PySem.W.nsIn K mainGlobals "enumerate" = some none)
    (z_int : PySem.W.nsIn K mainGlobals "int" = some none)
    (z_isinstance : PySem.W.nsIn K mainGlobals "isinstance" = some none)
    (z_len : PySem.W.nsIn K mainGlobals "len" = some none)
    (z_list : PySem.W.nsIn K mainGlobals "list" = some none)
    (z_range : PySem.W.nsIn K mainGlobals "range" = some none)
    (z_set : PySem.W.nsIn K mainGlobals "set" = some none)
    (z_sorted : PySem.W.nsIn K mainGlobals "sorted" = some none)
    (z_str : PySem.W.nsIn K mainGlobals "str" = some none)
    (z_tuple : PySem.W.nsIn K mainGlobals "tuple" = some none)
    (z_zip : PySem.W.nsIn K mainGlobals "zip" = some none)
    (g_DONE : PySem.W.nsIn K mainGlobals "DONE" = some (some (.str "done" t_DONE)))
    (g_FIGURES : PySem.W.nsIn K mainGlobals "FIGURES" = some (some (.str "0123456789" t_FIGURES)))
    (g_LOST : PySem.W.nsIn K mainGlobals "LOST" = some (some (.str "not understood" t_LOST)))
    (g_MOST_PLACES : PySem.W.nsIn K mainGlobals "MOST_PLACES" = some (some (.int 7 t_MOST_PLACES)))
    (g_NOBODY : PySem.W.nsIn K mainGlobals "NOBODY" = some (some (.str "nobody" t_NOBODY)))
    (g_NONE_consoles : PySem.W.nsIn K mainGlobals "NONE_consoles" = some (some (.str "none" t_NONE_consoles)))
    (g_NONE_yards : PySem.W.nsIn K mainGlobals "NONE_yards" = some (some (.str "none" t_NONE_yards)))
    (g_NOTHING : PySem.W.nsIn K mainGlobals "NOTHING" = some (some (.str "nothing" t_NOTHING)))
    (g_SAME : PySem.W.nsIn K mainGlobals "SAME" = some (some (.str "same" t_SAME)))
    (g_THROUGH : PySem.W.nsIn K mainGlobals "THROUGH" = some (some (.str "through" t_THROUGH)))
    (d_SIZES : PySem.W.nsIn K mainGlobals "SIZES" = some (some (.ref D_SIZES)))
    (dl_SIZES : K.lookup D_SIZES = some ⟨.type "dict", none, .dict es_SIZES n_SIZES, #[]⟩)
    (ds_SIZES : (D_SIZES == sysModules) = false)
    (de_SIZES : entOk w.params es_SIZES.toList kv_SIZES)
    (a_check_yard : PySem.W.nsIn K mainGlobals "check_yard" = some (some (.ref f_check_yard)))
    (l_check_yard : K.lookup f_check_yard = some ⟨oc_check_yard, od_check_yard, .func (PySem.W.fnOf "check_yard" "check_yard" (defArgs s_check_yard) (defBody s_check_yard) (defScope s_check_yard) .none kV_check_yard dc_check_yard pm_check_yard an_check_yard cd_check_yard ct_check_yard), sl_check_yard⟩)
    (c_check_yard : PySem.W.codeIn K cd_check_yard "check_yard" = true)
    (k_check_yard : PySem.W.keepIn K (.ref f_check_yard) = true)
    (a_is_string : PySem.W.nsIn K mainGlobals "is_string" = some (some (.ref f_is_string)))
    (l_is_string : K.lookup f_is_string = some ⟨oc_is_string, od_is_string, .func (PySem.W.fnOf "is_string" "is_string" (defArgs s_is_string) (defBody s_is_string) (defScope s_is_string) .none kV_is_string dc_is_string pm_is_string an_is_string cd_is_string ct_is_string), sl_is_string⟩)
    (c_is_string : PySem.W.codeIn K cd_is_string "is_string" = true)
    (k_is_string : PySem.W.keepIn K (.ref f_is_string) = true)
    (a_has_form : PySem.W.nsIn K mainGlobals "has_form" = some (some (.ref f_has_form)))
    (l_has_form : K.lookup f_has_form = some ⟨oc_has_form, od_has_form, .func (PySem.W.fnOf "has_form" "has_form" (defArgs s_has_form) (defBody s_has_form) (defScope s_has_form) .none kV_has_form dc_has_form pm_has_form an_has_form cd_has_form ct_has_form), sl_has_form⟩)
    (c_has_form : PySem.W.codeIn K cd_has_form "has_form" = true)
    (k_has_form : PySem.W.keepIn K (.ref f_has_form) = true)
    (a_is_whole : PySem.W.nsIn K mainGlobals "is_whole" = some (some (.ref f_is_whole)))
    (l_is_whole : K.lookup f_is_whole = some ⟨oc_is_whole, od_is_whole, .func (PySem.W.fnOf "is_whole" "is_whole" (defArgs s_is_whole) (defBody s_is_whole) (defScope s_is_whole) .none kV_is_whole dc_is_whole pm_is_whole an_is_whole cd_is_whole ct_is_whole), sl_is_whole⟩)
    (c_is_whole : PySem.W.codeIn K cd_is_whole "is_whole" = true)
    (k_is_whole : PySem.W.keepIn K (.ref f_is_whole) = true)
    (a_is_between : PySem.W.nsIn K mainGlobals "is_between" = some (some (.ref f_is_between)))
    (l_is_between : K.lookup f_is_between = some ⟨oc_is_between, od_is_between, .func (PySem.W.fnOf "is_between" "is_between" (defArgs s_is_between) (defBody s_is_between) (defScope s_is_between) .none kV_is_between dc_is_between pm_is_between an_is_between cd_is_between ct_is_between), sl_is_between⟩)
    (c_is_between : PySem.W.codeIn K cd_is_between "is_between" = true)
    (k_is_between : PySem.W.keepIn K (.ref f_is_between) = true)
    (a_is_place_of : PySem.W.nsIn K mainGlobals "is_place_of" = some (some (.ref f_is_place_of)))
    (l_is_place_of : K.lookup f_is_place_of = some ⟨oc_is_place_of, od_is_place_of, .func (PySem.W.fnOf "is_place_of" "is_place_of" (defArgs s_is_place_of) (defBody s_is_place_of) (defScope s_is_place_of) .none kV_is_place_of dc_is_place_of pm_is_place_of an_is_place_of cd_is_place_of ct_is_place_of), sl_is_place_of⟩)
    (c_is_place_of : PySem.W.codeIn K cd_is_place_of "is_place_of" = true)
    (k_is_place_of : PySem.W.keepIn K (.ref f_is_place_of) = true)
    (a_check_deed : PySem.W.nsIn K mainGlobals "check_deed" = some (some (.ref f_check_deed)))
    (l_check_deed : K.lookup f_check_deed = some ⟨oc_check_deed, od_check_deed, .func (PySem.W.fnOf "check_deed" "check_deed" (defArgs s_check_deed) (defBody s_check_deed) (defScope s_check_deed) .none kV_check_deed dc_check_deed pm_check_deed an_check_deed cd_check_deed ct_check_deed), sl_check_deed⟩)
    (c_check_deed : PySem.W.codeIn K cd_check_deed "check_deed" = true)
    (k_check_deed : PySem.W.keepIn K (.ref f_check_deed) = true)
    (a_is_near_by : PySem.W.nsIn K mainGlobals "is_near_by" = some (some (.ref f_is_near_by)))
    (l_is_near_by : K.lookup f_is_near_by = some ⟨oc_is_near_by, od_is_near_by, .func (PySem.W.fnOf "is_near_by" "is_near_by" (defArgs s_is_near_by) (defBody s_is_near_by) (defScope s_is_near_by) .none kV_is_near_by dc_is_near_by pm_is_near_by an_is_near_by cd_is_near_by ct_is_near_by), sl_is_near_by⟩)
    (c_is_near_by : PySem.W.codeIn K cd_is_near_by "is_near_by" = true)
    (k_is_near_by : PySem.W.keepIn K (.ref f_is_near_by) = true)
    (a_places_of : PySem.W.nsIn K mainGlobals "places_of" = some (some (.ref f_places_of)))
    (l_places_of : K.lookup f_places_of = some ⟨oc_places_of, od_places_of, .func (PySem.W.fnOf "places_of" "places_of" (defArgs s_places_of) (defBody s_places_of) (defScope s_places_of) .none kV_places_of dc_places_of pm_places_of an_places_of cd_places_of ct_places_of), sl_places_of⟩)
    (c_places_of : PySem.W.codeIn K cd_places_of "places_of" = true)
    (k_places_of : PySem.W.keepIn K (.ref f_places_of) = true)
    (a_has_between : PySem.W.nsIn K mainGlobals "has_between" = some (some (.ref f_has_between)))
    (l_has_between : K.lookup f_has_between = some ⟨oc_has_between, od_has_between, .func (PySem.W.fnOf "has_between" "has_between" (defArgs s_has_between) (defBody s_has_between) (defScope s_has_between) .none kV_has_between dc_has_between pm_has_between an_has_between cd_has_between ct_has_between), sl_has_between⟩)
    (c_has_between : PySem.W.codeIn K cd_has_between "has_between" = true)
    (k_has_between : PySem.W.keepIn K (.ref f_has_between) = true)
    (a_reason_against : PySem.W.nsIn K mainGlobals "reason_against" = some (some (.ref f_reason_against)))
    (l_reason_against : K.lookup f_reason_against = some ⟨oc_reason_against, od_reason_against, .func (PySem.W.fnOf "reason_against" "reason_against" (defArgs s_reason_against) (defBody s_reason_against) (defScope s_reason_against) .none kV_reason_against dc_reason_against pm_reason_against an_reason_against cd_reason_against ct_reason_against), sl_reason_against⟩)
    (c_reason_against : PySem.W.codeIn K cd_reason_against "reason_against" = true)
    (k_reason_against : PySem.W.keepIn K (.ref f_reason_against) = true)
    (a_union_of : PySem.W.nsIn K mainGlobals "union_of" = some (some (.ref f_union_of)))
    (l_union_of : K.lookup f_union_of = some ⟨oc_union_of, od_union_of, .func (PySem.W.fnOf "union_of" "union_of" (defArgs s_union_of) (defBody s_union_of) (defScope s_union_of) .none kV_union_of dc_union_of pm_union_of an_union_of cd_union_of ct_union_of), sl_union_of⟩)
    (c_union_of : PySem.W.codeIn K cd_union_of "union_of" = true)
    (k_union_of : PySem.W.keepIn K (.ref f_union_of) = true)
    (a_without : PySem.W.nsIn K mainGlobals "without" = some (some (.ref f_without)))
    (l_without : K.lookup f_without = some ⟨oc_without, od_without, .func (PySem.W.fnOf "without" "without" (defArgs s_without) (defBody s_without) (defScope s_without) .none kV_without dc_without pm_without an_without cd_without ct_without), sl_without⟩)
    (c_without : PySem.W.codeIn K cd_without "without" = true)
    (k_without : PySem.W.keepIn K (.ref f_without) = true)
    (a_space_behind : PySem.W.nsIn K mainGlobals "space_behind" = some (some (.ref f_space_behind)))
    (l_space_behind : K.lookup f_space_behind = some ⟨oc_space_behind, od_space_behind, .func (PySem.W.fnOf "space_behind" "space_behind" (defArgs s_space_behind) (defBody s_space_behind) (defScope s_space_behind) .none kV_space_behind dc_space_behind pm_space_behind an_space_behind cd_space_behind ct_space_behind), sl_space_behind⟩)
    (c_space_behind : PySem.W.codeIn K cd_space_behind "space_behind" = true)
    (k_space_behind : PySem.W.keepIn K (.ref f_space_behind) = true)
    (a_Yard_do : PySem.W.findIn K (.ref C_Yard) "do" = some (some (.ref f_Yard_do)))
    (i_Yard_do : PySem.W.isFn K (.ref f_Yard_do) = true)
    (l_Yard_do : K.lookup f_Yard_do = some ⟨oc_Yard_do, od_Yard_do, .func (PySem.W.fnOf "do" "Yard.do" (defArgs s_Yard_do) (defBody s_Yard_do) (defScope s_Yard_do) .none kV_Yard_do dc_Yard_do pm_Yard_do an_Yard_do cd_Yard_do ct_Yard_do), sl_Yard_do⟩)
    (c_Yard_do : PySem.W.codeIn K cd_Yard_do "Yard.do" = true)
    (k_Yard_do : PySem.W.keepIn K (.ref f_Yard_do) = true)
    (a_single_space : PySem.W.nsIn K mainGlobals "single_space" = some (some (.ref f_single_space)))
    (l_single_space : K.lookup f_single_space = some ⟨oc_single_space, od_single_space, .func (PySem.W.fnOf "single_space" "single_space" (defArgs s_single_space) (defBody s_single_space) (defScope s_single_space) .none kV_single_space dc_single_space pm_single_space an_single_space cd_single_space ct_single_space), sl_single_space⟩)
    (c_single_space : PySem.W.codeIn K cd_single_space "single_space" = true)
    (k_single_space : PySem.W.keepIn K (.ref f_single_space) = true)
    (a_Yard_init : PySem.W.findIn K (.ref C_Yard) "__init__" = some (some (.ref f_Yard_init)))
    (i_Yard_init : PySem.W.isFn K (.ref f_Yard_init) = true)
    (l_Yard_init : K.lookup f_Yard_init = some ⟨oc_Yard_init, od_Yard_init, .func (PySem.W.fnOf "__init__" "Yard.__init__" (defArgs s_Yard_init) (defBody s_Yard_init) (defScope s_Yard_init) .none kV_Yard_init dc_Yard_init pm_Yard_init an_Yard_init cd_Yard_init ct_Yard_init), sl_Yard_init⟩)
    (c_Yard_init : PySem.W.codeIn K cd_Yard_init "Yard.__init__" = true)
    (k_Yard_init : PySem.W.keepIn K (.ref f_Yard_init) = true)
    (a_copy_of : PySem.W.nsIn K mainGlobals "copy_of" = some (some (.ref f_copy_of)))
    (l_copy_of : K.lookup f_copy_of = some ⟨oc_copy_of, od_copy_of, .func (PySem.W.fnOf "copy_of" "copy_of" (defArgs s_copy_of) (defBody s_copy_of) (defScope s_copy_of) .none kV_copy_of dc_copy_of pm_copy_of an_copy_of cd_copy_of ct_copy_of), sl_copy_of⟩)
    (c_copy_of : PySem.W.codeIn K cd_copy_of "copy_of" = true)
    (k_copy_of : PySem.W.keepIn K (.ref f_copy_of) = true)
    (a_Console_init : PySem.W.findIn K (.ref C_Console) "__init__" = some (some (.ref f_Console_init)))
    (i_Console_init : PySem.W.isFn K (.ref f_Console_init) = true)
    (l_Console_init : K.lookup f_Console_init = some ⟨oc_Console_init, od_Console_init, .func (PySem.W.fnOf "__init__" "Console.__init__" (defArgs s_Console_init) (defBody s_Console_init) (defScope s_Console_init) .none kV_Console_init dc_Console_init pm_Console_init an_Console_init cd_Console_init ct_Console_init), sl_Console_init⟩)
    (c_Console_init : PySem.W.codeIn K cd_Console_init "Console.__init__" = true)
    (k_Console_init : PySem.W.keepIn K (.ref f_Console_init) = true)
    (a_is_made_of : PySem.W.nsIn K mainGlobals "is_made_of" = some (some (.ref f_is_made_of)))
    (l_is_made_of : K.lookup f_is_made_of = some ⟨oc_is_made_of, od_is_made_of, .func (PySem.W.fnOf "is_made_of" "is_made_of" (defArgs s_is_made_of) (defBody s_is_made_of) (defScope s_is_made_of) .none kV_is_made_of dc_is_made_of pm_is_made_of an_is_made_of cd_is_made_of ct_is_made_of), sl_is_made_of⟩)
    (c_is_made_of : PySem.W.codeIn K cd_is_made_of "is_made_of" = true)
    (k_is_made_of : PySem.W.keepIn K (.ref f_is_made_of) = true)
    (a_number_in : PySem.W.nsIn K mainGlobals "number_in" = some (some (.ref f_number_in)))
    (l_number_in : K.lookup f_number_in = some ⟨oc_number_in, od_number_in, .func (PySem.W.fnOf "number_in" "number_in" (defArgs s_number_in) (defBody s_number_in) (defScope s_number_in) .none kV_number_in dc_number_in pm_number_in an_number_in cd_number_in ct_number_in), sl_number_in⟩)
    (c_number_in : PySem.W.codeIn K cd_number_in "number_in" = true)
    (k_number_in : PySem.W.keepIn K (.ref f_number_in) = true)
    (a_numbers_in : PySem.W.nsIn K mainGlobals "numbers_in" = some (some (.ref f_numbers_in)))
    (l_numbers_in : K.lookup f_numbers_in = some ⟨oc_numbers_in, od_numbers_in, .func (PySem.W.fnOf "numbers_in" "numbers_in" (defArgs s_numbers_in) (defBody s_numbers_in) (defScope s_numbers_in) .none kV_numbers_in dc_numbers_in pm_numbers_in an_numbers_in cd_numbers_in ct_numbers_in), sl_numbers_in⟩)
    (c_numbers_in : PySem.W.codeIn K cd_numbers_in "numbers_in" = true)
    (k_numbers_in : PySem.W.keepIn K (.ref f_numbers_in) = true)
    (a_common_of : PySem.W.nsIn K mainGlobals "common_of" = some (some (.ref f_common_of)))
    (l_common_of : K.lookup f_common_of = some ⟨oc_common_of, od_common_of, .func (PySem.W.fnOf "common_of" "common_of" (defArgs s_common_of) (defBody s_common_of) (defScope s_common_of) .none kV_common_of dc_common_of pm_common_of an_common_of cd_common_of ct_common_of), sl_common_of⟩)
    (c_common_of : PySem.W.codeIn K cd_common_of "common_of" = true)
    (k_common_of : PySem.W.keepIn K (.ref f_common_of) = true)
    (a_closing_by : PySem.W.nsIn K mainGlobals "closing_by" = some (some (.ref f_closing_by)))
    (l_closing_by : K.lookup f_closing_by = some ⟨oc_closing_by, od_closing_by, .func (PySem.W.fnOf "closing_by" "closing_by" (defArgs s_closing_by) (defBody s_closing_by) (defScope s_closing_by) .none kV_closing_by dc_closing_by pm_closing_by an_closing_by cd_closing_by ct_closing_by), sl_closing_by⟩)
    (c_closing_by : PySem.W.codeIn K cd_closing_by "closing_by" = true)
    (k_closing_by : PySem.W.keepIn K (.ref f_closing_by) = true)
    (a_is_lot_of : PySem.W.nsIn K mainGlobals "is_lot_of" = some (some (.ref f_is_lot_of)))
    (l_is_lot_of : K.lookup f_is_lot_of = some ⟨oc_is_lot_of, od_is_lot_of, .func (PySem.W.fnOf "is_lot_of" "is_lot_of" (defArgs s_is_lot_of) (defBody s_is_lot_of) (defScope s_is_lot_of) .none kV_is_lot_of dc_is_lot_of pm_is_lot_of an_is_lot_of cd_is_lot_of ct_is_lot_of), sl_is_lot_of⟩)
    (c_is_lot_of : PySem.W.codeIn K cd_is_lot_of "is_lot_of" = true)
    (k_is_lot_of : PySem.W.keepIn K (.ref f_is_lot_of) = true)
    (a_is_lot : PySem.W.nsIn K mainGlobals "is_lot" = some (some (.ref f_is_lot)))
    (l_is_lot : K.lookup f_is_lot = some ⟨oc_is_lot, od_is_lot, .func (PySem.W.fnOf "is_lot" "is_lot" (defArgs s_is_lot) (defBody s_is_lot) (defScope s_is_lot) .none kV_is_lot dc_is_lot pm_is_lot an_is_lot cd_is_lot ct_is_lot), sl_is_lot⟩)
    (c_is_lot : PySem.W.codeIn K cd_is_lot "is_lot" = true)
    (k_is_lot : PySem.W.keepIn K (.ref f_is_lot) = true)
    (a_lot_text : PySem.W.nsIn K mainGlobals "lot_text" = some (some (.ref f_lot_text)))
    (l_lot_text : K.lookup f_lot_text = some ⟨oc_lot_text, od_lot_text, .func (PySem.W.fnOf "lot_text" "lot_text" (defArgs s_lot_text) (defBody s_lot_text) (defScope s_lot_text) .none kV_lot_text dc_lot_text pm_lot_text an_lot_text cd_lot_text ct_lot_text), sl_lot_text⟩)
    (c_lot_text : PySem.W.codeIn K cd_lot_text "lot_text" = true)
    (k_lot_text : PySem.W.keepIn K (.ref f_lot_text) = true)
    (a_said_of_closing : PySem.W.nsIn K mainGlobals "said_of_closing" = some (some (.ref f_said_of_closing)))
    (l_said_of_closing : K.lookup f_said_of_closing = some ⟨oc_said_of_closing, od_said_of_closing, .func (PySem.W.fnOf "said_of_closing" "said_of_closing" (defArgs s_said_of_closing) (defBody s_said_of_closing) (defScope s_said_of_closing) .none kV_said_of_closing dc_said_of_closing pm_said_of_closing an_said_of_closing cd_said_of_closing ct_said_of_closing), sl_said_of_closing⟩)
    (c_said_of_closing : PySem.W.codeIn K cd_said_of_closing "said_of_closing" = true)
    (k_said_of_closing : PySem.W.keepIn K (.ref f_said_of_closing) = true)
    (a_said_of_deed : PySem.W.nsIn K mainGlobals "said_of_deed" = some (some (.ref f_said_of_deed)))
    (l_said_of_deed : K.lookup f_said_of_deed = some ⟨oc_said_of_deed, od_said_of_deed, .func (PySem.W.fnOf "said_of_deed" "said_of_deed" (defArgs s_said_of_deed) (defBody s_said_of_deed) (defScope s_said_of_deed) .none kV_said_of_deed dc_said_of_deed pm_said_of_deed an_said_of_deed cd_said_of_deed ct_said_of_deed), sl_said_of_deed⟩)
    (c_said_of_deed : PySem.W.codeIn K cd_said_of_deed "said_of_deed" = true)
    (k_said_of_deed : PySem.W.keepIn K (.ref f_said_of_deed) = true)
    (a_said_of_reach : PySem.W.nsIn K mainGlobals "said_of_reach" = some (some (.ref f_said_of_reach)))
    (l_said_of_reach : K.lookup f_said_of_reach = some ⟨oc_said_of_reach, od_said_of_reach, .func (PySem.W.fnOf "said_of_reach" "said_of_reach" (defArgs s_said_of_reach) (defBody s_said_of_reach) (defScope s_said_of_reach) .none kV_said_of_reach dc_said_of_reach pm_said_of_reach an_said_of_reach cd_said_of_reach ct_said_of_reach), sl_said_of_reach⟩)
    (c_said_of_reach : PySem.W.codeIn K cd_said_of_reach "said_of_reach" = true)
    (k_said_of_reach : PySem.W.keepIn K (.ref f_said_of_reach) = true)
    (a_are_tied : PySem.W.nsIn K mainGlobals "are_tied" = some (some (.ref f_are_tied)))
    (l_are_tied : K.lookup f_are_tied = some ⟨oc_are_tied, od_are_tied, .func (PySem.W.fnOf "are_tied" "are_tied" (defArgs s_are_tied) (defBody s_are_tied) (defScope s_are_tied) .none kV_are_tied dc_are_tied pm_are_tied an_are_tied cd_are_tied ct_are_tied), sl_are_tied⟩)
    (c_are_tied : PySem.W.codeIn K cd_are_tied "are_tied" = true)
    (k_are_tied : PySem.W.keepIn K (.ref f_are_tied) = true)
    (a_held_with : PySem.W.nsIn K mainGlobals "held_with" = some (some (.ref f_held_with)))
    (l_held_with : K.lookup f_held_with = some ⟨oc_held_with, od_held_with, .func (PySem.W.fnOf "held_with" "held_with" (defArgs s_held_with) (defBody s_held_with) (defScope s_held_with) .none kV_held_with dc_held_with pm_held_with an_held_with cd_held_with ct_held_with), sl_held_with⟩)
    (c_held_with : PySem.W.codeIn K cd_held_with "held_with" = true)
    (k_held_with : PySem.W.keepIn K (.ref f_held_with) = true)
    (a_parts_by : PySem.W.nsIn K mainGlobals "parts_by" = some (some (.ref f_parts_by)))
    (l_parts_by : K.lookup f_parts_by = some ⟨oc_parts_by, od_parts_by, .func (PySem.W.fnOf "parts_by" "parts_by" (defArgs s_parts_by) (defBody s_parts_by) (defScope s_parts_by) .none kV_parts_by dc_parts_by pm_parts_by an_parts_by cd_parts_by ct_parts_by), sl_parts_by⟩)
    (c_parts_by : PySem.W.codeIn K cd_parts_by "parts_by" = true)
    (k_parts_by : PySem.W.keepIn K (.ref f_parts_by) = true)
    (a_Yard_parts : PySem.W.findIn K (.ref C_Yard) "parts" = some (some (.ref f_Yard_parts)))
    (i_Yard_parts : PySem.W.isFn K (.ref f_Yard_parts) = true)
    (l_Yard_parts : K.lookup f_Yard_parts = some ⟨oc_Yard_parts, od_Yard_parts, .func (PySem.W.fnOf "parts" "Yard.parts" (defArgs s_Yard_parts) (defBody s_Yard_parts) (defScope s_Yard_parts) .none kV_Yard_parts dc_Yard_parts pm_Yard_parts an_Yard_parts cd_Yard_parts ct_Yard_parts), sl_Yard_parts⟩)
    (c_Yard_parts : PySem.W.codeIn K cd_Yard_parts "Yard.parts" = true)
    (k_Yard_parts : PySem.W.keepIn K (.ref f_Yard_parts) = true)
    (a_all_lots : PySem.W.nsIn K mainGlobals "all_lots" = some (some (.ref f_all_lots)))
    (l_all_lots : K.lookup f_all_lots = some ⟨oc_all_lots, od_all_lots, .func (PySem.W.fnOf "all_lots" "all_lots" (defArgs s_all_lots) (defBody s_all_lots) (defScope s_all_lots) .none kV_all_lots dc_all_lots pm_all_lots an_all_lots cd_all_lots ct_all_lots), sl_all_lots⟩)
    (c_all_lots : PySem.W.codeIn K cd_all_lots "all_lots" = true)
    (k_all_lots : PySem.W.keepIn K (.ref f_all_lots) = true)
    (a_is_within : PySem.W.nsIn K mainGlobals "is_within" = some (some (.ref f_is_within)))
    (l_is_within : K.lookup f_is_within = some ⟨oc_is_within, od_is_within, .func (PySem.W.fnOf "is_within" "is_within" (defArgs s_is_within) (defBody s_is_within) (defScope s_is_within) .none kV_is_within dc_is_within pm_is_within an_is_within cd_is_within ct_is_within), sl_is_within⟩)
    (c_is_within : PySem.W.codeIn K cd_is_within "is_within" = true)
    (k_is_within : PySem.W.keepIn K (.ref f_is_within) = true)
    (a_is_open_by : PySem.W.nsIn K mainGlobals "is_open_by" = some (some (.ref f_is_open_by)))
    (l_is_open_by : K.lookup f_is_open_by = some ⟨oc_is_open_by, od_is_open_by, .func (PySem.W.fnOf "is_open_by" "is_open_by" (defArgs s_is_open_by) (defBody s_is_open_by) (defScope s_is_open_by) .none kV_is_open_by dc_is_open_by pm_is_open_by an_is_open_by cd_is_open_by ct_is_open_by), sl_is_open_by⟩)
    (c_is_open_by : PySem.W.codeIn K cd_is_open_by "is_open_by" = true)
    (k_is_open_by : PySem.W.keepIn K (.ref f_is_open_by) = true)
    (a_open_lots_by : PySem.W.nsIn K mainGlobals "open_lots_by" = some (some (.ref f_open_lots_by)))
    (l_open_lots_by : K.lookup f_open_lots_by = some ⟨oc_open_lots_by, od_open_lots_by, .func (PySem.W.fnOf "open_lots_by" "open_lots_by" (defArgs s_open_lots_by) (defBody s_open_lots_by) (defScope s_open_lots_by) .none kV_open_lots_by dc_open_lots_by pm_open_lots_by an_open_lots_by cd_open_lots_by ct_open_lots_by), sl_open_lots_by⟩)
    (c_open_lots_by : PySem.W.codeIn K cd_open_lots_by "open_lots_by" = true)
    (k_open_lots_by : PySem.W.keepIn K (.ref f_open_lots_by) = true)
    (a_Yard_undo : PySem.W.findIn K (.ref C_Yard) "undo" = some (some (.ref f_Yard_undo)))
    (i_Yard_undo : PySem.W.isFn K (.ref f_Yard_undo) = true)
    (l_Yard_undo : K.lookup f_Yard_undo = some ⟨oc_Yard_undo, od_Yard_undo, .func (PySem.W.fnOf "undo" "Yard.undo" (defArgs s_Yard_undo) (defBody s_Yard_undo) (defScope s_Yard_undo) .none kV_Yard_undo dc_Yard_undo pm_Yard_undo an_Yard_undo cd_Yard_undo ct_Yard_undo), sl_Yard_undo⟩)
    (c_Yard_undo : PySem.W.codeIn K cd_Yard_undo "Yard.undo" = true)
    (k_Yard_undo : PySem.W.keepIn K (.ref f_Yard_undo) = true)
    (a_said_of_undo : PySem.W.nsIn K mainGlobals "said_of_undo" = some (some (.ref f_said_of_undo)))
    (l_said_of_undo : K.lookup f_said_of_undo = some ⟨oc_said_of_undo, od_said_of_undo, .func (PySem.W.fnOf "said_of_undo" "said_of_undo" (defArgs s_said_of_undo) (defBody s_said_of_undo) (defScope s_said_of_undo) .none kV_said_of_undo dc_said_of_undo pm_said_of_undo an_said_of_undo cd_said_of_undo ct_said_of_undo), sl_said_of_undo⟩)
    (c_said_of_undo : PySem.W.codeIn K cd_said_of_undo "said_of_undo" = true)
    (k_said_of_undo : PySem.W.keepIn K (.ref f_said_of_undo) = true)
    (a_said_of_word : PySem.W.nsIn K mainGlobals "said_of_word" = some (some (.ref f_said_of_word)))
    (l_said_of_word : K.lookup f_said_of_word = some ⟨oc_said_of_word, od_said_of_word, .func (PySem.W.fnOf "said_of_word" "said_of_word" (defArgs s_said_of_word) (defBody s_said_of_word) (defScope s_said_of_word) .none kV_said_of_word dc_said_of_word pm_said_of_word an_said_of_word cd_said_of_word ct_said_of_word), sl_said_of_word⟩)
    (c_said_of_word : PySem.W.codeIn K cd_said_of_word "said_of_word" = true)
    (k_said_of_word : PySem.W.keepIn K (.ref f_said_of_word) = true)
    (a_words_of : PySem.W.nsIn K mainGlobals "words_of" = some (some (.ref f_words_of)))
    (l_words_of : K.lookup f_words_of = some ⟨oc_words_of, od_words_of, .func (PySem.W.fnOf "words_of" "words_of" (defArgs s_words_of) (defBody s_words_of) (defScope s_words_of) .none kV_words_of dc_words_of pm_words_of an_words_of cd_words_of ct_words_of), sl_words_of⟩)
    (c_words_of : PySem.W.codeIn K cd_words_of "words_of" = true)
    (k_words_of : PySem.W.keepIn K (.ref f_words_of) = true)
    (a_Console_say : PySem.W.findIn K (.ref C_Console) "say" = some (some (.ref f_Console_say)))
    (i_Console_say : PySem.W.isFn K (.ref f_Console_say) = true)
    (l_Console_say : K.lookup f_Console_say = some ⟨oc_Console_say, od_Console_say, .func (PySem.W.fnOf "say" "Console.say" (defArgs s_Console_say) (defBody s_Console_say) (defScope s_Console_say) .none kV_Console_say dc_Console_say pm_Console_say an_Console_say cd_Console_say ct_Console_say), sl_Console_say⟩)
    (c_Console_say : PySem.W.codeIn K cd_Console_say "Console.say" = true)
    (k_Console_say : PySem.W.keepIn K (.ref f_Console_say) = true)
    (a__law_alone : PySem.W.nsIn K mainGlobals "_law_alone" = some (some (.ref f__law_alone)))
    (l__law_alone : K.lookup f__law_alone = some ⟨oc__law_alone, od__law_alone, .func (PySem.W.fnOf "_law_alone" "_law_alone" (defArgs s__law_alone) (defBody s__law_alone) (defScope s__law_alone) .none kV__law_alone dc__law_alone pm__law_alone an__law_alone cd__law_alone ct__law_alone), sl__law_alone⟩)
    (c__law_alone : PySem.W.codeIn K cd__law_alone "_law_alone" = true)
    (k__law_alone : PySem.W.keepIn K (.ref f__law_alone) = true)
    (a__law_take : PySem.W.nsIn K mainGlobals "_law_take" = some (some (.ref f__law_take)))
    (l__law_take : K.lookup f__law_take = some ⟨oc__law_take, od__law_take, .func (PySem.W.fnOf "_law_take" "_law_take" (defArgs s__law_take) (defBody s__law_take) (defScope s__law_take) .none kV__law_take dc__law_take pm__law_take an__law_take cd__law_take ct__law_take), sl__law_take⟩)
    (c__law_take : PySem.W.codeIn K cd__law_take "_law_take" = true)
    (k__law_take : PySem.W.keepIn K (.ref f__law_take) = true)
    (a__law_of : PySem.W.nsIn K mainGlobals "_law_of" = some (some (.ref f__law_of)))
    (l__law_of : K.lookup f__law_of = some ⟨oc__law_of, od__law_of, .func (PySem.W.fnOf "_law_of" "_law_of" (defArgs s__law_of) (defBody s__law_of) (defScope s__law_of) .none kV__law_of dc__law_of pm__law_of an__law_of cd__law_of ct__law_of), sl__law_of⟩)
    (c__law_of : PySem.W.codeIn K cd__law_of "_law_of" = true)
    (k__law_of : PySem.W.keepIn K (.ref f__law_of) = true)
    (a__law_deed : PySem.W.nsIn K mainGlobals "_law_deed" = some (some (.ref f__law_deed)))
    (l__law_deed : K.lookup f__law_deed = some ⟨oc__law_deed, od__law_deed, .func (PySem.W.fnOf "_law_deed" "_law_deed" (defArgs s__law_deed) (defBody s__law_deed) (defScope s__law_deed) .none kV__law_deed dc__law_deed pm__law_deed an__law_deed cd__law_deed ct__law_deed), sl__law_deed⟩)
    (c__law_deed : PySem.W.codeIn K cd__law_deed "_law_deed" = true)
    (k__law_deed : PySem.W.keepIn K (.ref f__law_deed) = true)
    (a__law_did : PySem.W.nsIn K mainGlobals "_law_did" = some (some (.ref f__law_did)))
    (l__law_did : K.lookup f__law_did = some ⟨oc__law_did, od__law_did, .func (PySem.W.fnOf "_law_did" "_law_did" (defArgs s__law_did) (defBody s__law_did) (defScope s__law_did) .none kV__law_did dc__law_did pm__law_did an__law_did cd__law_did ct__law_did), sl__law_did⟩)
    (c__law_did : PySem.W.codeIn K cd__law_did "_law_did" = true)
    (k__law_did : PySem.W.keepIn K (.ref f__law_did) = true)
    (a__law_line : PySem.W.nsIn K mainGlobals "_law_line" = some (some (.ref f__law_line)))
    (l__law_line : K.lookup f__law_line = some ⟨oc__law_line, od__law_line, .func (PySem.W.fnOf "_law_line" "_law_line" (defArgs s__law_line) (defBody s__law_line) (defScope s__law_line) .none kV__law_line dc__law_line pm__law_line an__law_line cd__law_line ct__law_line), sl__law_line⟩)
    (c__law_line : PySem.W.codeIn K cd__law_line "_law_line" = true)
    (k__law_line : PySem.W.keepIn K (.ref f__law_line) = true)
    (a__law_places : PySem.W.nsIn K mainGlobals "_law_places" = some (some (.ref f__law_places)))
    (l__law_places : K.lookup f__law_places = some ⟨oc__law_places, od__law_places, .func (PySem.W.fnOf "_law_places" "_law_places" (defArgs s__law_places) (defBody s__law_places) (defScope s__law_places) .none kV__law_places dc__law_places pm__law_places an__law_places cd__law_places ct__law_places), sl__law_places⟩)
    (c__law_places : PySem.W.codeIn K cd__law_places "_law_places" = true)
    (k__law_places : PySem.W.keepIn K (.ref f__law_places) = true)
    (a__law_well : PySem.W.nsIn K mainGlobals "_law_well" = some (some (.ref f__law_well)))
    (l__law_well : K.lookup f__law_well = some ⟨oc__law_well, od__law_well, .func (PySem.W.fnOf "_law_well" "_law_well" (defArgs s__law_well) (defBody s__law_well) (defScope s__law_well) .none kV__law_well dc__law_well pm__law_well an__law_well cd__law_well ct__law_well), sl__law_well⟩)
    (c__law_well : PySem.W.codeIn K cd__law_well "_law_well" = true)
    (k__law_well : PySem.W.keepIn K (.ref f__law_well) = true)
    (a_law : PySem.W.nsIn K mainGlobals "law" = some (some (.ref f_law)))
    (l_law : K.lookup f_law = some ⟨oc_law, od_law, .func (PySem.W.fnOf "law" "law" (defArgs s_law) (defBody s_law) (defScope s_law) .none kV_law dc_law pm_law an_law cd_law ct_law), sl_law⟩)
    (c_law : PySem.W.codeIn K cd_law "law" = true)
    (k_law : PySem.W.keepIn K (.ref f_law) = true)
    (pg_Console : PySem.W.plainGet K C_Console Str.empty = true)
    (hd_Console : PySem.W.hasDictIn K C_Console = true)
    (po_Console : PySem.W.plainOver K C_Console = true)
    (sa_Console : PySem.W.findIn K (.ref C_Console) "__setattr__" = some (some (.builtin "object.__setattr__")))
    (mk_Console : PySem.W.makesIn K C_Console = true)
    (kc_Console : PySem.W.keepIn K (.ref C_Console) = true)
    (pg_Yard : PySem.W.plainGet K C_Yard Str.empty = true)
    (hd_Yard : PySem.W.hasDictIn K C_Yard = true)
    (po_Yard : PySem.W.plainOver K C_Yard = true)
    (sa_Yard : PySem.W.findIn K (.ref C_Yard) "__setattr__" = some (some (.builtin "object.__setattr__")))
    (mk_Yard : PySem.W.makesIn K C_Yard = true)
    (kc_Yard : PySem.W.keepIn K (.ref C_Yard) = true)
    (nf_Console_yard : PySem.W.findIn K (.ref C_Console) "yard" = some none)
    (nf_Yard_deeds : PySem.W.findIn K (.ref C_Yard) "deeds" = some none)
    (nf_Yard_past : PySem.W.findIn K (.ref C_Yard) "past" = some none)
    (nf_Yard_places : PySem.W.findIn K (.ref C_Yard) "places" = some none)
    (nf_Yard_space : PySem.W.findIn K (.ref C_Yard) "space" = some none)
    (eC_NearError : PySem.W.subIn K (.ref C_NearError) (.type "BaseException") = some true)
    (tC_NearError : PySem.W.typeIn K (.ref C_NearError) = some (.type "type"))
    (hC_NearError : PySem.W.hasDictIn K C_NearError = true)
    (eC_InvalidNumber : PySem.W.subIn K (.ref C_InvalidNumber) (.type "BaseException") = some true)
    (tC_InvalidNumber : PySem.W.typeIn K (.ref C_InvalidNumber) = some (.type "type"))
    (hC_InvalidNumber : PySem.W.hasDictIn K C_InvalidNumber = true)
    (eC_InvalidLine : PySem.W.subIn K (.ref C_InvalidLine) (.type "BaseException") = some true)
    (tC_InvalidLine : PySem.W.typeIn K (.ref C_InvalidLine) = some (.type "type"))
    (hC_InvalidLine : PySem.W.hasDictIn K C_InvalidLine = true)
    (eC_NotAYard : PySem.W.subIn K (.ref C_NotAYard) (.type "BaseException") = some true)
    (tC_NotAYard : PySem.W.typeIn K (.ref C_NotAYard) = some (.type "type"))
    (hC_NotAYard : PySem.W.hasDictIn K C_NotAYard = true)
    (eC_InvalidDeed : PySem.W.subIn K (.ref C_InvalidDeed) (.type "BaseException") = some true)
    (tC_InvalidDeed : PySem.W.typeIn K (.ref C_InvalidDeed) = some (.type "type"))
    (hC_InvalidDeed : PySem.W.hasDictIn K C_InvalidDeed = true)
    (eC_Barred : PySem.W.subIn K (.ref C_Barred) (.type "BaseException") = some true)
    (tC_Barred : PySem.W.typeIn K (.ref C_Barred) = some (.type "type"))
    (hC_Barred : PySem.W.hasDictIn K C_Barred = true)
    (eC_NothingToUndo : PySem.W.subIn K (.ref C_NothingToUndo) (.type "BaseException") = some true)
    (tC_NothingToUndo : PySem.W.typeIn K (.ref C_NothingToUndo) = some (.type "type"))
    (hC_NothingToUndo : PySem.W.hasDictIn K C_NothingToUndo = true)
    (xl_InvalidNumber : K.lookup C_InvalidNumber = some (excClassObj nm_InvalidNumber q_InvalidNumber C_InvalidNumber N_InvalidNumber bs_InvalidNumber bm_InvalidNumber true sn_InvalidNumber sub_InvalidNumber ab_InvalidNumber col_InvalidNumber dd_InvalidNumber m0_InvalidNumber m1_InvalidNumber m2_InvalidNumber m3_InvalidNumber m5_InvalidNumber "ValueError.__new__"))
    (xr_InvalidNumber : PySem.HandSPX.refsVE bm_InvalidNumber = true)
    (xs_InvalidNumber : PySem.W.findIn K (.ref C_InvalidNumber) "__setattr__" = some (some (.builtin "object.__setattr__")))
    (xn_InvalidNumber : PySem.W.findIn K (.ref C_InvalidNumber) "given" = some none)
    (a_InvalidNumber_init : PySem.W.findIn K (.ref C_InvalidNumber) "__init__" = some (some (.ref f_InvalidNumber_init)))
    (i_InvalidNumber_init : PySem.W.isFn K (.ref f_InvalidNumber_init) = true)
    (l_InvalidNumber_init : K.lookup f_InvalidNumber_init = some ⟨oc_InvalidNumber_init, od_InvalidNumber_init, .func (PySem.W.fnOf "__init__" "InvalidNumber.__init__" (defArgs s_InvalidNumber_init) (defBody s_InvalidNumber_init) (defScope s_InvalidNumber_init) .none kV_InvalidNumber_init dc_InvalidNumber_init pm_InvalidNumber_init an_InvalidNumber_init cd_InvalidNumber_init ct_InvalidNumber_init), sl_InvalidNumber_init⟩)
    (c_InvalidNumber_init : PySem.W.codeIn K cd_InvalidNumber_init "InvalidNumber.__init__" = true)
    (k_InvalidNumber_init : PySem.W.keepIn K (.ref f_InvalidNumber_init) = true)
    (xt_InvalidNumber : PySem.W.typeIn K (.ref f_InvalidNumber_init) = some (.type "function"))
    (xk_InvalidNumber : PySem.W.keepIn K (.ref C_InvalidNumber) = true)
    (xl_InvalidLine : K.lookup C_InvalidLine = some (excClassObj nm_InvalidLine q_InvalidLine C_InvalidLine N_InvalidLine bs_InvalidLine bm_InvalidLine true sn_InvalidLine sub_InvalidLine ab_InvalidLine col_InvalidLine dd_InvalidLine m0_InvalidLine m1_InvalidLine m2_InvalidLine m3_InvalidLine m5_InvalidLine "ValueError.__new__"))
    (xr_InvalidLine : PySem.HandSPX.refsVE bm_InvalidLine = true)
    (xs_InvalidLine : PySem.W.findIn K (.ref C_InvalidLine) "__setattr__" = some (some (.builtin "object.__setattr__")))
    (xn_InvalidLine : PySem.W.findIn K (.ref C_InvalidLine) "given" = some none)
    (a_InvalidLine_init : PySem.W.findIn K (.ref C_InvalidLine) "__init__" = some (some (.ref f_InvalidLine_init)))
    (i_InvalidLine_init : PySem.W.isFn K (.ref f_InvalidLine_init) = true)
    (l_InvalidLine_init : K.lookup f_InvalidLine_init = some ⟨oc_InvalidLine_init, od_InvalidLine_init, .func (PySem.W.fnOf "__init__" "InvalidLine.__init__" (defArgs s_InvalidLine_init) (defBody s_InvalidLine_init) (defScope s_InvalidLine_init) .none kV_InvalidLine_init dc_InvalidLine_init pm_InvalidLine_init an_InvalidLine_init cd_InvalidLine_init ct_InvalidLine_init), sl_InvalidLine_init⟩)
    (c_InvalidLine_init : PySem.W.codeIn K cd_InvalidLine_init "InvalidLine.__init__" = true)
    (k_InvalidLine_init : PySem.W.keepIn K (.ref f_InvalidLine_init) = true)
    (xt_InvalidLine : PySem.W.typeIn K (.ref f_InvalidLine_init) = some (.type "function"))
    (xk_InvalidLine : PySem.W.keepIn K (.ref C_InvalidLine) = true)
    (xl_NotAYard : K.lookup C_NotAYard = some (excClassObj nm_NotAYard q_NotAYard C_NotAYard N_NotAYard bs_NotAYard bm_NotAYard true sn_NotAYard sub_NotAYard ab_NotAYard col_NotAYard dd_NotAYard m0_NotAYard m1_NotAYard m2_NotAYard m3_NotAYard m5_NotAYard "ValueError.__new__"))
    (xr_NotAYard : PySem.HandSPX.refsVE bm_NotAYard = true)
    (xs_NotAYard : PySem.W.findIn K (.ref C_NotAYard) "__setattr__" = some (some (.builtin "object.__setattr__")))
    (xn_NotAYard : PySem.W.findIn K (.ref C_NotAYard) "given" = some none)
    (a_NotAYard_init : PySem.W.findIn K (.ref C_NotAYard) "__init__" = some (some (.ref f_NotAYard_init)))
    (i_NotAYard_init : PySem.W.isFn K (.ref f_NotAYard_init) = true)
    (l_NotAYard_init : K.lookup f_NotAYard_init = some ⟨oc_NotAYard_init, od_NotAYard_init, .func (PySem.W.fnOf "__init__" "NotAYard.__init__" (defArgs s_NotAYard_init) (defBody s_NotAYard_init) (defScope s_NotAYard_init) .none kV_NotAYard_init dc_NotAYard_init pm_NotAYard_init an_NotAYard_init cd_NotAYard_init ct_NotAYard_init), sl_NotAYard_init⟩)
    (c_NotAYard_init : PySem.W.codeIn K cd_NotAYard_init "NotAYard.__init__" = true)
    (k_NotAYard_init : PySem.W.keepIn K (.ref f_NotAYard_init) = true)
    (xt_NotAYard : PySem.W.typeIn K (.ref f_NotAYard_init) = some (.type "function"))
    (xk_NotAYard : PySem.W.keepIn K (.ref C_NotAYard) = true)
    (xl_InvalidDeed : K.lookup C_InvalidDeed = some (excClassObj nm_InvalidDeed q_InvalidDeed C_InvalidDeed N_InvalidDeed bs_InvalidDeed bm_InvalidDeed true sn_InvalidDeed sub_InvalidDeed ab_InvalidDeed col_InvalidDeed dd_InvalidDeed m0_InvalidDeed m1_InvalidDeed m2_InvalidDeed m3_InvalidDeed m5_InvalidDeed "ValueError.__new__"))
    (xr_InvalidDeed : PySem.HandSPX.refsVE bm_InvalidDeed = true)
    (xs_InvalidDeed : PySem.W.findIn K (.ref C_InvalidDeed) "__setattr__" = some (some (.builtin "object.__setattr__")))
    (xn_InvalidDeed : PySem.W.findIn K (.ref C_InvalidDeed) "index" = some none)
    (a_InvalidDeed_init : PySem.W.findIn K (.ref C_InvalidDeed) "__init__" = some (some (.ref f_InvalidDeed_init)))
    (i_InvalidDeed_init : PySem.W.isFn K (.ref f_InvalidDeed_init) = true)
    (l_InvalidDeed_init : K.lookup f_InvalidDeed_init = some ⟨oc_InvalidDeed_init, od_InvalidDeed_init, .func (PySem.W.fnOf "__init__" "InvalidDeed.__init__" (defArgs s_InvalidDeed_init) (defBody s_InvalidDeed_init) (defScope s_InvalidDeed_init) .none kV_InvalidDeed_init dc_InvalidDeed_init pm_InvalidDeed_init an_InvalidDeed_init cd_InvalidDeed_init ct_InvalidDeed_init), sl_InvalidDeed_init⟩)
    (c_InvalidDeed_init : PySem.W.codeIn K cd_InvalidDeed_init "InvalidDeed.__init__" = true)
    (k_InvalidDeed_init : PySem.W.keepIn K (.ref f_InvalidDeed_init) = true)
    (xt_InvalidDeed : PySem.W.typeIn K (.ref f_InvalidDeed_init) = some (.type "function"))
    (xk_InvalidDeed : PySem.W.keepIn K (.ref C_InvalidDeed) = true)
    (xl_Barred : K.lookup C_Barred = some (excClassObj nm_Barred q_Barred C_Barred N_Barred bs_Barred bm_Barred true sn_Barred sub_Barred ab_Barred col_Barred dd_Barred m0_Barred m1_Barred m2_Barred m3_Barred m5_Barred "ValueError.__new__"))
    (xr_Barred : PySem.HandSPX.refsVE bm_Barred = true)
    (xs_Barred : PySem.W.findIn K (.ref C_Barred) "__setattr__" = some (some (.builtin "object.__setattr__")))
    (xn_Barred : PySem.W.findIn K (.ref C_Barred) "reason" = some none)
    (a_Barred_init : PySem.W.findIn K (.ref C_Barred) "__init__" = some (some (.ref f_Barred_init)))
    (i_Barred_init : PySem.W.isFn K (.ref f_Barred_init) = true)
    (l_Barred_init : K.lookup f_Barred_init = some ⟨oc_Barred_init, od_Barred_init, .func (PySem.W.fnOf "__init__" "Barred.__init__" (defArgs s_Barred_init) (defBody s_Barred_init) (defScope s_Barred_init) .none kV_Barred_init dc_Barred_init pm_Barred_init an_Barred_init cd_Barred_init ct_Barred_init), sl_Barred_init⟩)
    (c_Barred_init : PySem.W.codeIn K cd_Barred_init "Barred.__init__" = true)
    (k_Barred_init : PySem.W.keepIn K (.ref f_Barred_init) = true)
    (xt_Barred : PySem.W.typeIn K (.ref f_Barred_init) = some (.type "function"))
    (xk_Barred : PySem.W.keepIn K (.ref C_Barred) = true)
    (x0_NothingToUndo : PySem.W.excIn K C_NothingToUndo [.type "ValueError", .type "Exception", .type "BaseException", .type "object"] "ValueError.__new__" = true)
    (xk_NothingToUndo : PySem.W.keepIn K (.ref C_NothingToUndo) = true)
    (xcn : PySem.W.specialIn K (.builtin "object.__class__") "__get__" = some (some (.builtin "getset_descriptor.__get__")))
    (xct : PySem.W.takesIn K (.builtin "object.__class__") = some true)
    (ga_Barred : PySem.W.findIn K (.ref C_Barred) "__getattribute__" = some (some (.builtin "BaseException.__getattribute__")))
    (gg_Barred : PySem.W.findIn K (.ref C_Barred) "__getattr__" = some none)
    (gc_Barred : PySem.W.findIn K (.ref C_Barred) "__class__" = some (some (.builtin "object.__class__")))
    (gm_Barred : PySem.W.mroIn K C_Barred (.type "object") = some true)
    (ga_InvalidDeed : PySem.W.findIn K (.ref C_InvalidDeed) "__getattribute__" = some (some (.builtin "BaseException.__getattribute__")))
    (gg_InvalidDeed : PySem.W.findIn K (.ref C_InvalidDeed) "__getattr__" = some none)
    (gc_InvalidDeed : PySem.W.findIn K (.ref C_InvalidDeed) "__class__" = some (some (.builtin "object.__class__")))
    (gm_InvalidDeed : PySem.W.mroIn K C_InvalidDeed (.type "object") = some true)
    (ga_NothingToUndo : PySem.W.findIn K (.ref C_NothingToUndo) "__getattribute__" = some (some (.builtin "BaseException.__getattribute__")))
    (gg_NothingToUndo : PySem.W.findIn K (.ref C_NothingToUndo) "__getattr__" = some none)
    (gc_NothingToUndo : PySem.W.findIn K (.ref C_NothingToUndo) "__class__" = some (some (.builtin "object.__class__")))
    (gm_NothingToUndo : PySem.W.mroIn K C_NothingToUndo (.type "object") = some true)
    (su_Barred_Barred : PySem.W.subIn K (.ref C_Barred) (.ref C_Barred) = some true)
    (su_NearError_Barred : PySem.W.subIn K (.ref C_NearError) (.ref C_Barred) = some false)
    (su_InvalidNumber_Barred : PySem.W.subIn K (.ref C_InvalidNumber) (.ref C_Barred) = some false)
    (su_InvalidLine_Barred : PySem.W.subIn K (.ref C_InvalidLine) (.ref C_Barred) = some false)
    (su_NotAYard_Barred : PySem.W.subIn K (.ref C_NotAYard) (.ref C_Barred) = some false)
    (su_InvalidDeed_Barred : PySem.W.subIn K (.ref C_InvalidDeed) (.ref C_Barred) = some false)
    (su_NothingToUndo_Barred : PySem.W.subIn K (.ref C_NothingToUndo) (.ref C_Barred) = some false)
    (su_InvalidDeed_InvalidDeed : PySem.W.subIn K (.ref C_InvalidDeed) (.ref C_InvalidDeed) = some true)
    (su_NearError_InvalidDeed : PySem.W.subIn K (.ref C_NearError) (.ref C_InvalidDeed) = some false)
    (su_InvalidNumber_InvalidDeed : PySem.W.subIn K (.ref C_InvalidNumber) (.ref C_InvalidDeed) = some false)
    (su_InvalidLine_InvalidDeed : PySem.W.subIn K (.ref C_InvalidLine) (.ref C_InvalidDeed) = some false)
    (su_NotAYard_InvalidDeed : PySem.W.subIn K (.ref C_NotAYard) (.ref C_InvalidDeed) = some false)
    (su_Barred_InvalidDeed : PySem.W.subIn K (.ref C_Barred) (.ref C_InvalidDeed) = some false)
    (su_NothingToUndo_InvalidDeed : PySem.W.subIn K (.ref C_NothingToUndo) (.ref C_InvalidDeed) = some false)
    (su_NothingToUndo_NothingToUndo : PySem.W.subIn K (.ref C_NothingToUndo) (.ref C_NothingToUndo) = some true)
    (su_NearError_NothingToUndo : PySem.W.subIn K (.ref C_NearError) (.ref C_NothingToUndo) = some false)
    (su_InvalidNumber_NothingToUndo : PySem.W.subIn K (.ref C_InvalidNumber) (.ref C_NothingToUndo) = some false)
    (su_InvalidLine_NothingToUndo : PySem.W.subIn K (.ref C_InvalidLine) (.ref C_NothingToUndo) = some false)
    (su_NotAYard_NothingToUndo : PySem.W.subIn K (.ref C_NotAYard) (.ref C_NothingToUndo) = some false)
    (su_InvalidDeed_NothingToUndo : PySem.W.subIn K (.ref C_InvalidDeed) (.ref C_NothingToUndo) = some false)
    (su_Barred_NothingToUndo : PySem.W.subIn K (.ref C_Barred) (.ref C_NothingToUndo) = some false)
    (is_Yard_non : PySem.W.subIn K (.type "NoneType") (.ref C_Yard) = some false)
    (is_Yard_bl : PySem.W.subIn K (.type "bool") (.ref C_Yard) = some false)
    (is_Yard_int : PySem.W.subIn K (.type "int") (.ref C_Yard) = some false)
    (is_Yard_str : PySem.W.subIn K (.type "str") (.ref C_Yard) = some false)
    (is_Yard_tup : PySem.W.subIn K (.type "tuple") (.ref C_Yard) = some false)
    (is_Yard_lst : PySem.W.subIn K (.type "list") (.ref C_Yard) = some false)
    (it_Yard : PySem.W.typeIn K (.ref C_Yard) = some (.type "type"))
    (ix_Yard : PySem.W.subIn K (.ref C_Yard) (.ref C_Yard) = some true)
    (ja_Yard : PySem.W.findIn K (.ref C_Yard) "__class__" = some (some (.builtin "object.__class__")))
    (jm_Yard : PySem.W.mroIn K C_Yard (.type "object") = some true)
    : ∃ fd : FuncData, (∀ (s : Shared) (v : Value), BindsTo s fd ⟨[v], []⟩ [("script", v)]) ∧ ∀ base : Heap, K.In base → base.Ns mainGlobals mg → FnG P w K mg base 9 fa fd ["script"] (fun vs H Q E => ∀ G : Gc, G.K = K → spM G 1 m_law vs H Q E) := by
  have e := hfa.symm.trans (PySem.W.mg_of X Gh a_law)
  cases e
  obtain ⟨G, hK, hxf, h_NearError, h_InvalidNumber, h_InvalidLine, h_NotAYard, h_InvalidDeed, h_Barred, h_NothingToUndo, h_Console, h_Yard⟩ : ∃ G : Gc, G.K = K ∧ G.xf = xfOf ∧ G.cls "NearError" = C_NearError ∧ G.cls "InvalidNumber" = C_InvalidNumber ∧ G.cls "InvalidLine" = C_InvalidLine ∧ G.cls "NotAYard" = C_NotAYard ∧ G.cls "InvalidDeed" = C_InvalidDeed ∧ G.cls "Barred" = C_Barred ∧ G.cls "NothingToUndo" = C_NothingToUndo ∧ G.cls "Console" = C_Console ∧ G.cls "Yard" = C_Yard := ⟨⟨P, w, K, fun x => (([("NearError", C_NearError), ("InvalidNumber", C_InvalidNumber), ("InvalidLine", C_InvalidLine), ("NotAYard", C_NotAYard), ("InvalidDeed", C_InvalidDeed), ("Barred", C_Barred), ("NothingToUndo", C_NothingToUndo), ("Console", C_Console), ("Yard", C_Yard)] : List (Str × Addr)).lookup x).getD 0, xfOf⟩, rfl, rfl, by rfl, by rfl, by rfl, by rfl, by rfl, by rfl, by rfl, by rfl, by rfl⟩
  subst hK
  subst h_NearError
  subst h_InvalidNumber
  subst h_InvalidLine
  subst h_NotAYard
  subst h_InvalidDeed
  subst h_Barred
  subst h_NothingToUndo
  subst h_Console
  subst h_Yard
  have F_check_yard := fun_mk (st := s_check_yard) l_check_yard c_check_yard k_check_yard
  have B_check_yard := F_check_yard.binds (ps := ["value"]) fun _ _ _ _ _ _ us hl => match us, hl with | [_], _ => rfl
  have F_is_string := fun_mk (st := s_is_string) l_is_string c_is_string k_is_string
  have B_is_string := F_is_string.binds (ps := ["value"]) fun _ _ _ _ _ _ us hl => match us, hl with | [_], _ => rfl
  have F_has_form := fun_mk (st := s_has_form) l_has_form c_has_form k_has_form
  have B_has_form := F_has_form.binds (ps := ["value"]) fun _ _ _ _ _ _ us hl => match us, hl with | [_], _ => rfl
  have F_is_whole := fun_mk (st := s_is_whole) l_is_whole c_is_whole k_is_whole
  have B_is_whole := F_is_whole.binds (ps := ["value"]) fun _ _ _ _ _ _ us hl => match us, hl with | [_], _ => rfl
  have F_is_between := fun_mk (st := s_is_between) l_is_between c_is_between k_is_between
  have B_is_between := F_is_between.binds (ps := ["value", "least", "most"]) fun _ _ _ _ _ _ us hl => match us, hl with | [_, _, _], _ => rfl
  have F_is_place_of := fun_mk (st := s_is_place_of) l_is_place_of c_is_place_of k_is_place_of
  have B_is_place_of := F_is_place_of.binds (ps := ["space", "value"]) fun _ _ _ _ _ _ us hl => match us, hl with | [_, _], _ => rfl
  have F_check_deed := fun_mk (st := s_check_deed) l_check_deed c_check_deed k_check_deed
  have B_check_deed := F_check_deed.binds (ps := ["space", "value"]) fun _ _ _ _ _ _ us hl => match us, hl with | [_, _], _ => rfl
  have F_is_near_by := fun_mk (st := s_is_near_by) l_is_near_by c_is_near_by k_is_near_by
  have B_is_near_by := F_is_near_by.binds (ps := ["space", "place", "near_to"]) fun _ _ _ _ _ _ us hl => match us, hl with | [_, _, _], _ => rfl
  have F_places_of := fun_mk (st := s_places_of) l_places_of c_places_of k_places_of
  have B_places_of := F_places_of.binds (ps := ["space"]) fun _ _ _ _ _ _ us hl => match us, hl with | [_], _ => rfl
  have F_has_between := fun_mk (st := s_has_between) l_has_between c_has_between k_has_between
  have B_has_between := F_has_between.binds (ps := ["space", "one", "other"]) fun _ _ _ _ _ _ us hl => match us, hl with | [_, _, _], _ => rfl
  have F_reason_against := fun_mk (st := s_reason_against) l_reason_against c_reason_against k_reason_against
  have B_reason_against := F_reason_against.binds (ps := ["space", "deed"]) fun _ _ _ _ _ _ us hl => match us, hl with | [_, _], _ => rfl
  have F_union_of := fun_mk (st := s_union_of) l_union_of c_union_of k_union_of
  have B_union_of := F_union_of.binds (ps := ["lot", "other"]) fun _ _ _ _ _ _ us hl => match us, hl with | [_, _], _ => rfl
  have F_without := fun_mk (st := s_without) l_without c_without k_without
  have B_without := F_without.binds (ps := ["reach", "place"]) fun _ _ _ _ _ _ us hl => match us, hl with | [_, _], _ => rfl
  have F_space_behind := fun_mk (st := s_space_behind) l_space_behind c_space_behind k_space_behind
  have B_space_behind := F_space_behind.binds (ps := ["space", "deed"]) fun _ _ _ _ _ _ us hl => match us, hl with | [_, _], _ => rfl
  have F_Yard_do := fun_mk (st := s_Yard_do) l_Yard_do c_Yard_do k_Yard_do
  have B_Yard_do := F_Yard_do.binds (ps := ["self", "deed"]) fun _ _ _ _ _ _ us hl => match us, hl with | [_, _], _ => rfl
  have F_single_space := fun_mk (st := s_single_space) l_single_space c_single_space k_single_space
  have B_single_space := F_single_space.binds (ps := ["places"]) fun _ _ _ _ _ _ us hl => match us, hl with | [_], _ => rfl
  have F_Yard_init := fun_mk (st := s_Yard_init) l_Yard_init c_Yard_init k_Yard_init
  have B_Yard_init := F_Yard_init.binds (ps := ["self", "places"]) fun _ _ _ _ _ _ us hl => match us, hl with | [_, _], _ => rfl
  have F_copy_of := fun_mk (st := s_copy_of) l_copy_of c_copy_of k_copy_of
  have B_copy_of := F_copy_of.binds (ps := ["yard"]) fun _ _ _ _ _ _ us hl => match us, hl with | [_], _ => rfl
  have F_Console_init := fun_mk (st := s_Console_init) l_Console_init c_Console_init k_Console_init
  have B_Console_init := F_Console_init.binds (ps := ["self", "yard"]) fun _ _ _ _ _ _ us hl => match us, hl with | [_, _], _ => rfl
  have F_is_made_of := fun_mk (st := s_is_made_of) l_is_made_of c_is_made_of k_is_made_of
  have B_is_made_of := F_is_made_of.binds (ps := ["text", "signs"]) fun _ _ _ _ _ _ us hl => match us, hl with | [_, _], _ => rfl
  have F_number_in := fun_mk (st := s_number_in) l_number_in c_number_in k_number_in
  have B_number_in := F_number_in.binds (ps := ["word"]) fun _ _ _ _ _ _ us hl => match us, hl with | [_], _ => rfl
  have F_numbers_in := fun_mk (st := s_numbers_in) l_numbers_in c_numbers_in k_numbers_in
  have B_numbers_in := F_numbers_in.binds (ps := ["words"]) fun _ _ _ _ _ _ us hl => match us, hl with | [_], _ => rfl
  have F_common_of := fun_mk (st := s_common_of) l_common_of c_common_of k_common_of
  have B_common_of := F_common_of.binds (ps := ["lot", "other"]) fun _ _ _ _ _ _ us hl => match us, hl with | [_, _], _ => rfl
  have F_closing_by := fun_mk (st := s_closing_by) l_closing_by c_closing_by k_closing_by
  have B_closing_by := F_closing_by.binds (ps := ["space", "lot"]) fun _ _ _ _ _ _ us hl => match us, hl with | [_, _], _ => rfl
  have F_is_lot_of := fun_mk (st := s_is_lot_of) l_is_lot_of c_is_lot_of k_is_lot_of
  have B_is_lot_of := F_is_lot_of.binds (ps := ["places", "value"]) fun _ _ _ _ _ _ us hl => match us, hl with | [_, _], _ => rfl
  have F_is_lot := fun_mk (st := s_is_lot) l_is_lot c_is_lot k_is_lot
  have B_is_lot := F_is_lot.binds (ps := ["space", "value"]) fun _ _ _ _ _ _ us hl => match us, hl with | [_, _], _ => rfl
  have F_lot_text := fun_mk (st := s_lot_text) l_lot_text c_lot_text k_lot_text
  have B_lot_text := F_lot_text.binds (ps := ["lot"]) fun _ _ _ _ _ _ us hl => match us, hl with | [_], _ => rfl
  have F_said_of_closing := fun_mk (st := s_said_of_closing) l_said_of_closing c_said_of_closing k_said_of_closing
  have B_said_of_closing := F_said_of_closing.binds (ps := ["yard", "lot"]) fun _ _ _ _ _ _ us hl => match us, hl with | [_, _], _ => rfl
  have F_said_of_deed := fun_mk (st := s_said_of_deed) l_said_of_deed c_said_of_deed k_said_of_deed
  have B_said_of_deed := F_said_of_deed.binds (ps := ["yard", "deed"]) fun _ _ _ _ _ _ us hl => match us, hl with | [_, _], _ => rfl
  have F_said_of_reach := fun_mk (st := s_said_of_reach) l_said_of_reach c_said_of_reach k_said_of_reach
  have B_said_of_reach := F_said_of_reach.binds (ps := ["yard", "place"]) fun _ _ _ _ _ _ us hl => match us, hl with | [_, _], _ => rfl
  have F_are_tied := fun_mk (st := s_are_tied) l_are_tied c_are_tied k_are_tied
  have B_are_tied := F_are_tied.binds (ps := ["space", "one", "other"]) fun _ _ _ _ _ _ us hl => match us, hl with | [_, _, _], _ => rfl
  have F_held_with := fun_mk (st := s_held_with) l_held_with c_held_with k_held_with
  have B_held_with := F_held_with.binds (ps := ["space", "place"]) fun _ _ _ _ _ _ us hl => match us, hl with | [_, _], _ => rfl
  have F_parts_by := fun_mk (st := s_parts_by) l_parts_by c_parts_by k_parts_by
  have B_parts_by := F_parts_by.binds (ps := ["space"]) fun _ _ _ _ _ _ us hl => match us, hl with | [_], _ => rfl
  have F_Yard_parts := fun_mk (st := s_Yard_parts) l_Yard_parts c_Yard_parts k_Yard_parts
  have B_Yard_parts := F_Yard_parts.binds (ps := ["self"]) fun _ _ _ _ _ _ us hl => match us, hl with | [_], _ => rfl
  have F_all_lots := fun_mk (st := s_all_lots) l_all_lots c_all_lots k_all_lots
  have B_all_lots := F_all_lots.binds (ps := ["places"]) fun _ _ _ _ _ _ us hl => match us, hl with | [_], _ => rfl
  have F_is_within := fun_mk (st := s_is_within) l_is_within c_is_within k_is_within
  have B_is_within := F_is_within.binds (ps := ["lot", "other"]) fun _ _ _ _ _ _ us hl => match us, hl with | [_, _], _ => rfl
  have F_is_open_by := fun_mk (st := s_is_open_by) l_is_open_by c_is_open_by k_is_open_by
  have B_is_open_by := F_is_open_by.binds (ps := ["space", "lot"]) fun _ _ _ _ _ _ us hl => match us, hl with | [_, _], _ => rfl
  have F_open_lots_by := fun_mk (st := s_open_lots_by) l_open_lots_by c_open_lots_by k_open_lots_by
  have B_open_lots_by := F_open_lots_by.binds (ps := ["space"]) fun _ _ _ _ _ _ us hl => match us, hl with | [_], _ => rfl
  have F_Yard_undo := fun_mk (st := s_Yard_undo) l_Yard_undo c_Yard_undo k_Yard_undo
  have B_Yard_undo := F_Yard_undo.binds (ps := ["self"]) fun _ _ _ _ _ _ us hl => match us, hl with | [_], _ => rfl
  have F_said_of_undo := fun_mk (st := s_said_of_undo) l_said_of_undo c_said_of_undo k_said_of_undo
  have B_said_of_undo := F_said_of_undo.binds (ps := ["yard"]) fun _ _ _ _ _ _ us hl => match us, hl with | [_], _ => rfl
  have F_said_of_word := fun_mk (st := s_said_of_word) l_said_of_word c_said_of_word k_said_of_word
  have B_said_of_word := F_said_of_word.binds (ps := ["yard", "word"]) fun _ _ _ _ _ _ us hl => match us, hl with | [_, _], _ => rfl
  have F_words_of := fun_mk (st := s_words_of) l_words_of c_words_of k_words_of
  have B_words_of := F_words_of.binds (ps := ["line"]) fun _ _ _ _ _ _ us hl => match us, hl with | [_], _ => rfl
  have F_Console_say := fun_mk (st := s_Console_say) l_Console_say c_Console_say k_Console_say
  have B_Console_say := F_Console_say.binds (ps := ["self", "line"]) fun _ _ _ _ _ _ us hl => match us, hl with | [_, _], _ => rfl
  have F__law_alone := fun_mk (st := s__law_alone) l__law_alone c__law_alone k__law_alone
  have B__law_alone := F__law_alone.binds (ps := ["many"]) fun _ _ _ _ _ _ us hl => match us, hl with | [_], _ => rfl
  have F__law_take := fun_mk (st := s__law_take) l__law_take c__law_take k__law_take
  have B__law_take := F__law_take.binds (ps := ["well", "many"]) fun _ _ _ _ _ _ us hl => match us, hl with | [_, _], _ => rfl
  have F__law_of := fun_mk (st := s__law_of) l__law_of c__law_of k__law_of
  have B__law_of := F__law_of.binds (ps := ["well", "things"]) fun _ _ _ _ _ _ us hl => match us, hl with | [_, _], _ => rfl
  have F__law_deed := fun_mk (st := s__law_deed) l__law_deed c__law_deed k__law_deed
  have B__law_deed := F__law_deed.binds (ps := ["well", "many"]) fun _ _ _ _ _ _ us hl => match us, hl with | [_, _], _ => rfl
  have F__law_did := fun_mk (st := s__law_did) l__law_did c__law_did k__law_did
  have B__law_did := F__law_did.binds (ps := ["space", "deed"]) fun _ _ _ _ _ _ us hl => match us, hl with | [_, _], _ => rfl
  have F__law_line := fun_mk (st := s__law_line) l__law_line c__law_line k__law_line
  have B__law_line := F__law_line.binds (ps := ["deed"]) fun _ _ _ _ _ _ us hl => match us, hl with | [_], _ => rfl
  have F__law_places := fun_mk (st := s__law_places) l__law_places c__law_places k__law_places
  have B__law_places := F__law_places.binds (ps := ["lot"]) fun _ _ _ _ _ _ us hl => match us, hl with | [_], _ => rfl
  have F__law_well := fun_mk (st := s__law_well) l__law_well c__law_well k__law_well
  have B__law_well := F__law_well.binds (ps := ["script", "lap"]) fun _ _ _ _ _ _ us hl => match us, hl with | [_, _], _ => rfl
  have F_law := fun_mk (st := s_law) l_law c_law k_law
  have B_law := F_law.binds (ps := ["script"]) fun _ _ _ _ _ _ us hl => match us, hl with | [_], _ => rfl
  have F_InvalidNumber_init := fun_mk (st := s_InvalidNumber_init) l_InvalidNumber_init c_InvalidNumber_init k_InvalidNumber_init
  have B_InvalidNumber_init := F_InvalidNumber_init.binds (ps := ["self", "given"]) fun _ _ _ _ _ _ us hl => match us, hl with | [_, _], _ => rfl
  have F_InvalidLine_init := fun_mk (st := s_InvalidLine_init) l_InvalidLine_init c_InvalidLine_init k_InvalidLine_init
  have B_InvalidLine_init := F_InvalidLine_init.binds (ps := ["self", "given"]) fun _ _ _ _ _ _ us hl => match us, hl with | [_, _], _ => rfl
  have F_NotAYard_init := fun_mk (st := s_NotAYard_init) l_NotAYard_init c_NotAYard_init k_NotAYard_init
  have B_NotAYard_init := F_NotAYard_init.binds (ps := ["self", "given"]) fun _ _ _ _ _ _ us hl => match us, hl with | [_, _], _ => rfl
  have F_InvalidDeed_init := fun_mk (st := s_InvalidDeed_init) l_InvalidDeed_init c_InvalidDeed_init k_InvalidDeed_init
  have B_InvalidDeed_init := F_InvalidDeed_init.binds (ps := ["self", "index"]) fun _ _ _ _ _ _ us hl => match us, hl with | [_, _], _ => rfl
  have F_Barred_init := fun_mk (st := s_Barred_init) l_Barred_init c_Barred_init k_Barred_init
  have B_Barred_init := F_Barred_init.binds (ps := ["self", "reason"]) fun _ _ _ _ _ _ us hl => match us, hl with | [_, _], _ => rfl
  refine ⟨PySem.W.fnOf "law" "law" (defArgs s_law) (defBody s_law) (defScope s_law) .none kV_law dc_law pm_law an_law cd_law ct_law, fun s v => .of_eq rfl, fun base _ _ => ?_⟩
  have T : Txt P w mg base G := {
    b_tuple := PySem.W.mg_none_of X Gh z_tuple,
    b_all := PySem.W.mg_none_of X Gh z_all,
    b_enumerate := PySem.W.mg_none_of X Gh z_enumerate,
    b_bool := PySem.W.mg_none_of X Gh z_bool,
    b_set := PySem.W.mg_none_of X Gh z_set,
    b_abs := PySem.W.mg_none_of X Gh z_abs,
    b_int := PySem.W.mg_none_of X Gh z_int,
    b_divmod := PySem.W.mg_none_of X Gh z_divmod,
    b_str := PySem.W.mg_none_of X Gh z_str,
    b_sorted := PySem.W.mg_none_of X Gh z_sorted,
    b_zip := PySem.W.mg_none_of X Gh z_zip,
    b_range := PySem.W.mg_none_of X Gh z_range,
    b_list := PySem.W.mg_none_of X Gh z_list,
    b_isinstance := PySem.W.mg_none_of X Gh z_isinstance,
    b_len := PySem.W.mg_none_of X Gh z_len,
    b_any := PySem.W.mg_none_of X Gh z_any,
    im_combinations := PySem.W.mg_of X Gh im_combinations,
    g_NOBODY := ⟨_, PySem.W.mg_of X Gh g_NOBODY⟩,
    g_LOST := ⟨_, PySem.W.mg_of X Gh g_LOST⟩,
    g_FIGURES := ⟨_, PySem.W.mg_of X Gh g_FIGURES⟩,
    g_SAME := ⟨_, PySem.W.mg_of X Gh g_SAME⟩,
    g_NOTHING := ⟨_, PySem.W.mg_of X Gh g_NOTHING⟩,
    g_NONE_yards := ⟨_, PySem.W.mg_of X Gh g_NONE_yards⟩,
    g_THROUGH := ⟨_, PySem.W.mg_of X Gh g_THROUGH⟩,
    g_MOST_PLACES := ⟨_, PySem.W.mg_of X Gh g_MOST_PLACES⟩,
    g_DONE := ⟨_, PySem.W.mg_of X Gh g_DONE⟩,
    g_NONE_consoles := ⟨_, PySem.W.mg_of X Gh g_NONE_consoles⟩,
    d_SIZES := DctOk.of (PySem.W.mg_of X Gh d_SIZES) dl_SIZES ds_SIZES de_SIZES,
    x_InvalidNumber := ⟨⟨⟨_, _, _, _, _, _, _, _, _, _, _, _, _, _, _, xl_InvalidNumber, xr_InvalidNumber⟩, xs_InvalidNumber, eC_InvalidNumber, tC_InvalidNumber, xk_InvalidNumber⟩, xn_InvalidNumber, ⟨_, _, _, a_InvalidNumber_init, xt_InvalidNumber, ok_InvalidNumber_init F_InvalidNumber_init, B_InvalidNumber_init⟩, PySem.W.mg_of X Gh aC_InvalidNumber, by rw [hxf]; decide +kernel⟩,
    x_InvalidLine := ⟨⟨⟨_, _, _, _, _, _, _, _, _, _, _, _, _, _, _, xl_InvalidLine, xr_InvalidLine⟩, xs_InvalidLine, eC_InvalidLine, tC_InvalidLine, xk_InvalidLine⟩, xn_InvalidLine, ⟨_, _, _, a_InvalidLine_init, xt_InvalidLine, ok_InvalidLine_init F_InvalidLine_init, B_InvalidLine_init⟩, PySem.W.mg_of X Gh aC_InvalidLine, by rw [hxf]; decide +kernel⟩,
    x_NotAYard := ⟨⟨⟨_, _, _, _, _, _, _, _, _, _, _, _, _, _, _, xl_NotAYard, xr_NotAYard⟩, xs_NotAYard, eC_NotAYard, tC_NotAYard, xk_NotAYard⟩, xn_NotAYard, ⟨_, _, _, a_NotAYard_init, xt_NotAYard, ok_NotAYard_init F_NotAYard_init, B_NotAYard_init⟩, PySem.W.mg_of X Gh aC_NotAYard, by rw [hxf]; decide +kernel⟩,
    x_InvalidDeed := ⟨⟨⟨_, _, _, _, _, _, _, _, _, _, _, _, _, _, _, xl_InvalidDeed, xr_InvalidDeed⟩, xs_InvalidDeed, eC_InvalidDeed, tC_InvalidDeed, xk_InvalidDeed⟩, xn_InvalidDeed, ⟨_, _, _, a_InvalidDeed_init, xt_InvalidDeed, ok_InvalidDeed_init F_InvalidDeed_init, B_InvalidDeed_init⟩, PySem.W.mg_of X Gh aC_InvalidDeed, by rw [hxf]; decide +kernel⟩,
    x_Barred := ⟨⟨⟨_, _, _, _, _, _, _, _, _, _, _, _, _, _, _, xl_Barred, xr_Barred⟩, xs_Barred, eC_Barred, tC_Barred, xk_Barred⟩, xn_Barred, ⟨_, _, _, a_Barred_init, xt_Barred, ok_Barred_init F_Barred_init, B_Barred_init⟩, PySem.W.mg_of X Gh aC_Barred, by rw [hxf]; decide +kernel⟩,
    x_NothingToUndo := ⟨x0_NothingToUndo, PySem.W.mg_of X Gh aC_NothingToUndo, xk_NothingToUndo, eC_NothingToUndo, tC_NothingToUndo, by rw [hxf]; decide +kernel⟩,
    f_Yard_deeds := ⟨⟨pg_Yard, hd_Yard, po_Yard, sa_Yard⟩, nf_Yard_deeds⟩,
    f_Yard_places := ⟨⟨pg_Yard, hd_Yard, po_Yard, sa_Yard⟩, nf_Yard_places⟩,
    f_Console_yard := ⟨⟨pg_Console, hd_Console, po_Console, sa_Console⟩, nf_Console_yard⟩,
    f_Yard_past := ⟨⟨pg_Yard, hd_Yard, po_Yard, sa_Yard⟩, nf_Yard_past⟩,
    f_Yard_space := ⟨⟨pg_Yard, hd_Yard, po_Yard, sa_Yard⟩, nf_Yard_space⟩,
    nm_NothingToUndo := PySem.W.mg_of X Gh aC_NothingToUndo,
    nm_Barred := PySem.W.mg_of X Gh aC_Barred,
    nm_Yard := PySem.W.mg_of X Gh aC_Yard,
    nm_InvalidDeed := PySem.W.mg_of X Gh aC_InvalidDeed,
    qm_Barred := matOf_ok (R := fun c b => PySem.W.exmOne G.K (.ref (G.cls c)) (.ref (G.cls "Barred")) = some b) (allIn_cons (PySem.W.exm_ref eC_Barred hC_Barred tC_Barred su_Barred_Barred) (allIn_nil)) (allIn_cons (PySem.W.exm_ref eC_Barred hC_Barred tC_Barred su_NearError_Barred) (allIn_cons (PySem.W.exm_ref eC_Barred hC_Barred tC_Barred su_InvalidNumber_Barred) (allIn_cons (PySem.W.exm_ref eC_Barred hC_Barred tC_Barred su_InvalidLine_Barred) (allIn_cons (PySem.W.exm_ref eC_Barred hC_Barred tC_Barred su_NotAYard_Barred) (allIn_cons (PySem.W.exm_ref eC_Barred hC_Barred tC_Barred su_InvalidDeed_Barred) (allIn_cons (PySem.W.exm_ref eC_Barred hC_Barred tC_Barred su_NothingToUndo_Barred) (allIn_nil))))))),
    exc_Barred := matOf_yes (R := fun c => ExcC G.K (G.cls c)) (allIn_cons (⟨ga_Barred, gg_Barred, eC_Barred, hC_Barred, gc_Barred, xcn, xct, gm_Barred⟩) (allIn_nil)),
    xfc_Barred := matOf_yes (R := fun c => XfC G.K (G.cls c)) (allIn_cons (⟨ga_Barred, gg_Barred, eC_Barred, hC_Barred⟩) (allIn_nil)),
    qm_InvalidDeed := matOf_ok (R := fun c b => PySem.W.exmOne G.K (.ref (G.cls c)) (.ref (G.cls "InvalidDeed")) = some b) (allIn_cons (PySem.W.exm_ref eC_InvalidDeed hC_InvalidDeed tC_InvalidDeed su_InvalidDeed_InvalidDeed) (allIn_nil)) (allIn_cons (PySem.W.exm_ref eC_InvalidDeed hC_InvalidDeed tC_InvalidDeed su_NearError_InvalidDeed) (allIn_cons (PySem.W.exm_ref eC_InvalidDeed hC_InvalidDeed tC_InvalidDeed su_InvalidNumber_InvalidDeed) (allIn_cons (PySem.W.exm_ref eC_InvalidDeed hC_InvalidDeed tC_InvalidDeed su_InvalidLine_InvalidDeed) (allIn_cons (PySem.W.exm_ref eC_InvalidDeed hC_InvalidDeed tC_InvalidDeed su_NotAYard_InvalidDeed) (allIn_cons (PySem.W.exm_ref eC_InvalidDeed hC_InvalidDeed tC_InvalidDeed su_Barred_InvalidDeed) (allIn_cons (PySem.W.exm_ref eC_InvalidDeed hC_InvalidDeed tC_InvalidDeed su_NothingToUndo_InvalidDeed) (allIn_nil))))))),
    exc_InvalidDeed := matOf_yes (R := fun c => ExcC G.K (G.cls c)) (allIn_cons (⟨ga_InvalidDeed, gg_InvalidDeed, eC_InvalidDeed, hC_InvalidDeed, gc_InvalidDeed, xcn, xct, gm_InvalidDeed⟩) (allIn_nil)),
    xfc_InvalidDeed := matOf_yes (R := fun c => XfC G.K (G.cls c)) (allIn_cons (⟨ga_InvalidDeed, gg_InvalidDeed, eC_InvalidDeed, hC_InvalidDeed⟩) (allIn_nil)),
    qm_NothingToUndo := matOf_ok (R := fun c b => PySem.W.exmOne G.K (.ref (G.cls c)) (.ref (G.cls "NothingToUndo")) = some b) (allIn_cons (PySem.W.exm_ref eC_NothingToUndo hC_NothingToUndo tC_NothingToUndo su_NothingToUndo_NothingToUndo) (allIn_nil)) (allIn_cons (PySem.W.exm_ref eC_NothingToUndo hC_NothingToUndo tC_NothingToUndo su_NearError_NothingToUndo) (allIn_cons (PySem.W.exm_ref eC_NothingToUndo hC_NothingToUndo tC_NothingToUndo su_InvalidNumber_NothingToUndo) (allIn_cons (PySem.W.exm_ref eC_NothingToUndo hC_NothingToUndo tC_NothingToUndo su_InvalidLine_NothingToUndo) (allIn_cons (PySem.W.exm_ref eC_NothingToUndo hC_NothingToUndo tC_NothingToUndo su_NotAYard_NothingToUndo) (allIn_cons (PySem.W.exm_ref eC_NothingToUndo hC_NothingToUndo tC_NothingToUndo su_InvalidDeed_NothingToUndo) (allIn_cons (PySem.W.exm_ref eC_NothingToUndo hC_NothingToUndo tC_NothingToUndo su_Barred_NothingToUndo) (allIn_nil))))))),
    exc_NothingToUndo := matOf_yes (R := fun c => ExcC G.K (G.cls c)) (allIn_cons (⟨ga_NothingToUndo, gg_NothingToUndo, eC_NothingToUndo, hC_NothingToUndo, gc_NothingToUndo, xcn, xct, gm_NothingToUndo⟩) (allIn_nil)),
    xfc_NothingToUndo := matOf_yes (R := fun c => XfC G.K (G.cls c)) (allIn_cons (⟨ga_NothingToUndo, gg_NothingToUndo, eC_NothingToUndo, hC_NothingToUndo⟩) (allIn_nil)),
    xn_Barred_reason := matOf_yes (R := fun c => PySem.W.findIn G.K (.ref (G.cls c)) "reason" = some none) (allIn_cons (xn_Barred) (allIn_nil)),
    xt_reason := hasIn (R := fun c => G.xf c = some "reason" ∧ PySem.W.findIn G.K (.ref (G.cls c)) "reason" = some none) (allIn_cons (⟨by rw [hxf]; decide +kernel, xn_Barred⟩) (allIn_nil)),
    io_Yard := iso_mk ⟨pg_Yard, hd_Yard, po_Yard, sa_Yard⟩ hd_Yard it_Yard ix_Yard is_Yard_non is_Yard_bl is_Yard_int is_Yard_str is_Yard_tup is_Yard_lst ja_Yard xcn xct jm_Yard (PySem.W.mg_of X Gh aC_Yard) }
  have C_d_check_yard : CallOk P w G.K mg base G "check_yard" 3 1 m_check_yard := ⟨_, _, _, ok_check_yard F_check_yard T, PySem.W.mg_of X Gh a_check_yard, k_check_yard, B_check_yard⟩
  have C_d_is_string : CallOk P w G.K mg base G "is_string" 1 1 m_is_string := ⟨_, _, _, ok_is_string F_is_string T, PySem.W.mg_of X Gh a_is_string, k_is_string, B_is_string⟩
  have C_d_has_form : CallOk P w G.K mg base G "has_form" 2 1 m_has_form := ⟨_, _, _, ok_has_form F_has_form T C_d_is_string, PySem.W.mg_of X Gh a_has_form, k_has_form, B_has_form⟩
  have C_d_is_whole : CallOk P w G.K mg base G "is_whole" 1 1 m_is_whole := ⟨_, _, _, ok_is_whole F_is_whole T, PySem.W.mg_of X Gh a_is_whole, k_is_whole, B_is_whole⟩
  have C_d_is_between : CallOk P w G.K mg base G "is_between" 2 3 m_is_between := ⟨_, _, _, ok_is_between F_is_between T C_d_is_whole, PySem.W.mg_of X Gh a_is_between, k_is_between, B_is_between⟩
  have C_d_is_place_of : CallOk P w G.K mg base G "is_place_of" 3 2 m_is_place_of := ⟨_, _, _, ok_is_place_of F_is_place_of T C_d_is_between, PySem.W.mg_of X Gh a_is_place_of, k_is_place_of, B_is_place_of⟩
  have C_d_check_deed : CallOk P w G.K mg base G "check_deed" 4 2 m_check_deed := ⟨_, _, _, ok_check_deed F_check_deed T C_d_has_form C_d_is_place_of, PySem.W.mg_of X Gh a_check_deed, k_check_deed, B_check_deed⟩
  have C_d_is_near_by : CallOk P w G.K mg base G "is_near_by" 1 3 m_is_near_by := ⟨_, _, _, ok_is_near_by F_is_near_by T, PySem.W.mg_of X Gh a_is_near_by, k_is_near_by, B_is_near_by⟩
  have C_d_places_of : CallOk P w G.K mg base G "places_of" 1 1 m_places_of := ⟨_, _, _, ok_places_of F_places_of T, PySem.W.mg_of X Gh a_places_of, k_places_of, B_places_of⟩
  have C_d_has_between : CallOk P w G.K mg base G "has_between" 2 3 m_has_between := ⟨_, _, _, ok_has_between F_has_between T C_d_is_near_by C_d_places_of, PySem.W.mg_of X Gh a_has_between, k_has_between, B_has_between⟩
  have C_d_reason_against : CallOk P w G.K mg base G "reason_against" 3 2 m_reason_against := ⟨_, _, _, ok_reason_against F_reason_against T C_d_has_between C_d_is_near_by, PySem.W.mg_of X Gh a_reason_against, k_reason_against, B_reason_against⟩
  have C_d_union_of : CallOk P w G.K mg base G "union_of" 1 2 m_union_of := ⟨_, _, _, ok_union_of F_union_of T, PySem.W.mg_of X Gh a_union_of, k_union_of, B_union_of⟩
  have C_d_without : CallOk P w G.K mg base G "without" 1 2 m_without := ⟨_, _, _, ok_without F_without T, PySem.W.mg_of X Gh a_without, k_without, B_without⟩
  have C_d_space_behind : CallOk P w G.K mg base G "space_behind" 2 2 m_space_behind := ⟨_, _, _, ok_space_behind F_space_behind T C_d_union_of C_d_without, PySem.W.mg_of X Gh a_space_behind, k_space_behind, B_space_behind⟩
  have C_d_Yard_do : MethOk P w G.K mg base G "Yard" "do" 5 2 m_Yard_do := ⟨_, _, _, ok_Yard_do F_Yard_do T C_d_check_deed C_d_reason_against C_d_space_behind, ⟨pg_Yard, hd_Yard, po_Yard, sa_Yard⟩, ⟨a_Yard_do, i_Yard_do, k_Yard_do⟩, B_Yard_do⟩
  have C_d_single_space : CallOk P w G.K mg base G "single_space" 1 1 m_single_space := ⟨_, _, _, ok_single_space F_single_space T, PySem.W.mg_of X Gh a_single_space, k_single_space, B_single_space⟩
  have C_d_Yard_init : MakeOk P w G.K mg base G "Yard" 3 2 m_Yard_init := ⟨_, _, _, ok_Yard_init F_Yard_init T C_d_is_between C_d_single_space, ⟨mk_Yard, a_Yard_init, i_Yard_init, kc_Yard⟩, PySem.W.mg_of X Gh aC_Yard, B_Yard_init⟩
  have C_d_copy_of : CallOk P w G.K mg base G "copy_of" 6 1 m_copy_of := ⟨_, _, _, ok_copy_of F_copy_of T C_d_Yard_do C_d_Yard_init, PySem.W.mg_of X Gh a_copy_of, k_copy_of, B_copy_of⟩
  have C_d_Console_init : MakeOk P w G.K mg base G "Console" 7 2 m_Console_init := ⟨_, _, _, ok_Console_init F_Console_init T C_d_check_yard C_d_copy_of, ⟨mk_Console, a_Console_init, i_Console_init, kc_Console⟩, PySem.W.mg_of X Gh aC_Console, B_Console_init⟩
  have KB_Console_init := kwb_of (ps := ["self", "yard"]) (ks := ["yard"]) 1 rfl F_Console_init fun _ _ _ _ _ _ us ws hl hk => match us, ws, hl, hk with | [_], [_], _, _ => rfl
  have C_k_Console_init : MakeOkK P w G.K mg base G "Console" 7 2 m_Console_init ["yard"] := ⟨_, _, _, ok_Console_init F_Console_init T C_d_check_yard C_d_copy_of, ⟨mk_Console, a_Console_init, i_Console_init, kc_Console⟩, PySem.W.mg_of X Gh aC_Console, KB_Console_init⟩
  have C_d_is_made_of : CallOk P w G.K mg base G "is_made_of" 1 2 m_is_made_of := ⟨_, _, _, ok_is_made_of F_is_made_of T, PySem.W.mg_of X Gh a_is_made_of, k_is_made_of, B_is_made_of⟩
  have C_d_number_in : CallOk P w G.K mg base G "number_in" 2 1 m_number_in := ⟨_, _, _, ok_number_in F_number_in T C_d_is_made_of, PySem.W.mg_of X Gh a_number_in, k_number_in, B_number_in⟩
  have C_d_numbers_in : CallOk P w G.K mg base G "numbers_in" 3 1 m_numbers_in := ⟨_, _, _, ok_numbers_in F_numbers_in T C_d_number_in, PySem.W.mg_of X Gh a_numbers_in, k_numbers_in, B_numbers_in⟩
  have C_d_common_of : CallOk P w G.K mg base G "common_of" 1 2 m_common_of := ⟨_, _, _, ok_common_of F_common_of T, PySem.W.mg_of X Gh a_common_of, k_common_of, B_common_of⟩
  have C_d_closing_by : CallOk P w G.K mg base G "closing_by" 2 2 m_closing_by := ⟨_, _, _, ok_closing_by F_closing_by T C_d_common_of C_d_places_of, PySem.W.mg_of X Gh a_closing_by, k_closing_by, B_closing_by⟩
  have C_d_is_lot_of : CallOk P w G.K mg base G "is_lot_of" 3 2 m_is_lot_of := ⟨_, _, _, ok_is_lot_of F_is_lot_of T C_d_is_between, PySem.W.mg_of X Gh a_is_lot_of, k_is_lot_of, B_is_lot_of⟩
  have C_d_is_lot : CallOk P w G.K mg base G "is_lot" 4 2 m_is_lot := ⟨_, _, _, ok_is_lot F_is_lot T C_d_is_lot_of, PySem.W.mg_of X Gh a_is_lot, k_is_lot, B_is_lot⟩
  have C_d_lot_text : CallOk P w G.K mg base G "lot_text" 1 1 m_lot_text := ⟨_, _, _, ok_lot_text F_lot_text T, PySem.W.mg_of X Gh a_lot_text, k_lot_text, B_lot_text⟩
  have C_d_said_of_closing : CallOk P w G.K mg base G "said_of_closing" 5 2 m_said_of_closing := ⟨_, _, _, ok_said_of_closing F_said_of_closing T C_d_closing_by C_d_is_lot C_d_lot_text, PySem.W.mg_of X Gh a_said_of_closing, k_said_of_closing, B_said_of_closing⟩
  have C_d_said_of_deed : CallOk P w G.K mg base G "said_of_deed" 6 2 m_said_of_deed := ⟨_, _, _, ok_said_of_deed F_said_of_deed T C_d_Yard_do, PySem.W.mg_of X Gh a_said_of_deed, k_said_of_deed, B_said_of_deed⟩
  have C_d_said_of_reach : CallOk P w G.K mg base G "said_of_reach" 4 2 m_said_of_reach := ⟨_, _, _, ok_said_of_reach F_said_of_reach T C_d_is_place_of C_d_lot_text, PySem.W.mg_of X Gh a_said_of_reach, k_said_of_reach, B_said_of_reach⟩
  have C_d_are_tied : CallOk P w G.K mg base G "are_tied" 2 3 m_are_tied := ⟨_, _, _, ok_are_tied F_are_tied T C_d_is_near_by, PySem.W.mg_of X Gh a_are_tied, k_are_tied, B_are_tied⟩
  have C_d_held_with : CallOk P w G.K mg base G "held_with" 3 2 m_held_with := ⟨_, _, _, ok_held_with F_held_with T C_d_are_tied C_d_places_of, PySem.W.mg_of X Gh a_held_with, k_held_with, B_held_with⟩
  have C_d_parts_by : CallOk P w G.K mg base G "parts_by" 4 1 m_parts_by := ⟨_, _, _, ok_parts_by F_parts_by T C_d_held_with C_d_places_of, PySem.W.mg_of X Gh a_parts_by, k_parts_by, B_parts_by⟩
  have C_d_Yard_parts : MethOk P w G.K mg base G "Yard" "parts" 5 1 m_Yard_parts := ⟨_, _, _, ok_Yard_parts F_Yard_parts T C_d_parts_by, ⟨pg_Yard, hd_Yard, po_Yard, sa_Yard⟩, ⟨a_Yard_parts, i_Yard_parts, k_Yard_parts⟩, B_Yard_parts⟩
  have C_d_all_lots : CallOk P w G.K mg base G "all_lots" 1 1 m_all_lots := ⟨_, _, _, ok_all_lots F_all_lots T, PySem.W.mg_of X Gh a_all_lots, k_all_lots, B_all_lots⟩
  have C_d_is_within : CallOk P w G.K mg base G "is_within" 1 2 m_is_within := ⟨_, _, _, ok_is_within F_is_within T, PySem.W.mg_of X Gh a_is_within, k_is_within, B_is_within⟩
  have C_d_is_open_by : CallOk P w G.K mg base G "is_open_by" 2 2 m_is_open_by := ⟨_, _, _, ok_is_open_by F_is_open_by T C_d_is_within, PySem.W.mg_of X Gh a_is_open_by, k_is_open_by, B_is_open_by⟩
  have C_d_open_lots_by : CallOk P w G.K mg base G "open_lots_by" 3 1 m_open_lots_by := ⟨_, _, _, ok_open_lots_by F_open_lots_by T C_d_all_lots C_d_is_open_by, PySem.W.mg_of X Gh a_open_lots_by, k_open_lots_by, B_open_lots_by⟩
  have C_d_Yard_undo : MethOk P w G.K mg base G "Yard" "undo" 1 1 m_Yard_undo := ⟨_, _, _, ok_Yard_undo F_Yard_undo T, ⟨pg_Yard, hd_Yard, po_Yard, sa_Yard⟩, ⟨a_Yard_undo, i_Yard_undo, k_Yard_undo⟩, B_Yard_undo⟩
  have C_d_said_of_undo : CallOk P w G.K mg base G "said_of_undo" 2 1 m_said_of_undo := ⟨_, _, _, ok_said_of_undo F_said_of_undo T C_d_Yard_undo, PySem.W.mg_of X Gh a_said_of_undo, k_said_of_undo, B_said_of_undo⟩
  have C_d_said_of_word : CallOk P w G.K mg base G "said_of_word" 6 2 m_said_of_word := ⟨_, _, _, ok_said_of_word F_said_of_word T C_d_Yard_parts C_d_open_lots_by C_d_said_of_undo, PySem.W.mg_of X Gh a_said_of_word, k_said_of_word, B_said_of_word⟩
  have C_d_words_of : CallOk P w G.K mg base G "words_of" 1 1 m_words_of := ⟨_, _, _, ok_words_of F_words_of T, PySem.W.mg_of X Gh a_words_of, k_words_of, B_words_of⟩
  have C_d_Console_say : MethOk P w G.K mg base G "Console" "say" 7 2 m_Console_say := ⟨_, _, _, ok_Console_say F_Console_say T C_d_is_string C_d_numbers_in C_d_said_of_closing C_d_said_of_deed C_d_said_of_reach C_d_said_of_word C_d_words_of, ⟨pg_Console, hd_Console, po_Console, sa_Console⟩, ⟨a_Console_say, i_Console_say, k_Console_say⟩, B_Console_say⟩
  have KB_Console_say := kwb_of (ps := ["self", "line"]) (ks := ["line"]) 1 rfl F_Console_say fun _ _ _ _ _ _ us ws hl hk => match us, ws, hl, hk with | [_], [_], _, _ => rfl
  have C_k_Console_say : MethOkK P w G.K mg base G "Console" "say" 7 2 m_Console_say ["line"] := ⟨_, _, _, ok_Console_say F_Console_say T C_d_is_string C_d_numbers_in C_d_said_of_closing C_d_said_of_deed C_d_said_of_reach C_d_said_of_word C_d_words_of, ⟨pg_Console, hd_Console, po_Console, sa_Console⟩, ⟨a_Console_say, i_Console_say, k_Console_say⟩, KB_Console_say⟩
  have C_d__law_alone : CallOk P w G.K mg base G "_law_alone" 1 1 m__law_alone := ⟨_, _, _, ok__law_alone F__law_alone T, PySem.W.mg_of X Gh a__law_alone, k__law_alone, B__law_alone⟩
  have C_d__law_take : CallOk P w G.K mg base G "_law_take" 1 2 m__law_take := ⟨_, _, _, ok__law_take F__law_take T, PySem.W.mg_of X Gh a__law_take, k__law_take, B__law_take⟩
  have C_d__law_of : CallOk P w G.K mg base G "_law_of" 2 2 m__law_of := ⟨_, _, _, ok__law_of F__law_of T C_d__law_take, PySem.W.mg_of X Gh a__law_of, k__law_of, B__law_of⟩
  have C_d__law_deed : CallOk P w G.K mg base G "_law_deed" 3 2 m__law_deed := ⟨_, _, _, ok__law_deed F__law_deed T C_d__law_of C_d__law_take, PySem.W.mg_of X Gh a__law_deed, k__law_deed, B__law_deed⟩
  have C_d__law_did : CallOk P w G.K mg base G "_law_did" 1 2 m__law_did := ⟨_, _, _, ok__law_did F__law_did T, PySem.W.mg_of X Gh a__law_did, k__law_did, B__law_did⟩
  have C_d__law_line : CallOk P w G.K mg base G "_law_line" 1 1 m__law_line := ⟨_, _, _, ok__law_line F__law_line T, PySem.W.mg_of X Gh a__law_line, k__law_line, B__law_line⟩
  have C_d__law_places : CallOk P w G.K mg base G "_law_places" 1 1 m__law_places := ⟨_, _, _, ok__law_places F__law_places T, PySem.W.mg_of X Gh a__law_places, k__law_places, B__law_places⟩
  have C_d__law_well : CallOk P w G.K mg base G "_law_well" 1 2 m__law_well := ⟨_, _, _, ok__law_well F__law_well T, PySem.W.mg_of X Gh a__law_well, k__law_well, B__law_well⟩
  exact (ok_law F_law T C_d_Console_init C_d_Console_say C_d_Yard_init C_d__law_alone C_d__law_deed C_d__law_did C_d__law_line C_d__law_places C_d__law_take C_d__law_well C_k_Console_init C_k_Console_say).weak fun vs H Q E h => h G rfl
theorem walk {l : PySem.W.OpenLaw} {qq : Program} {loose : List Str} {XP : (Str → Option Value) → Heap → Prop} {YP : World → Heap → Prop} {d : DefRec} {K : Params → PySem.W.Frag} (hn : l.most = some 63) (hdf : d.params.defaults = [])
    (hY : ∀ (w : World) (h : Heap), YP w h → (K w.params).In h)
    (F : ∀ (w : World) (mg : Str → Option Value) (fa : Addr) (h : Heap), (K w.params).In h → h.Ns mainGlobals mg → mg d.name = some (.ref fa) →
      ∃ fd : FuncData, (∀ (s : Shared) (u : Value), BindsTo s fd ⟨[u], []⟩ [("script", u)]) ∧ ∀ base : Heap, (K w.params).In base → base.Ns mainGlobals mg → FnG l.prog w (K w.params) mg base 9 fa fd ["script"] (fun vs H Q E => ∀ G : Gc, G.K = K w.params → spM G 1 m_law vs H Q E)) :
    PySem.W.WalkO qq loose XP YP l.row.toRowW d [] (fun f vs => PySem.call f vs) :=
  walkG (k := 9) law_true hn hdf ⟨⟨rfl, by decide, by decide⟩, rfl⟩ hY F
end NL
open PySem PySem.W PyProof.Rows
set_option maxRecDepth 100000 in
set_option maxHeartbeats 0 in
theorem PySem.Challenge.cw_nearlots_k85_whole_deeds_said_holds : PySem.Challenge.rw_nearlots_k85_whole_deeds_said.Holds := by
  w_on; o_law; k_head; (case hw => w_witness2)
  k_fill
  refine NL.walk (l := PySem.Challenge.rw_nearlots_k85_whole_deeds_said) rfl rfl (fun w h Y => PySem.W.kIn_of Y) ?F
  case F =>
    intro w mg fa h KX G hmg
    refine' NL.all_mk (P := PySem.Challenge.pw_nearlots_k85_whole_deeds_said) (w := w) KX G hmg ?aC_NearError ?aC_InvalidNumber ?aC_InvalidLine ?aC_NotAYard ?aC_InvalidDeed ?aC_Barred ?aC_NothingToUndo ?aC_Console ?aC_Yard ?im_combinations ?z_abs ?z_all ?z_any ?z_bool ?z_divmod ?z_enumerate ?z_int ?z_isinstance ?z_len ?z_list ?z_range ?z_set ?z_sorted ?z_str ?z_tuple ?z_zip ?g_DONE ?g_FIGURES ?g_LOST ?g_MOST_PLACES ?g_NOBODY ?g_NONE_consoles ?g_NONE_yards ?g_NOTHING ?g_SAME ?g_THROUGH ?d_SIZES ?dl_SIZES ?ds_SIZES ?de_SIZES ?a_check_yard ?l_check_yard ?c_check_yard ?k_check_yard ?a_is_string ?l_is_string ?c_is_string ?k_is_string ?a_has_form ?l_has_form ?c_has_form ?k_has_form ?a_is_whole ?l_is_whole ?c_is_whole ?k_is_whole ?a_is_between ?l_is_between ?c_is_between ?k_is_between ?a_is_place_of ?l_is_place_of ?c_is_place_of ?k_is_place_of ?a_check_deed ?l_check_deed ?c_check_deed ?k_check_deed ?a_is_near_by ?l_is_near_by ?c_is_near_by ?k_is_near_by ?a_places_of ?l_places_of ?c_places_of ?k_places_of ?a_has_between ?l_has_between ?c_has_between ?k_has_between ?a_reason_against ?l_reason_against ?c_reason_against ?k_reason_against ?a_union_of ?l_union_of ?c_union_of ?k_union_of ?a_without ?l_without ?c_without ?k_without ?a_space_behind ?l_space_behind ?c_space_behind ?k_space_behind ?a_Yard_do ?i_Yard_do ?l_Yard_do ?c_Yard_do ?k_Yard_do ?a_single_space ?l_single_space ?c_single_space ?k_single_space ?a_Yard_init ?i_Yard_init ?l_Yard_init ?c_Yard_init ?k_Yard_init ?a_copy_of ?l_copy_of ?c_copy_of ?k_copy_of ?a_Console_init ?i_Console_init ?l_Console_init ?c_Console_init ?k_Console_init ?a_is_made_of ?l_is_made_of ?c_is_made_of ?k_is_made_of ?a_number_in ?l_number_in ?c_number_in ?k_number_in ?a_numbers_in ?l_numbers_in ?c_numbers_in ?k_numbers_in ?a_common_of ?l_common_of ?c_common_of ?k_common_of ?a_closing_by ?l_closing_by ?c_closing_by ?k_closing_by ?a_is_lot_of ?l_is_lot_of ?c_is_lot_of ?k_is_lot_of ?a_is_lot ?l_is_lot ?c_is_lot ?k_is_lot ?a_lot_text ?l_lot_text ?c_lot_text ?k_lot_text ?a_said_of_closing ?l_said_of_closing ?c_said_of_closing ?k_said_of_closing ?a_said_of_deed ?l_said_of_deed ?c_said_of_deed ?k_said_of_deed ?a_said_of_reach ?l_said_of_reach ?c_said_of_reach ?k_said_of_reach ?a_are_tied ?l_are_tied ?c_are_tied ?k_are_tied ?a_held_with ?l_held_with ?c_held_with ?k_held_with ?a_parts_by ?l_parts_by ?c_parts_by ?k_parts_by ?a_Yard_parts ?i_Yard_parts ?l_Yard_parts ?c_Yard_parts ?k_Yard_parts ?a_all_lots ?l_all_lots ?c_all_lots ?k_all_lots ?a_is_within ?l_is_within ?c_is_within ?k_is_within ?a_is_open_by ?l_is_open_by ?c_is_open_by ?k_is_open_by ?a_open_lots_by ?l_open_lots_by ?c_open_lots_by ?k_open_lots_by ?a_Yard_undo ?i_Yard_undo ?l_Yard_undo ?c_Yard_undo ?k_Yard_undo ?a_said_of_undo ?l_said_of_undo ?c_said_of_undo ?k_said_of_undo ?a_said_of_word ?l_said_of_word ?c_said_of_word ?k_said_of_word ?a_words_of ?l_words_of ?c_words_of ?k_words_of ?a_Console_say ?i_Console_say ?l_Console_say ?c_Console_say ?k_Console_say ?a__law_alone ?l__law_alone ?c__law_alone ?k__law_alone ?a__law_take ?l__law_take ?c__law_take ?k__law_take ?a__law_of ?l__law_of ?c__law_of ?k__law_of ?a__law_deed ?l__law_deed ?c__law_deed ?k__law_deed ?a__law_did ?l__law_did ?c__law_did ?k__law_did ?a__law_line ?l__law_line ?c__law_line ?k__law_line ?a__law_places ?l__law_places ?c__law_places ?k__law_places ?a__law_well ?l__law_well ?c__law_well ?k__law_well ?a_law ?l_law ?c_law ?k_law ?pg_Console ?hd_Console ?po_Console ?sa_Console ?mk_Console ?kc_Console ?pg_Yard ?hd_Yard ?po_Yard ?sa_Yard ?mk_Yard ?kc_Yard ?nf_Console_yard ?nf_Yard_deeds ?nf_Yard_past ?nf_Yard_places ?nf_Yard_space ?eC_NearError ?tC_NearError ?hC_NearError ?eC_InvalidNumber ?tC_InvalidNumber ?hC_InvalidNumber ?eC_InvalidLine ?tC_InvalidLine ?hC_InvalidLine ?eC_NotAYard ?tC_NotAYard ?hC_NotAYard ?eC_InvalidDeed ?tC_InvalidDeed ?hC_InvalidDeed ?eC_Barred ?tC_Barred ?hC_Barred ?eC_NothingToUndo ?tC_NothingToUndo ?hC_NothingToUndo ?xl_InvalidNumber ?xr_InvalidNumber ?xs_InvalidNumber ?xn_InvalidNumber ?a_InvalidNumber_init ?i_InvalidNumber_init ?l_InvalidNumber_init ?c_InvalidNumber_init ?k_InvalidNumber_init ?xt_InvalidNumber ?xk_InvalidNumber ?xl_InvalidLine ?xr_InvalidLine ?xs_InvalidLine ?xn_InvalidLine ?a_InvalidLine_init ?i_InvalidLine_init ?l_InvalidLine_init ?c_InvalidLine_init ?k_InvalidLine_init ?xt_InvalidLine ?xk_InvalidLine ?xl_NotAYard ?xr_NotAYard ?xs_NotAYard ?xn_NotAYard ?a_NotAYard_init ?i_NotAYard_init ?l_NotAYard_init ?c_NotAYard_init ?k_NotAYard_init ?xt_NotAYard ?xk_NotAYard ?xl_InvalidDeed ?xr_InvalidDeed ?xs_InvalidDeed ?xn_InvalidDeed ?a_InvalidDeed_init ?i_InvalidDeed_init ?l_InvalidDeed_init ?c_InvalidDeed_init ?k_InvalidDeed_init ?xt_InvalidDeed ?xk_InvalidDeed ?xl_Barred ?xr_Barred ?xs_Barred ?xn_Barred ?a_Barred_init ?i_Barred_init ?l_Barred_init ?c_Barred_init ?k_Barred_init ?xt_Barred ?xk_Barred ?x0_NothingToUndo ?xk_NothingToUndo ?xcn ?xct ?ga_Barred ?gg_Barred ?gc_Barred ?gm_Barred ?ga_InvalidDeed ?gg_InvalidDeed ?gc_InvalidDeed ?gm_InvalidDeed ?ga_NothingToUndo ?gg_NothingToUndo ?gc_NothingToUndo ?gm_NothingToUndo ?su_Barred_Barred ?su_NearError_Barred ?su_InvalidNumber_Barred ?su_InvalidLine_Barred ?su_NotAYard_Barred ?su_InvalidDeed_Barred ?su_NothingToUndo_Barred ?su_InvalidDeed_InvalidDeed ?su_NearError_InvalidDeed ?su_InvalidNumber_InvalidDeed ?su_InvalidLine_InvalidDeed ?su_NotAYard_InvalidDeed ?su_Barred_InvalidDeed ?su_NothingToUndo_InvalidDeed ?su_NothingToUndo_NothingToUndo ?su_NearError_NothingToUndo ?su_InvalidNumber_NothingToUndo ?su_InvalidLine_NothingToUndo ?su_NotAYard_NothingToUndo ?su_InvalidDeed_NothingToUndo ?su_Barred_NothingToUndo ?is_Yard_non ?is_Yard_bl ?is_Yard_int ?is_Yard_str ?is_Yard_tup ?is_Yard_lst ?it_Yard ?ix_Yard ?ja_Yard ?jm_Yard
    (case aC_NearError => k_is)
    (case aC_InvalidNumber => k_is)
    (case aC_InvalidLine => k_is)
    (case aC_NotAYard => k_is)
    (case aC_InvalidDeed => k_is)
    (case aC_Barred => k_is)
    (case aC_NothingToUndo => k_is)
    (case aC_Console => k_is)
    (case aC_Yard => k_is)
    (case im_combinations => k_is)
    (case z_abs => k_is)
    (case z_all => k_is)
    (case z_any => k_is)
    (case z_bool => k_is)
    (case z_divmod => k_is)
    (case z_enumerate => k_is)
    (case z_int => k_is)
    (case z_isinstance => k_is)
    (case z_len => k_is)
    (case z_list => k_is)
    (case z_range => k_is)
    (case z_set => k_is)
    (case z_sorted => k_is)
    (case z_str => k_is)
    (case z_tuple => k_is)
    (case z_zip => k_is)
    (case g_DONE => k_is)
    (case g_FIGURES => k_is)
    (case g_LOST => k_is)
    (case g_MOST_PLACES => k_is)
    (case g_NOBODY => k_is)
    (case g_NONE_consoles => k_is)
    (case g_NONE_yards => k_is)
    (case g_NOTHING => k_is)
    (case g_SAME => k_is)
    (case g_THROUGH => k_is)
    (case d_SIZES => k_is)
    (case dl_SIZES => k_is)
    (case ds_SIZES => first | decide | rfl | k_is)
    (case de_SIZES => exact ⟨⟨⟨_, rfl⟩, ⟨_, rfl⟩, rfl⟩, ⟨⟨⟨_, rfl⟩, ⟨_, rfl⟩, rfl⟩, trivial⟩⟩)
    (case a_check_yard => k_is)
    (case l_check_yard => k_is)
    (case c_check_yard => k_is)
    (case k_check_yard => k_is)
    (case a_is_string => k_is)
    (case l_is_string => k_is)
    (case c_is_string => k_is)
    (case k_is_string => k_is)
    (case a_has_form => k_is)
    (case l_has_form => k_is)
    (case c_has_form => k_is)
    (case k_has_form => k_is)
    (case a_is_whole => k_is)
    (case l_is_whole => k_is)
    (case c_is_whole => k_is)
    (case k_is_whole => k_is)
    (case a_is_between => k_is)
    (case l_is_between => k_is)
    (case c_is_between => k_is)
    (case k_is_between => k_is)
    (case a_is_place_of => k_is)
    (case l_is_place_of => k_is)
    (case c_is_place_of => k_is)
    (case k_is_place_of => k_is)
    (case a_check_deed => k_is)
    (case l_check_deed => k_is)
    (case c_check_deed => k_is)
    (case k_check_deed => k_is)
    (case a_is_near_by => k_is)
    (case l_is_near_by => k_is)
    (case c_is_near_by => k_is)
    (case k_is_near_by => k_is)
    (case a_places_of => k_is)
    (case l_places_of => k_is)
    (case c_places_of => k_is)
    (case k_places_of => k_is)
    (case a_has_between => k_is)
    (case l_has_between => k_is)
    (case c_has_between => k_is)
    (case k_has_between => k_is)
    (case a_reason_against => k_is)
    (case l_reason_against => k_is)
    (case c_reason_against => k_is)
    (case k_reason_against => k_is)
    (case a_union_of => k_is)
    (case l_union_of => k_is)
    (case c_union_of => k_is)
    (case k_union_of => k_is)
    (case a_without => k_is)
    (case l_without => k_is)
    (case c_without => k_is)
    (case k_without => k_is)
    (case a_space_behind => k_is)
    (case l_space_behind => k_is)
    (case c_space_behind => k_is)
    (case k_space_behind => k_is)
    (case a_Yard_do => k_is)
    (case i_Yard_do => k_is)
    (case l_Yard_do => k_is)
    (case c_Yard_do => k_is)
    (case k_Yard_do => k_is)
    (case a_single_space => k_is)
    (case l_single_space => k_is)
    (case c_single_space => k_is)
    (case k_single_space => k_is)
    (case a_Yard_init => k_is)
    (case i_Yard_init => k_is)
    (case l_Yard_init => k_is)
    (case c_Yard_init => k_is)
    (case k_Yard_init => k_is)
    (case a_copy_of => k_is)
    (case l_copy_of => k_is)
    (case c_copy_of => k_is)
    (case k_copy_of => k_is)
    (case a_Console_init => k_is)
    (case i_Console_init => k_is)
    (case l_Console_init => k_is)
    (case c_Console_init => k_is)
    (case k_Console_init => k_is)
    (case a_is_made_of => k_is)
    (case l_is_made_of => k_is)
    (case c_is_made_of => k_is)
    (case k_is_made_of => k_is)
    (case a_number_in => k_is)
    (case l_number_in => k_is)
    (case c_number_in => k_is)
    (case k_number_in => k_is)
    (case a_numbers_in => k_is)
    (case l_numbers_in => k_is)
    (case c_numbers_in => k_is)
    (case k_numbers_in => k_is)
    (case a_common_of => k_is)
    (case l_common_of => k_is)
    (case c_common_of => k_is)
    (case k_common_of => k_is)
    (case a_closing_by => k_is)
    (case l_closing_by => k_is)
    (case c_closing_by => k_is)
    (case k_closing_by => k_is)
    (case a_is_lot_of => k_is)
    (case l_is_lot_of => k_is)
    (case c_is_lot_of => k_is)
    (case k_is_lot_of => k_is)
    (case a_is_lot => k_is)
    (case l_is_lot => k_is)
    (case c_is_lot => k_is)
    (case k_is_lot => k_is)
    (case a_lot_text => k_is)
    (case l_lot_text => k_is)
    (case c_lot_text => k_is)
    (case k_lot_text => k_is)
    (case a_said_of_closing => k_is)
    (case l_said_of_closing => k_is)
    (case c_said_of_closing => k_is)
    (case k_said_of_closing => k_is)
    (case a_said_of_deed => k_is)
    (case l_said_of_deed => k_is)
    (case c_said_of_deed => k_is)
    (case k_said_of_deed => k_is)
    (case a_said_of_reach => k_is)
    (case l_said_of_reach => k_is)
    (case c_said_of_reach => k_is)
    (case k_said_of_reach => k_is)
    (case a_are_tied => k_is)
    (case l_are_tied => k_is)
    (case c_are_tied => k_is)
    (case k_are_tied => k_is)
    (case a_held_with => k_is)
    (case l_held_with => k_is)
    (case c_held_with => k_is)
    (case k_held_with => k_is)
    (case a_parts_by => k_is)
    (case l_parts_by => k_is)
    (case c_parts_by => k_is)
    (case k_parts_by => k_is)
    (case a_Yard_parts => k_is)
    (case i_Yard_parts => k_is)
    (case l_Yard_parts => k_is)
    (case c_Yard_parts => k_is)
    (case k_Yard_parts => k_is)
    (case a_all_lots => k_is)
    (case l_all_lots => k_is)
    (case c_all_lots => k_is)
    (case k_all_lots => k_is)
    (case a_is_within => k_is)
    (case l_is_within => k_is)
    (case c_is_within => k_is)
    (case k_is_within => k_is)
    (case a_is_open_by => k_is)
    (case l_is_open_by => k_is)
    (case c_is_open_by => k_is)
    (case k_is_open_by => k_is)
    (case a_open_lots_by => k_is)
    (case l_open_lots_by => k_is)
    (case c_open_lots_by => k_is)
    (case k_open_lots_by => k_is)
    (case a_Yard_undo => k_is)
    (case i_Yard_undo => k_is)
    (case l_Yard_undo => k_is)
    (case c_Yard_undo => k_is)
    (case k_Yard_undo => k_is)
    (case a_said_of_undo => k_is)
    (case l_said_of_undo => k_is)
    (case c_said_of_undo => k_is)
    (case k_said_of_undo => k_is)
    (case a_said_of_word => k_is)
    (case l_said_of_word => k_is)
    (case c_said_of_word => k_is)
    (case k_said_of_word => k_is)
    (case a_words_of => k_is)
    (case l_words_of => k_is)
    (case c_words_of => k_is)
    (case k_words_of => k_is)
    (case a_Console_say => k_is)
    (case i_Console_say => k_is)
    (case l_Console_say => k_is)
    (case c_Console_say => k_is)
    (case k_Console_say => k_is)
    (case a__law_alone => k_is)
    (case l__law_alone => k_is)
    (case c__law_alone => k_is)
    (case k__law_alone => k_is)
    (case a__law_take => k_is)
    (case l__law_take => k_is)
    (case c__law_take => k_is)
    (case k__law_take => k_is)
    (case a__law_of => k_is)
    (case l__law_of => k_is)
    (case c__law_of => k_is)
    (case k__law_of => k_is)
    (case a__law_deed => k_is)
    (case l__law_deed => k_is)
    (case c__law_deed => k_is)
    (case k__law_deed => k_is)
    (case a__law_did => k_is)
    (case l__law_did => k_is)
    (case c__law_did => k_is)
    (case k__law_did => k_is)
    (case a__law_line => k_is)
    (case l__law_line => k_is)
    (case c__law_line => k_is)
    (case k__law_line => k_is)
    (case a__law_places => k_is)
    (case l__law_places => k_is)
    (case c__law_places => k_is)
    (case k__law_places => k_is)
    (case a__law_well => k_is)
    (case l__law_well => k_is)
    (case c__law_well => k_is)
    (case k__law_well => k_is)
    (case a_law => k_is)
    (case l_law => k_is)
    (case c_law => k_is)
    (case k_law => k_is)
    (case pg_Console => k_is)
    (case hd_Console => k_is)
    (case po_Console => k_is)
    (case sa_Console => k_is)
    (case mk_Console => k_is)
    (case kc_Console => k_is)
    (case pg_Yard => k_is)
    (case hd_Yard => k_is)
    (case po_Yard => k_is)
    (case sa_Yard => k_is)
    (case mk_Yard => k_is)
    (case kc_Yard => k_is)
    (case nf_Console_yard => k_is)
    (case nf_Yard_deeds => k_is)
    (case nf_Yard_past => k_is)
    (case nf_Yard_places => k_is)
    (case nf_Yard_space => k_is)
    (case eC_NearError => k_is)
    (case tC_NearError => k_is)
    (case hC_NearError => k_is)
    (case eC_InvalidNumber => k_is)
    (case tC_InvalidNumber => k_is)
    (case hC_InvalidNumber => k_is)
    (case eC_InvalidLine => k_is)
    (case tC_InvalidLine => k_is)
    (case hC_InvalidLine => k_is)
    (case eC_NotAYard => k_is)
    (case tC_NotAYard => k_is)
    (case hC_NotAYard => k_is)
    (case eC_InvalidDeed => k_is)
    (case tC_InvalidDeed => k_is)
    (case hC_InvalidDeed => k_is)
    (case eC_Barred => k_is)
    (case tC_Barred => k_is)
    (case hC_Barred => k_is)
    (case eC_NothingToUndo => k_is)
    (case tC_NothingToUndo => k_is)
    (case hC_NothingToUndo => k_is)
    (case xl_InvalidNumber => k_is)
    (case xr_InvalidNumber => first | decide +kernel | rfl)
    (case xs_InvalidNumber => k_is)
    (case xn_InvalidNumber => k_is)
    (case a_InvalidNumber_init => k_is)
    (case i_InvalidNumber_init => k_is)
    (case l_InvalidNumber_init => k_is)
    (case c_InvalidNumber_init => k_is)
    (case k_InvalidNumber_init => k_is)
    (case xt_InvalidNumber => k_is)
    (case xk_InvalidNumber => k_is)
    (case xl_InvalidLine => k_is)
    (case xr_InvalidLine => first | decide +kernel | rfl)
    (case xs_InvalidLine => k_is)
    (case xn_InvalidLine => k_is)
    (case a_InvalidLine_init => k_is)
    (case i_InvalidLine_init => k_is)
    (case l_InvalidLine_init => k_is)
    (case c_InvalidLine_init => k_is)
    (case k_InvalidLine_init => k_is)
    (case xt_InvalidLine => k_is)
    (case xk_InvalidLine => k_is)
    (case xl_NotAYard => k_is)
    (case xr_NotAYard => first | decide +kernel | rfl)
    (case xs_NotAYard => k_is)
    (case xn_NotAYard => k_is)
    (case a_NotAYard_init => k_is)
    (case i_NotAYard_init => k_is)
    (case l_NotAYard_init => k_is)
    (case c_NotAYard_init => k_is)
    (case k_NotAYard_init => k_is)
    (case xt_NotAYard => k_is)
    (case xk_NotAYard => k_is)
    (case xl_InvalidDeed => k_is)
    (case xr_InvalidDeed => first | decide +kernel | rfl)
    (case xs_InvalidDeed => k_is)
    (case xn_InvalidDeed => k_is)
    (case a_InvalidDeed_init => k_is)
    (case i_InvalidDeed_init => k_is)
    (case l_InvalidDeed_init => k_is)
    (case c_InvalidDeed_init => k_is)
    (case k_InvalidDeed_init => k_is)
    (case xt_InvalidDeed => k_is)
    (case xk_InvalidDeed => k_is)
    (case xl_Barred => k_is)
    (case xr_Barred => first | decide +kernel | rfl)
    (case xs_Barred => k_is)
    (case xn_Barred => k_is)
    (case a_Barred_init => k_is)
    (case i_Barred_init => k_is)
    (case l_Barred_init => k_is)
    (case c_Barred_init => k_is)
    (case k_Barred_init => k_is)
    (case xt_Barred => k_is)
    (case xk_Barred => k_is)
    (case x0_NothingToUndo => k_exc)
    (case xk_NothingToUndo => k_is)
    (case xcn => k_is)
    (case xct => k_is)
    (case ga_Barred => k_is)
    (case gg_Barred => k_is)
    (case gc_Barred => k_is)
    (case gm_Barred => k_is)
    (case ga_InvalidDeed => k_is)
    (case gg_InvalidDeed => k_is)
    (case gc_InvalidDeed => k_is)
    (case gm_InvalidDeed => k_is)
    (case ga_NothingToUndo => k_is)
    (case gg_NothingToUndo => k_is)
    (case gc_NothingToUndo => k_is)
    (case gm_NothingToUndo => k_is)
    (case su_Barred_Barred => first | k_is | rfl)
    (case su_NearError_Barred => first | k_is | rfl)
    (case su_InvalidNumber_Barred => first | k_is | rfl)
    (case su_InvalidLine_Barred => first | k_is | rfl)
    (case su_NotAYard_Barred => first | k_is | rfl)
    (case su_InvalidDeed_Barred => first | k_is | rfl)
    (case su_NothingToUndo_Barred => first | k_is | rfl)
    (case su_InvalidDeed_InvalidDeed => first | k_is | rfl)
    (case su_NearError_InvalidDeed => first | k_is | rfl)
    (case su_InvalidNumber_InvalidDeed => first | k_is | rfl)
    (case su_InvalidLine_InvalidDeed => first | k_is | rfl)
    (case su_NotAYard_InvalidDeed => first | k_is | rfl)
    (case su_Barred_InvalidDeed => first | k_is | rfl)
    (case su_NothingToUndo_InvalidDeed => first | k_is | rfl)
    (case su_NothingToUndo_NothingToUndo => first | k_is | rfl)
    (case su_NearError_NothingToUndo => first | k_is | rfl)
    (case su_InvalidNumber_NothingToUndo => first | k_is | rfl)
    (case su_InvalidLine_NothingToUndo => first | k_is | rfl)
    (case su_NotAYard_NothingToUndo => first | k_is | rfl)
    (case su_InvalidDeed_NothingToUndo => first | k_is | rfl)
    (case su_Barred_NothingToUndo => first | k_is | rfl)
    (case is_Yard_non => first | k_is | rfl)
    (case is_Yard_bl => first | k_is | rfl)
    (case is_Yard_int => first | k_is | rfl)
    (case is_Yard_str => first | k_is | rfl)
    (case is_Yard_tup => first | k_is | rfl)
    (case is_Yard_lst => first | k_is | rfl)
    (case it_Yard => k_is)
    (case ix_Yard => first | k_is | rfl)
    (case ja_Yard => k_is)
    (case jm_Yard => k_is)

