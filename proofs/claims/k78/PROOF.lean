import PyProof.Rows.All
import Wide.All
import OpenK.AllK
import Wide.FinOn
import HandS.ForMost
import HandS.ForExc
import HandS.Walk
import HandS.IsInst
import HandS.Strs
import HandS.SetFor
import HandS.TupAny
import HandS.TryMany
import HandS.Zip
import HandS.Conv
import HandS.RaiseMore
import HandS.OwnEq
import HandS.Style
import HandS.ExcInit
import HandS.ExcField
import HandS.ExcIs
import HandS.More
import HandS.Lambda
import HandS.DictComp
import KE.KeyNested
import KE.KDictKeyed
import KE.KExcIs
import KE.GoesMore
import HandS.Small
import KE.KIsAll
import HandS.SortOrd
import HandS.TupSets
import KE.KSortTup
import HandS.ExcCtx
import HandS.StrMore
import HandS.Star
import HandS.SortInts
import HandS.RepeatKit
import HandS.EndTab
import PyProof.CallFns
import HandS.TupLen
import PySem.Challenge.RW_nearlots_k78_whole_yards_made
set_option Elab.async false
set_option linter.all false
set_option maxRecDepth 100000
set_option maxHeartbeats 2000000
namespace NL
open PySem PySem.Spec PyProof.Rows L2

/-! ### data: what a value tells, tuples and lists that stand still by what is in them, what may change by its number in the store -/
inductive Da where
  | non | bl (b : Bool) | int (i : Int) | str (x : Str) | tup (l : List Da) | lst (l : List Da) | cell (j : Nat) | exc (a : Addr) (dx : Option Addr) (c : Str) (d : Da) | src (l : List Da) | fn (k : Nat) (f c : Addr)
/-- what may change -/
inductive Cell where
  | lst (l : List Da)
  | obj (c : Str) (fs : List (Str × Da))
  | tab (k : Nat)
  | dK (l : List (Key × Da))
  | dN (l : List (Da × Da))
/-- the world of a run: where the cells are, and what stands still -/
structure Wd where
  ι : List Addr
  F : Hp
/-- a later world -/
structure Wd.le (W W' : Wd) : Prop where
  i : ∀ (j : Nat) (a : Addr), W.ι[j]? = some a → W'.ι[j]? = some a
  F : ∀ a o, W.F a = some o → W'.F a = some o
theorem Wd.le.refl (W : Wd) : W.le W := ⟨fun _ _ h => h, fun _ _ h => h⟩
theorem Wd.le.trans {W W1 W2 : Wd} (a : W.le W1) (b : W1.le W2) : W.le W2 := ⟨fun j x h => b.i j x (a.i j x h), fun x o h => b.F x o (a.F x o h)⟩

/-- the constants of a law's proof -/
structure Gc where
  P : Program
  w : World
  K : PySem.W.Frag
  cls : Str → Addr
  xf : Str → Option Str
  tab : Nat → Addr := fun _ => 0
  tq : Nat → Str := fun _ => ""
  W0 : Wd := ⟨[], fun _ => none⟩

/-- an exception's dict, as its class has it: none, or one field -/
def XDict (G : Gc) (W : Wd) (dx : Option Addr) (c : Str) (d : Da) (u : V) : Prop := match G.xf c with
  | none => dx = none ∧ d = .non
  | some f => ∃ b, dx = some b ∧ W.F b = some (.xd [(f, u)])
mutual
def Rep (G : Gc) (W : Wd) : Da → V → Prop
  | .non, v => v = .non
  | .bl b, v => v = .bl b
  | .int i, v => v = .int i
  | .str x, v => v = .str x
  | .tup l, v => ∃ a vs, v = .ref a ∧ SqT G.K W.F a vs ∧ Reps G W l vs
  | .lst l, v => ∃ a vs, v = .ref a ∧ W.F a = some (.lst vs) ∧ Reps G W l vs
  | .cell j, v => ∃ a, W.ι[j]? = some a ∧ v = .ref a
  | .exc a dx c d, v => v = .ref a ∧ ∃ u, XDict G W dx c d u ∧ Rep G W d u
  | .src l, v => ∃ a vs, v = .ref a ∧ SqL G.K W.F a vs ∧ Reps G W l vs
  | .fn k f c, v => v = .ref f ∧ W.F c = some (LamX.CodeO c (G.tq k))
def Reps (G : Gc) (W : Wd) : List Da → List V → Prop
  | [], vs => vs = []
  | d :: ds, vs => ∃ v r, vs = v :: r ∧ Rep G W d v ∧ Reps G W ds r
end

theorem SqL.mono {K : PySem.W.Frag} {H H' : Hp} {a : Addr} {xs : List V} (h : SqL K H a xs) (e : ∀ a o, H a = some o → H' a = some o) : SqL K H' a xs := by
  match h with
  | .inl (.inl q) => exact .inl (.inl (e _ _ q))
  | .inl (.inr ⟨o, q⟩) => exact .inl (.inr ⟨o, e _ _ q⟩)
  | .inr q => exact .inr q
theorem SqT.mono {K : PySem.W.Frag} {H H' : Hp} {a : Addr} {xs : List V} (h : SqT K H a xs) (e : ∀ a o, H a = some o → H' a = some o) : SqT K H' a xs := by
  match h with
  | .inl (.inl q) => exact .inl (.inl (e _ _ q))
  | .inl (.inr ⟨o, q⟩) => exact .inl (.inr ⟨o, e _ _ q⟩)
  | .inr q => exact .inr q

theorem XDict.mono {G : Gc} {W W' : Wd} {dx : Option Addr} {c : Str} {d : Da} {u : V} (e : W.le W') (h : XDict G W dx c d u) : XDict G W' dx c d u := by
  unfold XDict at h ⊢
  split
  · rename_i q; rw [q] at h; exact h
  · rename_i f q
    rw [q] at h
    obtain ⟨b, h1, h2⟩ := h
    exact ⟨b, h1, e.F _ _ h2⟩
mutual
theorem Rep.mono {G : Gc} {W W' : Wd} (e : W.le W') : ∀ {d : Da} {v : V}, Rep G W d v → Rep G W' d v
  | .non, _, h => by simpa [Rep] using h
  | .bl _, _, h => by simpa [Rep] using h
  | .int _, _, h => by simpa [Rep] using h
  | .str _, _, h => by simpa [Rep] using h
  | .tup l, v, h => by
    rw [Rep] at h ⊢
    obtain ⟨a, vs, h1, h2, h3⟩ := h
    exact ⟨a, vs, h1, SqT.mono h2 e.F, Reps.mono e h3⟩
  | .lst l, v, h => by
    rw [Rep] at h ⊢
    obtain ⟨a, vs, h1, h2, h3⟩ := h
    exact ⟨a, vs, h1, e.F _ _ h2, Reps.mono e h3⟩
  | .cell j, v, h => by
    rw [Rep] at h ⊢
    obtain ⟨a, h1, h2⟩ := h
    exact ⟨a, e.i j a h1, h2⟩
  | .exc a dx c d, v, h => by
    rw [Rep] at h ⊢
    obtain ⟨h1, u, h2, h3⟩ := h
    exact ⟨h1, u, h2.mono e, Rep.mono e h3⟩
  | .src l, v, h => by
    rw [Rep] at h ⊢
    obtain ⟨a, vs, h1, h2, h3⟩ := h
    exact ⟨a, vs, h1, SqL.mono h2 e.F, Reps.mono e h3⟩
  | .fn k f c, v, h => by
    rw [Rep] at h ⊢
    exact ⟨h.1, e.F _ _ h.2⟩
theorem Reps.mono {G : Gc} {W W' : Wd} (e : W.le W') : ∀ {l : List Da} {vs : List V}, Reps G W l vs → Reps G W' l vs
  | [], _, h => by simpa [Reps] using h
  | d :: ds, vs, h => by
    rw [Reps] at h ⊢
    obtain ⟨v, r, h1, h2, h3⟩ := h
    exact ⟨v, r, h1, Rep.mono e h2, Reps.mono e h3⟩
end
theorem Reps.nil {G : Gc} {W : Wd} : Reps G W [] [] := by rw [Reps]
theorem Reps.cons {G : Gc} {W : Wd} {d : Da} {v : V} {ds : List Da} {vs : List V} (h : Rep G W d v) (r : Reps G W ds vs) : Reps G W (d :: ds) (v :: vs) := by
  rw [Reps]; exact ⟨v, vs, rfl, h, r⟩
theorem Reps.inv_nil {G : Gc} {W : Wd} {vs : List V} (h : Reps G W [] vs) : vs = [] := by simpa [Reps] using h
theorem Reps.inv_cons {G : Gc} {W : Wd} {d : Da} {ds : List Da} {vs : List V} (h : Reps G W (d :: ds) vs) : ∃ v r, vs = v :: r ∧ Rep G W d v ∧ Reps G W ds r := by
  rw [Reps] at h; exact h
theorem Reps.length {G : Gc} {W : Wd} : ∀ {l : List Da} {vs : List V}, Reps G W l vs → l.length = vs.length
  | [], _, h => by rw [h.inv_nil]; rfl
  | d :: ds, vs, h => by
    obtain ⟨v, r, rfl, _, h3⟩ := h.inv_cons
    simp [h3.length]
theorem Reps.append {G : Gc} {W : Wd} : ∀ {l m : List Da} {vs us : List V}, Reps G W l vs → Reps G W m us → Reps G W (l ++ m) (vs ++ us)
  | [], m, vs, us, h, k => by rw [h.inv_nil]; exact k
  | d :: ds, m, vs, us, h, k => by
    obtain ⟨v, r, rfl, h2, h3⟩ := h.inv_cons
    exact .cons h2 (h3.append k)
theorem Reps.get {G : Gc} {W : Wd} : ∀ {l : List Da} {vs : List V}, Reps G W l vs → ∀ {i : Nat} {d : Da}, l[i]? = some d → ∃ v, vs[i]? = some v ∧ Rep G W d v
  | [], _, h, i, d, e => by simp at e
  | d :: ds, vs, h, i, d', e => by
    obtain ⟨v, r, rfl, h2, h3⟩ := h.inv_cons
    cases i with
    | zero => simp at e; subst e; exact ⟨v, rfl, h2⟩
    | succ i => exact h3.get (i := i) (by simpa using e)
theorem Reps.getV {G : Gc} {W : Wd} {l : List Da} {vs : List V} (h : Reps G W l vs) {i : Nat} {v : V} (e : vs[i]? = some v) : ∃ d, l[i]? = some d ∧ Rep G W d v := by
  have hl := h.length
  have hi : i < vs.length := (List.getElem?_eq_some_iff.mp e).1
  have hi2 : i < l.length := by omega
  obtain ⟨u, hu, r⟩ := h.get (i := i) (d := l[i]) (by simp [hi2])
  rw [e] at hu; cases hu
  exact ⟨l[i], by simp [hi2], r⟩
theorem Reps.set {G : Gc} {W : Wd} : ∀ {l : List Da} {vs : List V} {d : Da} {v : V}, Reps G W l vs → Rep G W d v → ∀ i : Nat, Reps G W (l.set i d) (vs.set i v)
  | [], vs, _, _, h, _, i => by rw [h.inv_nil]; exact .nil
  | x :: xs, vs, d, v, h, k, i => by
    obtain ⟨u, r, rfl, h2, h3⟩ := h.inv_cons
    cases i with
    | zero => exact .cons k h3
    | succ i => exact .cons h2 (h3.set k i)
theorem Reps.take {G : Gc} {W : Wd} : ∀ {l : List Da} {vs : List V}, Reps G W l vs → ∀ n : Nat, Reps G W (l.take n) (vs.take n)
  | [], vs, h, n => by rw [h.inv_nil]; simpa using Reps.nil
  | x :: xs, vs, h, n => by
    obtain ⟨u, r, rfl, h2, h3⟩ := h.inv_cons
    cases n with
    | zero => exact .nil
    | succ n => exact .cons h2 (h3.take n)
theorem Reps.drop {G : Gc} {W : Wd} : ∀ {l : List Da} {vs : List V}, Reps G W l vs → ∀ n : Nat, Reps G W (l.drop n) (vs.drop n)
  | [], vs, h, n => by rw [h.inv_nil]; simpa using Reps.nil
  | x :: xs, vs, h, n => by
    obtain ⟨u, r, rfl, h2, h3⟩ := h.inv_cons
    cases n with
    | zero => exact .cons h2 h3
    | succ n => exact h3.drop n
theorem Reps.reverse {G : Gc} {W : Wd} : ∀ {l : List Da} {vs : List V}, Reps G W l vs → Reps G W l.reverse vs.reverse
  | [], vs, h => by rw [h.inv_nil]; simpa using Reps.nil
  | x :: xs, vs, h => by
    obtain ⟨u, r, rfl, h2, h3⟩ := h.inv_cons
    simp only [List.reverse_cons]
    exact (h3.reverse).append (.cons h2 .nil)

/-! ### fields -/
inductive RepF (G : Gc) (W : Wd) : List (Str × Da) → List (Str × V) → Prop
  | nil : RepF G W [] []
  | cons {f : Str} {d : Da} {v : V} {ds : List (Str × Da)} {vs : List (Str × V)} (h : Rep G W d v) (r : RepF G W ds vs) : RepF G W ((f, d) :: ds) ((f, v) :: vs)
theorem RepF.mono {G : Gc} {W W' : Wd} (e : W.le W') {ds : List (Str × Da)} {vs : List (Str × V)} (h : RepF G W ds vs) : RepF G W' ds vs := by
  induction h with
  | nil => exact .nil
  | cons h _ ih => exact .cons (h.mono e) ih
theorem RepF.length {G : Gc} {W : Wd} {ds : List (Str × Da)} {vs : List (Str × V)} (h : RepF G W ds vs) : ds.length = vs.length := by
  induction h with
  | nil => rfl
  | cons _ _ ih => simp [ih]
theorem RepF.lookup {G : Gc} {W : Wd} {ds : List (Str × Da)} {vs : List (Str × V)} (h : RepF G W ds vs) {f : Str} {d : Da} (e : ds.lookup f = some d) : ∃ v, vs.lookup f = some v ∧ Rep G W d v := by
  induction h with
  | nil => cases e
  | @cons g d' v ds vs h _ ih =>
    rw [List.lookup_cons] at e ⊢
    cases q : f == g with
    | true => rw [q] at e; cases e; exact ⟨v, rfl, h⟩
    | false => rw [q] at e; exact ih e
theorem RepF.lookup_none {G : Gc} {W : Wd} {ds : List (Str × Da)} {vs : List (Str × V)} (h : RepF G W ds vs) {f : Str} (e : ds.lookup f = none) : vs.lookup f = none := by
  induction h with
  | nil => rfl
  | @cons g d' v ds vs h _ ih =>
    rw [List.lookup_cons] at e ⊢
    cases q : f == g with
    | true => rw [q] at e; cases e
    | false => rw [q] at e; exact ih e
/-- a field stored, as putF stores it -/
def putD (f : Str) (d : Da) : List (Str × Da) → List (Str × Da)
  | [] => [(f, d)]
  | (g, e) :: r => if g = f then (g, d) :: r else (g, e) :: putD f d r
theorem RepF.put {G : Gc} {W : Wd} {ds : List (Str × Da)} {vs : List (Str × V)} (h : RepF G W ds vs) {f : Str} {d : Da} {v : V} (r : Rep G W d v) : RepF G W (putD f d ds) (putF f v vs) := by
  induction h with
  | nil => exact .cons r .nil
  | @cons g d' v' ds vs h t ih =>
    unfold putD putF
    by_cases e : g = f
    · rw [if_pos e, if_pos e]; exact .cons r t
    · rw [if_neg e, if_neg e]; exact .cons h ih

/-! ### dicts: keys that are ints or texts, keys that are tuples (of any depth to 8) -/
mutual
def nkD : Da → Option NestedKey
  | .non => some .none
  | .bl b => some (.num (if b = true then 1 else 0))
  | .int i => some (.num i)
  | .str x => some (.text x)
  | .tup l => (nkDs l).map .tup
  | _ => none
def nkDs : List Da → Option (List NestedKey)
  | [] => some []
  | d :: l => match nkD d, nkDs l with
    | some k, some ks => some (k :: ks)
    | _, _ => none
end
inductive NRel : List (NestedKey × Addr × V) → List (NestedKey × Addr × Value) → Prop
  | nil : NRel [] []
  | cons {k : NestedKey} {p : Addr} {v : V} {u : Value} {xs : List (NestedKey × Addr × V)} {zs : List (NestedKey × Addr × Value)} (r : RelV v u) (t : NRel xs zs) : NRel ((k, p, v) :: xs) ((k, p, u) :: zs)
/-- at a stands a dict with the entries xs -/
def DNat (w : World) (a : Addr) (xs : List (NestedKey × Addr × V)) (h : Heap) : Prop := xs.length ≤ sizeLine ∧ (a == sysModules) = false ∧ ∃ zs : List (NestedKey × Addr × Value), NRel xs zs ∧
  ∃ o es ep, h.get? a = some o ∧ o.ExactDict ∧ o.data = .dict es ep ∧ es.toList = zs.map (fun z => (⟨z.1.hash w, .ref z.2.1, z.2.2⟩ : DictEntry)) ∧ (zs.map (·.1)).Nodup
def DNO (w : World) (a : Addr) (xs : List (NestedKey × Addr × V)) : HO := .ext (DNat w a xs)
inductive RepN (G : Gc) (W : Wd) : List (Da × Da) → List (NestedKey × Addr × V) → Prop
  | nil : RepN G W [] []
  | cons {k d : Da} {n : NestedKey} {p : Addr} {v : V} {l : List (Da × Da)} {xs : List (NestedKey × Addr × V)} (hk : nkD k = some n) (hd : n.depth ≤ 8) (rk : Rep G W k (.ref p)) (rd : Rep G W d v) (t : RepN G W l xs) : RepN G W ((k, d) :: l) ((n, p, v) :: xs)
theorem RepN.mono {G : Gc} {W W' : Wd} (e : W.le W') {l : List (Da × Da)} {xs : List (NestedKey × Addr × V)} (h : RepN G W l xs) : RepN G W' l xs := by
  induction h with
  | nil => exact .nil
  | cons hk hd rk rd _ ih => exact .cons hk hd (rk.mono e) (rd.mono e) ih
inductive RepK (G : Gc) (W : Wd) : List (Key × Da) → List (Key × V) → Prop
  | nil : RepK G W [] []
  | cons {k : Key} {d : Da} {v : V} {l : List (Key × Da)} {xs : List (Key × V)} (rd : Rep G W d v) (t : RepK G W l xs) : RepK G W ((k, d) :: l) ((k, v) :: xs)
theorem RepK.mono {G : Gc} {W W' : Wd} (e : W.le W') {l : List (Key × Da)} {xs : List (Key × V)} (h : RepK G W l xs) : RepK G W' l xs := by
  induction h with
  | nil => exact .nil
  | cons rd _ ih => exact .cons (rd.mono e) ih
/-! ### the store in the heap -/
def CellAt (G : Gc) (W : Wd) (H : Hp) (a : Addr) : Cell → Prop
  | .lst l => ∃ vs, H a = some (.lst vs) ∧ Reps G W l vs
  | .obj c fs => ∃ dx vs, H a = some (.ins (G.cls c) dx vs) ∧ RepF G W fs vs
  | .tab k => a = G.tab k ∧ ∃ ps : Array Value, H a = some (.tbl ps) ∧ TriplesOk ps.toList ∧ ∀ (pos : Pos) (cv : Value), codeAmong pos ps.toList = some cv → ∃ c, cv = .ref c ∧ W.F c = some (LamX.CodeO c (G.tq k))
  | .dK l => ∃ kvs, H a = some (.dK kvs) ∧ RepK G W l kvs
  | .dN l => ∃ xs, H a = some (DNO G.w a xs) ∧ RepN G W l xs
structure SR (G : Gc) (W : Wd) (H : Hp) (S : List Cell) : Prop where
  sub : ∀ a o, W.F a = some o → H a = some o
  nd : W.ι.Nodup
  len : W.ι.length = S.length
  cell : ∀ (j : Nat) (c : Cell), S[j]? = some c → ∃ a, W.ι[j]? = some a ∧ CellAt G W H a c
  out : ∀ a ∈ W.ι, W.F a = none
  ge : G.W0.le W
/-- from the world W with the heap H to the world W' with the heap H': nothing that stood still has changed, what is new is new -/
structure Ext (W : Wd) (H : Hp) (W' : Wd) (H' : Hp) : Prop where
  le : W.le W'
  new : ∀ a, a ∈ W'.ι → a ∈ W.ι ∨ H a = none
  Fn : ∀ a o, W'.F a = some o → W.F a = some o ∨ H a = none
  keep : ∀ a o, H a = some o → a ∉ W.ι → H' a = some o
  dom : ∀ a, H' a = none → H a = none
theorem Ext.refl (W : Wd) (H : Hp) : Ext W H W H := ⟨.refl W, fun _ h => .inl h, fun _ _ h => .inl h, fun _ _ h _ => h, fun _ h => h⟩
theorem Ext.trans {W W1 W2 : Wd} {H H1 H2 : Hp} (x : Ext W H W1 H1) (y : Ext W1 H1 W2 H2) : Ext W H W2 H2 where
  le := x.le.trans y.le
  new := fun a h => by
    rcases y.new a h with h | h
    · exact x.new a h
    · exact .inr (x.dom a h)
  Fn := fun a o h => by
    rcases y.Fn a o h with h | h
    · exact x.Fn a o h
    · exact .inr (x.dom a h)
  keep := fun a o h n => by
    refine y.keep a o (x.keep a o h n) fun m => ?_
    rcases x.new a m with q | q
    · exact n q
    · rw [h] at q; cases q
  dom := fun a h => x.dom a (y.dom a h)

theorem CellAt.tracked {G : Gc} {W : Wd} {H : Hp} {a : Addr} {c : Cell} (h : CellAt G W H a c) : H a ≠ none := by
  cases c with
  | lst l => obtain ⟨vs, h, _⟩ := h; rw [h]; simp
  | obj c fs => obtain ⟨dx, vs, h, _⟩ := h; rw [h]; simp
  | tab j => obtain ⟨_, ps, h, _⟩ := h; rw [h]; simp
  | dK l => obtain ⟨_, h, _⟩ := h; rw [h]; simp
  | dN l => obtain ⟨_, h, _⟩ := h; rw [h]; simp
theorem CellAt.mono {G : Gc} {W W' : Wd} {H H' : Hp} {a : Addr} {c : Cell} (e : W.le W') (h : CellAt G W H a c) (k : H' a = H a) : CellAt G W' H' a c := by
  cases c with
  | lst l => obtain ⟨vs, h, r⟩ := h; exact ⟨vs, k.trans h, r.mono e⟩
  | obj c fs => obtain ⟨dx, vs, h, r⟩ := h; exact ⟨dx, vs, k.trans h, r.mono e⟩
  | tab j => obtain ⟨ha, ps, h, t, r⟩ := h; exact ⟨ha, ps, k.trans h, t, fun pos cv hc => let ⟨c, e1, e2⟩ := r pos cv hc; ⟨c, e1, e.F _ _ e2⟩⟩
  | dK l => obtain ⟨kvs, h, r⟩ := h; exact ⟨kvs, k.trans h, r.mono e⟩
  | dN l => obtain ⟨xs, h, r⟩ := h; exact ⟨xs, k.trans h, r.mono e⟩
theorem SR.tracked {G : Gc} {W : Wd} {H : Hp} {S : List Cell} (s : SR G W H S) {a : Addr} (h : a ∈ W.ι) : H a ≠ none := by
  obtain ⟨j, hj, e⟩ := List.mem_iff_getElem.mp h
  have hj2 : j < S.length := by rw [← s.len]; exact hj
  obtain ⟨b, hb, c⟩ := s.cell j S[j] (by simp [hj2])
  have : W.ι[j]? = some a := by simp [hj, e]
  rw [this] at hb; cases hb
  exact c.tracked
theorem SR.notin {G : Gc} {W : Wd} {H : Hp} {S : List Cell} (s : SR G W H S) {a : Addr} (h : H a = none) : a ∉ W.ι := fun m => s.tracked m h
theorem SR.Fnone {G : Gc} {W : Wd} {H : Hp} {S : List Cell} (s : SR G W H S) {a : Addr} (h : H a = none) : W.F a = none := by
  cases q : W.F a with
  | none => rfl
  | some o => have := s.sub a o q; rw [h] at this; cases this

/-- a new object that stands still -/
def Wd.frz (W : Wd) (p : Addr) (o : HO) : Wd := ⟨W.ι, upd W.F p o⟩
theorem Ext.frz {G : Gc} {W : Wd} {H : Hp} {S : List Cell} (s : SR G W H S) {p : Addr} {o : HO} (hp : H p = none) : Ext W H (W.frz p o) (upd H p o) ∧ SR G (W.frz p o) (upd H p o) S := by
  have fp := s.Fnone hp
  have le : W.le (W.frz p o) := ⟨fun _ _ h => h, fun a u h => by
    show upd W.F p o a = some u
    rw [upd_ne (ne_of_none h fp)]; exact h⟩
  refine ⟨⟨le, fun a h => .inl h, fun a u h => ?_, fun a u h _ => by rw [upd_ne (ne_of_none h hp)]; exact h, fun a h => ?_⟩, ⟨fun a u h => ?_, s.nd, s.len, fun j c h => ?_, fun a h => ?_, s.ge.trans le⟩⟩
  · by_cases e : a = p
    · subst e; exact .inr hp
    · have h : upd W.F p o a = some u := h
      rw [upd_ne e] at h; exact .inl h
  · by_cases e : a = p
    · subst e; exact hp
    · rw [upd_ne e] at h; exact h
  · have h : upd W.F p o a = some u := h
    by_cases e : a = p
    · subst e; rw [upd_same] at h ⊢; exact h
    · rw [upd_ne e] at h ⊢; exact s.sub a u h
  · obtain ⟨a, ha, q⟩ := s.cell j c h
    have hne : a ≠ p := fun e => s.notin hp (e ▸ List.mem_of_getElem? ha)
    exact ⟨a, ha, q.mono le (upd_ne hne)⟩
  · have hne : a ≠ p := fun e => s.notin hp (e ▸ h)
    show upd W.F p o a = none
    rw [upd_ne hne]; exact s.out a h
/-- an object that is there, told by nobody, stands still from now on -/
theorem Ext.still {G : Gc} {W : Wd} {H : Hp} {S : List Cell} (s : SR G W H S) {p : Addr} {o : HO} {H0 : Hp} {W0 : Wd} (x : Ext W0 H0 W H) (h0 : H0 p = none) (hp : H p = some o) (hn : p ∉ W.ι) (hf : W.F p = none) :
    Ext W0 H0 (W.frz p o) H ∧ SR G (W.frz p o) H S := by
  have le : W.le (W.frz p o) := ⟨fun _ _ h => h, fun a u h => by
    show upd W.F p o a = some u
    rw [upd_ne (ne_of_none h hf)]; exact h⟩
  refine ⟨⟨x.le.trans le, x.new, fun a u h => ?_, x.keep, x.dom⟩, ⟨fun a u h => ?_, s.nd, s.len, fun j c h => ?_, fun a h => ?_, s.ge.trans le⟩⟩
  · by_cases e : a = p
    · subst e; exact .inr h0
    · have h : upd W.F p o a = some u := h
      rw [upd_ne e] at h; exact x.Fn a u h
  · have h : upd W.F p o a = some u := h
    by_cases e : a = p
    · subst e; rw [upd_same] at h; cases h; exact hp
    · rw [upd_ne e] at h; exact s.sub a u h
  · obtain ⟨a, ha, q⟩ := s.cell j c h
    exact ⟨a, ha, q.mono le rfl⟩
  · have hne : a ≠ p := fun e => hn (e ▸ h)
    show upd W.F p o a = none
    rw [upd_ne hne]; exact s.out a h
/-- .. or is a cell from now on -/
def Wd.cel (W : Wd) (p : Addr) : Wd := ⟨W.ι ++ [p], W.F⟩
theorem Wd.le_cel (W : Wd) (p : Addr) : W.le (W.cel p) := ⟨fun j a h => by
    show (W.ι ++ [p])[j]? = some a
    rw [List.getElem?_append_left (List.getElem?_eq_some_iff.mp h).1]; exact h, fun _ _ h => h⟩
theorem Ext.cel {G : Gc} {W : Wd} {H : Hp} {S : List Cell} (s : SR G W H S) {p : Addr} {c : Cell} {H0 : Hp} {W0 : Wd} (x : Ext W0 H0 W H) (h0 : H0 p = none) (hp : CellAt G W H p c) (hn : p ∉ W.ι) (hf : W.F p = none) :
    Ext W0 H0 (W.cel p) H ∧ SR G (W.cel p) H (S ++ [c]) := by
  refine ⟨⟨x.le.trans (W.le_cel p), fun a h => ?_, x.Fn, x.keep, x.dom⟩, ⟨s.sub, ?_, ?_, fun j d h => ?_, fun a h => ?_, s.ge.trans (W.le_cel p)⟩⟩
  · have h : a ∈ W.ι ++ [p] := h
    rcases List.mem_append.1 h with h | h
    · exact x.new a h
    · rw [List.mem_singleton.mp h]; exact .inr h0
  · show (W.ι ++ [p]).Nodup
    rw [List.nodup_append]
    exact ⟨s.nd, by simp, fun a ha b hb e => hn (by rw [List.mem_singleton.mp hb] at e; exact e ▸ ha)⟩
  · show (W.ι ++ [p]).length = _
    rw [List.length_append, List.length_append, s.len]; rfl
  · by_cases hj : j < S.length
    · rw [List.getElem?_append_left hj] at h
      obtain ⟨a, ha, q⟩ := s.cell j d h
      exact ⟨a, (W.le_cel p).i j a ha, q.mono (W.le_cel p) rfl⟩
    · rw [List.getElem?_append_right (by omega)] at h
      have e : j - S.length = 0 := by
        have := (List.getElem?_eq_some_iff.mp h).1
        simp at this; omega
      rw [e] at h
      simp at h; subst h
      refine ⟨p, ?_, hp.mono (W.le_cel p) rfl⟩
      show (W.ι ++ [p])[j]? = some p
      rw [List.getElem?_append_right (by rw [s.len]; omega), s.len, e]; rfl
  · have h : a ∈ W.ι ++ [p] := h
    show W.F a = none
    rcases List.mem_append.1 h with h | h
    · exact s.out a h
    · rw [List.mem_singleton.mp h]; exact hf
/-- a cell is written -/
theorem SR.write {G : Gc} {W : Wd} {H : Hp} {S : List Cell} (s : SR G W H S) {j : Nat} {p : Addr} {o : HO} {c : Cell} (hj : W.ι[j]? = some p) (hp : CellAt G W (upd H p o) p c) : SR G W (upd H p o) (S.set j c) ∧ Ext W H W (upd H p o) := by
  have hm : p ∈ W.ι := List.mem_of_getElem? hj
  have hlt : j < S.length := by rw [← s.len]; exact (List.getElem?_eq_some_iff.mp hj).1
  refine ⟨⟨fun a u h => ?_, s.nd, by rw [List.length_set]; exact s.len, fun i d h => ?_, s.out, s.ge⟩, ⟨.refl W, fun a h => .inl h, fun a u h => .inl h, fun a u h n => ?_, fun a h => ?_⟩⟩
  · have hne : a ≠ p := fun e => by rw [e, s.out p hm] at h; cases h
    rw [upd_ne hne]; exact s.sub a u h
  · by_cases e : i = j
    · subst e
      rw [List.getElem?_set_self hlt] at h; cases h
      exact ⟨p, hj, hp⟩
    · rw [List.getElem?_set_ne (Ne.symm e)] at h
      obtain ⟨a, ha, q⟩ := s.cell i d h
      have hne : a ≠ p := fun z => e (nd_ix s.nd ha (z ▸ hj))
      exact ⟨a, ha, q.mono (.refl W) (upd_ne hne)⟩
  · have hne : a ≠ p := fun e => n (e ▸ hm)
    rw [upd_ne hne]; exact h
  · by_cases e : a = p
    · subst e; rw [upd_same] at h; cases h
    · rw [upd_ne e] at h; exact h

/-! ### slots -/
structure RepE (G : Gc) (W : Wd) (σ : L2.St) (ρ : List (Option Da)) : Prop where
  len : σ.length = ρ.length
  at' : ∀ (i : Nat) (d : Da), ρ[i]? = some (some d) → ∃ v, σ[i]? = some (some v) ∧ Rep G W d v
theorem RepE.mono {G : Gc} {W W' : Wd} {σ : L2.St} {ρ : List (Option Da)} (e : W.le W') (h : RepE G W σ ρ) : RepE G W' σ ρ := ⟨h.len, fun i d q => let ⟨v, a, b⟩ := h.at' i d q; ⟨v, a, b.mono e⟩⟩
theorem RepE.set {G : Gc} {W : Wd} {σ : L2.St} {ρ : List (Option Da)} (h : RepE G W σ ρ) {i : Nat} {d : Da} {v : V} (r : Rep G W d v) : RepE G W (σ.set i (some v)) (ρ.set i (some d)) := by
  refine ⟨by rw [List.length_set, List.length_set]; exact h.len, fun j e q => ?_⟩
  by_cases hj : j = i
  · subst hj
    have hlt : j < ρ.length := by
      have := (List.getElem?_eq_some_iff.mp q).1
      rwa [List.length_set] at this
    rw [List.getElem?_set_self hlt] at q; cases q
    exact ⟨v, by rw [List.getElem?_set_self (by rw [h.len]; exact hlt)], r⟩
  · rw [List.getElem?_set_ne (Ne.symm hj)] at q ⊢
    exact h.at' j e q
theorem RepE.none {G : Gc} {W : Wd} {σ : L2.St} {ρ : List (Option Da)} (h : RepE G W σ ρ) (i : Nat) : RepE G W (σ.set i Option.none) (ρ.set i Option.none) := by
  refine ⟨by rw [List.length_set, List.length_set]; exact h.len, fun j e q => ?_⟩
  by_cases hj : j = i
  · subst hj
    by_cases hlt : j < ρ.length
    · rw [List.getElem?_set_self hlt] at q; cases q
    · rw [List.getElem?_eq_none (by rw [List.length_set]; omega)] at q; cases q
  · rw [List.getElem?_set_ne (Ne.symm hj)] at q ⊢
    exact h.at' j e q
end NL

set_option Elab.async false
set_option linter.all false
set_option maxRecDepth 100000
set_option maxHeartbeats 2000000
namespace NL
open PySem PySem.Spec PyProof.Rows L2

abbrev En := List (Option Da)
abbrev Store := List Cell
/-- what an expression gives -/
inductive Res (α : Type) where
  | ok (a : α) (S : Store) | exc (c : Str) (d : Da) (S : Store) | bad
abbrev M (α : Type) := En → Store → Res α
def Res.bind {α β : Type} (r : Res α) (k : α → Store → Res β) : Res β := match r with
  | .ok a S => k a S
  | .exc c d S => .exc c d S
  | .bad => .bad
def ofO {α : Type} (o : Option α) (S : Store) : Res α := match o with
  | some a => .ok a S
  | none => .bad
/-- an exception of the class c, with its one field where it has one -/
def XRep (G : Gc) (W : Wd) (c : Str) (d : Da) (cls : Value) (dx : Option Addr) : Prop := cls = .ref (G.cls c) ∧ ∃ u, XDict G W dx c d u ∧ Rep G W d u
theorem XRep.mono {G : Gc} {W W' : Wd} {c : Str} {d : Da} {cls : Value} {dx : Option Addr} (e : W.le W') (h : XRep G W c d cls dx) : XRep G W' c d cls dx := by
  obtain ⟨h1, u, h2, h3⟩ := h
  exact ⟨h1, u, h2.mono e, h3.mono e⟩

/-- what is wanted behind: of the value (related by R), of an exception -/
def Aft {α β : Type} (R : Wd → α → β → Prop) (G : Gc) (Wx : WX) (σ : L2.St) (W : Wd) (H : Hp) (r : Res α) (Q : β → Hp → Prop) : Prop := match r with
  | .ok a S => ∀ b W' H', Ext W H W' H' → SR G W' H' S → R W' a b → Q b H'
  | .exc c d S => ∀ cls dx W' H', Ext W H W' H' → SR G W' H' S → XRep G W' c d cls dx → Wx cls dx σ H'
  | .bad => False
section
variable {α β γ δ : Type} {R : Wd → α → β → Prop} {R' : Wd → γ → δ → Prop} {G : Gc} {Wx : WX} {σ : L2.St} {W : Wd} {H : Hp} {S : Store}
theorem Aft.later {r : Res α} {Q : β → Hp → Prop} {W' : Wd} {H' : Hp} (h : Aft R G Wx σ W H r Q) (x : Ext W H W' H') : Aft R G Wx σ W' H' r Q := by
  cases r with
  | ok a S => exact fun b W2 H2 x2 => h b W2 H2 (x.trans x2)
  | exc c d S => exact fun cls dx W2 H2 x2 => h cls dx W2 H2 (x.trans x2)
  | bad => exact h
theorem Aft.bind {r : Res α} {k : α → Store → Res γ} {Q : δ → Hp → Prop} {Q' : β → Hp → Prop} (h : Aft R' G Wx σ W H (r.bind k) Q)
    (step : ∀ a S b W' H', Ext W H W' H' → SR G W' H' S → R W' a b → Aft R' G Wx σ W' H' (k a S) Q → Q' b H') : Aft R G Wx σ W H r Q' := by
  cases r with
  | ok a S => exact fun b W' H' x s q => step a S b W' H' x s q (h.later x)
  | exc c d S => exact h
  | bad => exact h
theorem Aft.mono {r : Res α} {Q Q' : β → Hp → Prop} (h : Aft R G Wx σ W H r Q) (k : ∀ b H', Q b H' → Q' b H') : Aft R G Wx σ W H r Q' := by
  cases r with
  | ok a S => exact fun b W' H' x s q => k b H' (h b W' H' x s q)
  | exc c d S => exact h
  | bad => exact h
/-- here and now -/
theorem Aft.here {a : α} {b : β} {Q : β → Hp → Prop} (h : Aft R G Wx σ W H (.ok a S) Q) (s : SR G W H S) (r : R W a b) : Q b H := h b W H (.refl W H) s r
end

abbrev RV (G : Gc) : Wd → Da → V → Prop := fun W d v => Rep G W d v
abbrev RVs (G : Gc) : Wd → List Da → List V → Prop := fun W d v => Reps G W d v
abbrev RB : Wd → Bool → Bool → Prop := fun _ a b => a = b
/-- the reading of f -/
def tR {α β : Type} (R : Wd → α → β → Prop) (G : Gc) (Wx : WX) (f : M α) : L2.St → Hp → (β → Hp → Prop) → Prop := fun σ H Q =>
  ∃ W S ρ, SR G W H S ∧ RepE G W σ ρ ∧ Aft R G Wx σ W H (f ρ S) Q
abbrev tM (G : Gc) (Wx : WX) (f : M Da) : TE := tR (RV G) G Wx f
abbrev tMs (G : Gc) (Wx : WX) (f : M (List Da)) : TA := tR (RVs G) G Wx f
abbrev tMb (G : Gc) (Wx : WX) (f : M Bool) : TT := tR RB G Wx f

/-! ### weakening -/
theorem _root_.L2.PE.imp {X : Cx} {e : Expr} {t t' : TE} (h : PE X e t) (k : ∀ σ H Q, t' σ H Q → t σ H Q) : PE X e t' := ⟨fun pins s σ H Q I q => h.run pins s σ H Q I (k σ H Q q)⟩
theorem _root_.L2.PT.imp {X : Cx} {e : Expr} {t t' : TT} (h : PT X e t) (k : ∀ σ H Q, t' σ H Q → t σ H Q) : PT X e t' := ⟨fun pins s σ H Q I q => h.run pins s σ H Q I (k σ H Q q)⟩
theorem _root_.L2.PW.imp {X : Cx} {e : Expr} {t t' : TT} (h : PW X e t) (k : ∀ σ H Q, t' σ H Q → t σ H Q) : PW X e t' := ⟨fun wh pins s σ H Q I q => h.run wh pins s σ H Q I (k σ H Q q)⟩
theorem _root_.L2.PA.imp {X : Cx} {es : List Expr} {t t' : TA} (h : PA X es t) (k : ∀ σ H Q, t' σ H Q → t σ H Q) : PA X es t' := ⟨fun pos pins s σ H Q I q => h.run pos pins s σ H Q I (k σ H Q q)⟩
theorem _root_.L2.PS.imp {X : Cx} {st : Stmt} {t t' : TS} (h : PS X st t) (k : ∀ D σ H, t' D σ H → t D σ H) : PS X st t' := ⟨fun pins s σ H D I q => h.run pins s σ H D I (k D σ H q)⟩
theorem _root_.L2.PSs.imp {X : Cx} {st : List Stmt} {t t' : TS} (h : PSs X st t) (k : ∀ D σ H, t' D σ H → t D σ H) : PSs X st t' := ⟨fun pins s σ H D I q => h.run pins s σ H D I (k D σ H q)⟩

/-! ### expressions -/
def varM (i : Nat) : M Da := fun ρ S => match ρ[i]? with
  | some (some d) => .ok d S
  | _ => .bad
def cM (d : Da) : M Da := fun _ S => .ok d S
def nilM : M (List Da) := fun _ S => .ok [] S
def consM (f : M Da) (g : M (List Da)) : M (List Da) := fun ρ S => (f ρ S).bind fun a S1 => (g ρ S1).bind fun l S2 => .ok (a :: l) S2
def opM (op : Da → Da → Store → Option Da) (f g : M Da) : M Da := fun ρ S => (f ρ S).bind fun a S1 => (g ρ S1).bind fun b S2 => ofO (op a b S2) S2
def unM (op : Da → Store → Option Da) (f : M Da) : M Da := fun ρ S => (f ρ S).bind fun a S1 => ofO (op a S1) S1
/-- the test of a value that is a truth -/
def tstM (f : M Da) : M Bool := fun ρ S => (f ρ S).bind fun a S1 => match a with
  | .bl b => .ok b S1
  | _ => .bad
def notT (f : M Bool) : M Bool := fun ρ S => (f ρ S).bind fun b S1 => .ok (!b) S1
def andT (f g : M Bool) : M Bool := fun ρ S => (f ρ S).bind fun b S1 => if b then g ρ S1 else .ok false S1
def orT (f g : M Bool) : M Bool := fun ρ S => (f ρ S).bind fun b S1 => if b then .ok true S1 else g ρ S1
def notM (f : M Da) : M Da := fun ρ S => (tstM f ρ S).bind fun b S1 => .ok (.bl (!b)) S1
def andM (f g : M Da) : M Da := fun ρ S => (tstM f ρ S).bind fun b S1 => if b then g ρ S1 else .ok (.bl false) S1
def orM (f g : M Da) : M Da := fun ρ S => (tstM f ρ S).bind fun b S1 => if b then .ok (.bl true) S1 else g ρ S1
def ifM (c : M Bool) (f g : M Da) : M Da := fun ρ S => (c ρ S).bind fun b S1 => if b then f ρ S1 else g ρ S1
def big : Nat := 16777216
theorem big_eq : big = sizeLine := by rw [sizeLine_eq]; rfl
def dispM (k : List Da → Da) (f : M (List Da)) : M Da := fun ρ S => (f ρ S).bind fun l S1 => if l.length ≤ big then .ok (k l) S1 else .bad
abbrev tupM := dispM Da.tup
abbrev lstM := dispM Da.lst

section
variable {X : Cx} {G : Gc} {Wx : WX} {a b c e : Expr} {es rest : List Expr} {f g h : M Da} {pos : Pos}

theorem pd_var (i : Nat) {x : Str} (hN : X.N[i]? = some x := by rfl) (hv : Vis X.env.scope x := by first | exact Or.inl rfl | exact Or.inr (Or.inl rfl) | exact Or.inr (Or.inr rfl)) (hd : (x == ("__debug__" : Str)) = false := by decide)
    (hcd : (x == ("__classdict__" : Str)) = false := by decide) : PE X (.Name x pos) (tM G Wx (varM i)) :=
  (pe_var hN hv hd hcd).imp fun σ H Q ⟨W, S, ρ, s, r, q⟩ => by
    unfold varM at q
    cases z : ρ[i]? with
    | none => rw [z] at q; exact q.elim
    | some o =>
      rw [z] at q
      cases o with
      | none => exact q.elim
      | some d =>
        obtain ⟨v, hv, rv⟩ := r.at' i d z
        exact ⟨v, hv, q.here s rv⟩
theorem tR_c {α β : Type} {R : Wd → α → β → Prop} {d : α} {v : β} {σ : L2.St} {H : Hp} {Q : β → Hp → Prop} (h : tR R G Wx (fun _ S => .ok d S) σ H Q) (r : ∀ W, R W d v) : Q v H := by
  obtain ⟨W, S, ρ, s, _, q⟩ := h
  exact q.here s (r W)
theorem pd_int {i : Int} {j} : PE X (.Constant (.int i) j pos) (tM G Wx (cM (.int i))) := pe_int.imp fun σ H Q h => tR_c (R := RV G) h fun W => by simp [Rep]
theorem pd_bl {i : Bool} {j} : PE X (.Constant (.bool i) j pos) (tM G Wx (cM (.bl i))) := pe_bl.imp fun σ H Q h => tR_c (R := RV G) h fun W => by simp [Rep]
theorem pd_non {j} : PE X (.Constant .none j pos) (tM G Wx (cM .non)) := pe_non.imp fun σ H Q h => tR_c (R := RV G) h fun W => by simp [Rep]
theorem pd_str {i : Str} {j} : PE X (.Constant (.str i) j pos) (tM G Wx (cM (.str i))) := pe_str.imp fun σ H Q h => tR_c (R := RV G) h fun W => by simp [Rep]

/-! arguments, displays -/
theorem pda_nil : PA X [] (tMs G Wx nilM) := pa_nil.imp fun σ H Q h => tR_c (R := RVs G) h fun W => .nil
theorem pda_cons {t : M (List Da)} (he : PE X e (tM G Wx f)) (hr : PA X es (tMs G Wx t)) (hs : starEach (e :: es) X.env = (false, eval e X.env) :: starEach es X.env := by rfl) : PA X (e :: es) (tMs G Wx (consM f t)) :=
  (pa_cons he hr hs).imp fun σ H Q ⟨W, S, ρ, s, r, q⟩ => ⟨W, S, ρ, s, r, q.bind fun a S1 v W1 H1 x1 s1 q1 k1 => ⟨W1, S1, ρ, s1, r.mono x1.le, k1.bind fun l S2 vs W2 H2 x2 s2 q2 k2 => k2.here s2 (.cons (q1.mono x2.le) q2)⟩⟩
theorem RV.tup {W : Wd} {p : Addr} {l : List Da} {vs : List V} (h : W.F p = some (.tup vs)) (r : Reps G W l vs) : Rep G W (.tup l) (.ref p) := by
  rw [Rep]; exact ⟨p, vs, rfl, .of h, r⟩
theorem RV.lst {W : Wd} {p : Addr} {l : List Da} {vs : List V} (h : W.F p = some (.lst vs)) (r : Reps G W l vs) : Rep G W (.lst l) (.ref p) := by
  rw [Rep]; exact ⟨p, vs, rfl, h, r⟩
theorem frz_same {W : Wd} {p : Addr} {o : HO} : (W.frz p o).F p = some o := upd_same
/-- a new tuple comes -/
theorem Aft.newT {σ : L2.St} {W : Wd} {H : Hp} {S : Store} {l : List Da} {vs : List V} {Q : VK} (h : Aft (RV G) G Wx σ W H (.ok (.tup l) S) Q) (s : SR G W H S) (r : Reps G W l vs) {p : Addr} (hp : H p = none) : Q (.ref p) (upd H p (.tup vs)) := by
  obtain ⟨x, s'⟩ := Ext.frz s (o := .tup vs) hp
  exact h _ _ _ x s' (RV.tup frz_same (r.mono x.le))
theorem Aft.newL {σ : L2.St} {W : Wd} {H : Hp} {S : Store} {l : List Da} {vs : List V} {Q : VK} (h : Aft (RV G) G Wx σ W H (.ok (.lst l) S) Q) (s : SR G W H S) (r : Reps G W l vs) {p : Addr} (hp : H p = none) : Q (.ref p) (upd H p (.lst vs)) := by
  obtain ⟨x, s'⟩ := Ext.frz s (o := .lst vs) hp
  exact h _ _ _ x s' (RV.lst frz_same (r.mono x.le))
theorem pd_tup {t : M (List Da)} {x1} (ha : PA X es (tMs G Wx t)) : PE X (.Tuple es x1 pos) (tM G Wx (tupM t)) :=
  (pe_tup ha).imp fun σ H Q ⟨W, S, ρ, s, r, q⟩ => ⟨W, S, ρ, s, r, q.bind fun l S1 vs W1 H1 x1 s1 q1 k1 => by
    by_cases hl : l.length ≤ big
    · rw [if_pos hl] at k1
      exact ⟨by rw [← q1.length, ← big_eq]; exact hl, fun p hp => k1.newT s1 q1 hp⟩
    · rw [if_neg hl] at k1; exact k1.elim⟩
theorem pd_lst {t : M (List Da)} (ha : PA X es (tMs G Wx t)) : PE X (.List es pos) (tM G Wx (lstM t)) :=
  (pe_lst ha).imp fun σ H Q ⟨W, S, ρ, s, r, q⟩ => ⟨W, S, ρ, s, r, q.bind fun l S1 vs W1 H1 x1 s1 q1 k1 => by
    by_cases hl : l.length ≤ big
    · rw [if_pos hl] at k1
      exact ⟨by rw [← q1.length, ← big_eq]; exact hl, fun p hp => k1.newL s1 q1 hp⟩
    · rw [if_neg hl] at k1; exact k1.elim⟩

/-! operators by values -/
/-- what an operator leaves: no exception, the store as it was, at most new things that stand still -/
def AftO (G : Gc) (W : Wd) (H : Hp) (S : Store) (r : Option Da) (Q : VK) : Prop := match r with
  | some d => ∀ v W' H', Ext W H W' H' → SR G W' H' S → Rep G W' d v → Q v H'
  | none => False
def rd2 (G : Gc) (op : Da → Da → Store → Option Da) : R2 := fun x y H Q => ∃ W S a b, SR G W H S ∧ Rep G W a x ∧ Rep G W b y ∧ AftO G W H S (op a b S) Q
def rd1 (G : Gc) (op : Da → Store → Option Da) : V → Hp → VK → Prop := fun x H Q => ∃ W S a, SR G W H S ∧ Rep G W a x ∧ AftO G W H S (op a S) Q
def rdn (G : Gc) (op : List Da → Store → Option Da) : List V → Hp → VK → Prop := fun xs H Q => ∃ W S l, SR G W H S ∧ Reps G W l xs ∧ AftO G W H S (op l S) Q
theorem Aft.toO {σ : L2.St} {W : Wd} {H : Hp} {S : Store} {o : Option Da} {Q : VK} (h : Aft (RV G) G Wx σ W H (ofO o S) Q) : AftO G W H S o Q := by
  cases o with
  | none => exact h
  | some d => exact h
theorem AftO.here {W : Wd} {H : Hp} {S : Store} {d : Da} {v : V} {Q : VK} (h : AftO G W H S (some d) Q) (s : SR G W H S) (r : Rep G W d v) : Q v H := h v W H (.refl W H) s r
theorem AftO.newT {W : Wd} {H : Hp} {S : Store} {l : List Da} {vs : List V} {Q : VK} (h : AftO G W H S (some (.tup l)) Q) (s : SR G W H S) (r : Reps G W l vs) {p : Addr} (hp : H p = none) : Q (.ref p) (upd H p (.tup vs)) := by
  obtain ⟨x, s'⟩ := Ext.frz s (o := .tup vs) hp
  exact h _ _ _ x s' (RV.tup frz_same (r.mono x.le))
theorem AftO.newL {W : Wd} {H : Hp} {S : Store} {l : List Da} {vs : List V} {Q : VK} (h : AftO G W H S (some (.lst l)) Q) (s : SR G W H S) (r : Reps G W l vs) {p : Addr} (hp : H p = none) : Q (.ref p) (upd H p (.lst vs)) := by
  obtain ⟨x, s'⟩ := Ext.frz s (o := .lst vs) hp
  exact h _ _ _ x s' (RV.lst frz_same (r.mono x.le))
theorem tOp_imp {op : Da → Da → Store → Option Da} {σ : L2.St} {H : Hp} {Q : VK} (k : tM G Wx (opM op f g) σ H Q) : tOp (rd2 G op) (tM G Wx f) (tM G Wx g) σ H Q := by
  obtain ⟨W, S, ρ, s, r, q⟩ := k
  exact ⟨W, S, ρ, s, r, q.bind fun a S1 x W1 H1 x1 s1 q1 k1 => ⟨W1, S1, ρ, s1, r.mono x1.le, k1.bind fun b S2 y W2 H2 x2 s2 q2 k2 => ⟨W2, S2, a, b, s2, q1.mono x2.le, q2, k2.toO⟩⟩⟩
theorem pd_op {o : Operator} {op : Da → Da → Store → Option Da} (ho : OpR X (binaryOp o) (rd2 G op)) (ha : PE X a (tM G Wx f)) (hb : PE X b (tM G Wx g)) : PE X (.BinOp a o b pos) (tM G Wx (opM op f g)) :=
  (pe_op ho ha hb).imp fun _ _ _ k => tOp_imp k
theorem pd_cmp {o : CmpOp} {op : Da → Da → Store → Option Da} (ho : OpR X (compareOp o) (rd2 G op)) (ha : PE X a (tM G Wx f)) (hb : PE X b (tM G Wx g)) (hm : behindInMarks o b = false := by first | exact nobehind _ (by decide) (by decide) | rfl) : PE X (.Compare a [o] [b] pos) (tM G Wx (opM op f g)) :=
  (pe_cmpR ho ha hb hm).imp fun _ _ _ k => tOp_imp k
theorem pd_ix {op : Da → Da → Store → Option Da} (ho : IxR X (rd2 G op)) (ha : PE X a (tM G Wx f)) (hb : PE X b (tM G Wx g)) (hs : PlainIx b := by exact fun _ _ => rfl) : PE X (.Subscript a b pos) (tM G Wx (opM op f g)) :=
  (pe_ix ho ha hb hs).imp fun _ _ _ k => tOp_imp k
theorem pd_un {o : UnaryOp} {op : Da → Store → Option Da} (ho : UnR X (unaryOp o) (rd1 G op)) (ha : PE X a (tM G Wx f)) : PE X (.UnaryOp o a pos) (tM G Wx (unM op f)) :=
  (pe_un ho ha).imp fun _ _ _ ⟨W, S, ρ, s, r, q⟩ => ⟨W, S, ρ, s, r, q.bind fun a S1 x W1 H1 x1 s1 q1 k1 => ⟨W1, S1, a, s1, q1, k1.toO⟩⟩
/-- a built-in's call -/
def callM (op : List Da → Store → Option Da) (t : M (List Da)) : M Da := fun ρ S => (t ρ S).bind fun l S1 => ofO (op l S1) S1
theorem tCB_imp {op : List Da → Store → Option Da} {t : M (List Da)} {σ : L2.St} {H : Hp} {Q : VK} (k : tM G Wx (callM op t) σ H Q) : tCB (rdn G op) (tMs G Wx t) σ H Q := by
  obtain ⟨W, S, ρ, s, r, q⟩ := k
  exact ⟨W, S, ρ, s, r, q.bind fun l S1 vs W1 H1 x1 s1 q1 k1 => ⟨W1, S1, l, s1, q1, k1.toO⟩⟩
theorem pd_callB {x : Str} {id : String} {p : Pos} {t : M (List Da)} {op : List Da → Store → Option Da} (hc : CallR X (.builtin id) (rdn G op)) (hm : X.mg x = none) (ha : PA X (e :: es) (tMs G Wx t)) (hg : Gl X x := by rfl) (hv : bootBuiltins x = some (.builtin id) := by decide +kernel) (hn : x ≠ "__name__" := by decide) (hdb : (x == ("__debug__" : Str)) = false := by decide)
    (he : starEach (e :: es) X.env = (false, eval e X.env) :: starEach es X.env := by rfl) (hpl : (backTo pos (starEach es X.env)).any (·.1) = false := by rfl) : PE X (.Call (.Name x p) (e :: es) [] pos) (tM G Wx (callM op t)) :=
  (pe_callB hc hg hm hv ha hn hdb he hpl).imp fun _ _ _ k => tCB_imp k
theorem pd_callT {x : Str} {T : String} {p : Pos} {t : M (List Da)} {op : List Da → Store → Option Da} (hc : CallR X (.type T) (rdn G op)) (hm : X.mg x = none) (ha : PA X (e :: es) (tMs G Wx t)) (hg : Gl X x := by rfl) (hv : bootBuiltins x = some (.type T) := by decide +kernel) (hn : x ≠ "__name__" := by decide) (hdb : (x == ("__debug__" : Str)) = false := by decide)
    (he : starEach (e :: es) X.env = (false, eval e X.env) :: starEach es X.env := by rfl) (hpl : (backTo pos (starEach es X.env)).any (·.1) = false := by rfl) : PE X (.Call (.Name x p) (e :: es) [] pos) (tM G Wx (callM op t)) :=
  (pe_callTy hc hg hm hv ha hn hdb he hpl).imp fun _ _ _ k => tCB_imp k

/-! tests -/
theorem Rep.bl_inv {W : Wd} {v : V} {b : Bool} (h : Rep G W (.bl b) v) : v = .bl b := by simpa [Rep] using h
theorem tst_imp {σ : L2.St} {H : Hp} {Q : Bool → Hp → Prop} (k : tMb G Wx (tstM f) σ H Q) : tM G Wx f σ H fun v H1 => ∃ d, v = .bl d ∧ Q d H1 := by
  obtain ⟨W, S, ρ, s, r, q⟩ := k
  refine ⟨W, S, ρ, s, r, q.bind fun a S1 v W1 H1 x1 s1 q1 k1 => ?_⟩
  cases a with
  | bl b => exact ⟨b, q1.bl_inv, k1.here s1 rfl⟩
  | _ => exact k1.elim
theorem ptd_val {c : Expr} (hc : PE X c (tM G Wx f)) (he : ∀ whole, isTrue c X.env whole = (do let v ← whole; standAt c.pos; holding [v] (truthy v)) := by intro _; rfl) : PT X c (tMb G Wx (tstM f)) :=
  (pt_val hc he).imp fun _ _ _ k => tst_imp k
theorem ptd_cmp {o : CmpOp} {op : Da → Da → Store → Option Da} (ho : OpR X (compareOp o) (rd2 G op)) (ha : PE X a (tM G Wx f)) (hb : PE X b (tM G Wx g)) (hm : behindInMarks o b = false := by first | exact nobehind _ (by decide) (by decide) | rfl) : PT X (.Compare a [o] [b] pos) (tMb G Wx (tstM (opM op f g))) :=
  (pt_cmpR ho ha hb hm).imp fun _ _ _ k => tOp_imp (tst_imp k)
end
end NL

set_option Elab.async false
set_option linter.all false
set_option maxRecDepth 100000
set_option maxHeartbeats 2000000
namespace NL
open PySem PySem.Spec PyProof.Rows L2

section
variable {X : Cx} {G : Gc} {Wx : WX} {a b c e : Expr} {es rest : List Expr} {f g h : M Da} {ct dt : M Bool} {pos : Pos}
/-! ### more tests -/
theorem ptd_not (ha : PT X a (tMb G Wx ct)) : PT X (.UnaryOp .Not a pos) (tMb G Wx (notT ct)) :=
  (pt_not ha).imp fun σ H Q ⟨W, S, ρ, s, r, q⟩ => ⟨W, S, ρ, s, r, q.bind fun x S1 y W1 H1 x1 s1 q1 k1 => by subst q1; exact k1.here s1 rfl⟩
theorem pwd_and1 (ha : PT X a (tMb G Wx ct)) : PW X (.BoolOp .And [a] pos) (tMb G Wx ct) := pw_and1 ha
theorem pwd_or1 (ha : PT X a (tMb G Wx ct)) : PW X (.BoolOp .Or [a] pos) (tMb G Wx ct) := pw_or1 ha
theorem pwd_and (ha : PT X a (tMb G Wx ct)) (hb : PW X (.BoolOp .And (b :: rest) pos) (tMb G Wx dt)) : PW X (.BoolOp .And (a :: b :: rest) pos) (tMb G Wx (andT ct dt)) :=
  (pw_and ha hb).imp fun σ H Q ⟨W, S, ρ, s, r, q⟩ => ⟨W, S, ρ, s, r, q.bind fun x S1 y W1 H1 x1 s1 q1 k1 => by
    subst q1
    cases x with
    | true => exact ⟨W1, S1, ρ, s1, r.mono x1.le, k1⟩
    | false => exact k1.here s1 rfl⟩
theorem pwd_or (ha : PT X a (tMb G Wx ct)) (hb : PW X (.BoolOp .Or (b :: rest) pos) (tMb G Wx dt)) : PW X (.BoolOp .Or (a :: b :: rest) pos) (tMb G Wx (orT ct dt)) :=
  (pw_or ha hb).imp fun σ H Q ⟨W, S, ρ, s, r, q⟩ => ⟨W, S, ρ, s, r, q.bind fun x S1 y W1 H1 x1 s1 q1 k1 => by
    subst q1
    cases x with
    | true => exact k1.here s1 rfl
    | false => exact ⟨W1, S1, ρ, s1, r.mono x1.le, k1⟩⟩
theorem ptd_of (h : PW X a (tMb G Wx ct)) : PT X a (tMb G Wx ct) := h.pt
/-! .. as values -/
theorem Res.bind_assoc {α β γ : Type} (r : Res α) (k : α → Store → Res β) (l : β → Store → Res γ) : (r.bind k).bind l = r.bind fun a S => (k a S).bind l := by cases r <;> rfl
theorem bind_tst {α : Type} {k : Bool → Store → Res α} {ρ : En} {S : Store} : (tstM f ρ S).bind k = (f ρ S).bind fun a S1 => match a with
    | .bl b => k b S1
    | _ => .bad := by
  unfold tstM
  rw [Res.bind_assoc]
  congr 1
  funext a S1
  cases a <;> rfl
theorem pd_not (ha : PE X a (tM G Wx f)) : PE X (.UnaryOp .Not a pos) (tM G Wx (notM f)) :=
  (pe_not ha).imp fun σ H Q ⟨W, S, ρ, s, r, q⟩ => ⟨W, S, ρ, s, r, by
    unfold notM at q
    rw [bind_tst] at q
    refine q.bind fun x S1 y W1 H1 x1 s1 q1 k1 => ?_
    cases x with
    | bl b => exact ⟨b, q1.bl_inv, k1.here s1 (by simp [Rep])⟩
    | _ => exact k1.elim⟩
theorem pd_one {op} (ha : PE X a (tM G Wx f)) : PE X (.BoolOp op [a] pos) (tM G Wx f) := pe_one ha
theorem pd_and (ha : PE X a (tM G Wx f)) (hb : PE X (.BoolOp .And (b :: rest) pos) (tM G Wx g)) : PE X (.BoolOp .And (a :: b :: rest) pos) (tM G Wx (andM f g)) :=
  (pe_and ha hb).imp fun σ H Q ⟨W, S, ρ, s, r, q⟩ => ⟨W, S, ρ, s, r, by
    unfold andM at q
    rw [bind_tst] at q
    refine q.bind fun x S1 y W1 H1 x1 s1 q1 k1 => ?_
    cases x with
    | bl b =>
      refine ⟨b, q1.bl_inv, ?_⟩
      cases b with
      | true => exact ⟨W1, S1, ρ, s1, r.mono x1.le, k1⟩
      | false => exact k1.here s1 (by simp [Rep])
    | _ => exact k1.elim⟩
theorem pd_or (ha : PE X a (tM G Wx f)) (hb : PE X (.BoolOp .Or (b :: rest) pos) (tM G Wx g)) : PE X (.BoolOp .Or (a :: b :: rest) pos) (tM G Wx (orM f g)) :=
  (pe_or ha hb).imp fun σ H Q ⟨W, S, ρ, s, r, q⟩ => ⟨W, S, ρ, s, r, by
    unfold orM at q
    rw [bind_tst] at q
    refine q.bind fun x S1 y W1 H1 x1 s1 q1 k1 => ?_
    cases x with
    | bl b =>
      refine ⟨b, q1.bl_inv, ?_⟩
      cases b with
      | true => exact k1.here s1 (by simp [Rep])
      | false => exact ⟨W1, S1, ρ, s1, r.mono x1.le, k1⟩
    | _ => exact k1.elim⟩
theorem pd_if {c : Expr} (hc : PT X c (tMb G Wx ct)) (ha : PE X a (tM G Wx f)) (hb : PE X b (tM G Wx g)) : PE X (.IfExp c a b pos) (tM G Wx (ifM ct f g)) :=
  (pe_ifExp hc ha hb).imp fun σ H Q ⟨W, S, ρ, s, r, q⟩ => ⟨W, S, ρ, s, r, q.bind fun x S1 y W1 H1 x1 s1 q1 k1 => by
    subst q1
    cases x with
    | true => exact ⟨W1, S1, ρ, s1, r.mono x1.le, k1⟩
    | false => exact ⟨W1, S1, ρ, s1, r.mono x1.le, k1⟩⟩
/-! a < b < c -/
def chainM (op op' : Da → Da → Store → Option Da) (f g h : M Da) : M Da := fun ρ S => (f ρ S).bind fun a S1 => (g ρ S1).bind fun b S2 => (ofO (op a b S2) S2).bind fun d S3 => match d with
  | .bl true => (h ρ S3).bind fun c S4 => ofO (op' b c S4) S4
  | .bl false => .ok (.bl false) S3
  | _ => .bad
theorem Aft.bindO {γ δ : Type} {R' : Wd → γ → δ → Prop} {σ : L2.St} {W : Wd} {H : Hp} {S : Store} {o : Option Da} {k : Da → Store → Res γ} {Q : δ → Hp → Prop} {Q' : VK} (q : Aft R' G Wx σ W H ((ofO o S).bind k) Q)
    (step : ∀ a v W' H', Ext W H W' H' → SR G W' H' S → Rep G W' a v → Aft R' G Wx σ W' H' (k a S) Q → Q' v H') : AftO G W H S o Q' := by
  cases o with
  | none => exact q
  | some d => exact fun v W' H' x s r => step d v W' H' x s r (q.later x)
theorem tChain_imp {op op' : Da → Da → Store → Option Da} {σ : L2.St} {H : Hp} {Q : VK} (k : tM G Wx (chainM op op' f g h) σ H Q) : tChain (rd2 G op) (rd2 G op') (tM G Wx f) (tM G Wx g) (tM G Wx h) σ H Q := by
  obtain ⟨W, S, ρ, s, r, q⟩ := k
  refine ⟨W, S, ρ, s, r, q.bind fun a S1 x W1 H1 x1 s1 q1 k1 => ⟨W1, S1, ρ, s1, r.mono x1.le, k1.bind fun b S2 y W2 H2 x2 s2 q2 k2 => ⟨W2, S2, a, b, s2, q1.mono x2.le, q2, ?_⟩⟩⟩
  refine k2.bindO fun d v W3 H3 x3 s3 q3 k3 => ?_
  cases d with
  | bl d =>
    refine ⟨d, q3.bl_inv, ?_⟩
    cases d with
    | true => exact ⟨W3, S2, ρ, s3, r.mono (x1.le.trans (x2.le.trans x3.le)), k3.bind fun c S4 z W4 H4 x4 s4 q4 k4 => ⟨W4, S4, b, c, s4, q2.mono (x3.le.trans x4.le), q4, k4.toO⟩⟩
    | false => exact k3.here s3 (by simp [Rep])
  | _ => exact k3.elim
theorem pd_chain {o o' : CmpOp} {op op' : Da → Da → Store → Option Da} (ho : OpR X (compareOp o) (rd2 G op)) (ho' : OpR X (compareOp o') (rd2 G op')) (ha : PE X a (tM G Wx f)) (hb : PE X b (tM G Wx g)) (hc : PE X c (tM G Wx h))
    (hm : lastMarks [o, o'] [b, c] = false := by with_unfolding_all rfl) : PE X (.Compare a [o, o'] [b, c] pos) (tM G Wx (chainM op op' f g h)) := (pe_chain ho ho' ha hb hc hm).imp fun _ _ _ k => tChain_imp k
theorem ptd_chain {o o' : CmpOp} {op op' : Da → Da → Store → Option Da} (ho : OpR X (compareOp o) (rd2 G op)) (ho' : OpR X (compareOp o') (rd2 G op')) (ha : PE X a (tM G Wx f)) (hb : PE X b (tM G Wx g)) (hc : PE X c (tM G Wx h))
    (hm : lastMarks [o, o'] [b, c] = false := by with_unfolding_all rfl) : PT X (.Compare a [o, o'] [b, c] pos) (tMb G Wx (tstM (chainM op op' f g h))) := (pt_chain ho ho' ha hb hc hm).imp fun _ _ _ k => tChain_imp (tst_imp k)
end

/-! ### statements -/
inductive RS where
  | nx (ρ : En) (S : Store) | rt (d : Da) (S : Store) | bk (ρ : En) (S : Store) | ct (ρ : En) (S : Store) | exc (c : Str) (d : Da) (ρ : En) (S : Store) | bad
abbrev MS := En → Store → RS
def AftS (G : Gc) (Wx : WX) (W : Wd) (H : Hp) (r : RS) (D : Ends) : Prop := match r with
  | .nx ρ S => ∀ σ W' H', Ext W H W' H' → SR G W' H' S → RepE G W' σ ρ → D.nx σ H'
  | .rt d S => ∀ v W' H', Ext W H W' H' → SR G W' H' S → Rep G W' d v → D.rt v H'
  | .bk ρ S => ∀ σ W' H', Ext W H W' H' → SR G W' H' S → RepE G W' σ ρ → D.bk σ H'
  | .ct ρ S => ∀ σ W' H', Ext W H W' H' → SR G W' H' S → RepE G W' σ ρ → D.ct σ H'
  | .exc c d ρ S => ∀ cls dx σ W' H', Ext W H W' H' → SR G W' H' S → RepE G W' σ ρ → XRep G W' c d cls dx → Wx cls dx σ H'
  | .bad => False
def tS (G : Gc) (Wx : WX) (g : MS) : TS := fun D σ H => ∃ W S ρ, SR G W H S ∧ RepE G W σ ρ ∧ AftS G Wx W H (g ρ S) D
theorem AftS.later {G : Gc} {Wx : WX} {W W' : Wd} {H H' : Hp} {r : RS} {D : Ends} (h : AftS G Wx W H r D) (x : Ext W H W' H') : AftS G Wx W' H' r D := by
  cases r with
  | nx ρ S => exact fun σ W2 H2 x2 => h σ W2 H2 (x.trans x2)
  | rt d S => exact fun σ W2 H2 x2 => h σ W2 H2 (x.trans x2)
  | bk ρ S => exact fun σ W2 H2 x2 => h σ W2 H2 (x.trans x2)
  | ct ρ S => exact fun σ W2 H2 x2 => h σ W2 H2 (x.trans x2)
  | exc c d ρ S => exact fun cls dx σ W2 H2 x2 => h cls dx σ W2 H2 (x.trans x2)
  | bad => exact h
/-- an expression, then a statement's end -/
def Res.thenS {α : Type} (ρ : En) (r : Res α) (k : α → Store → RS) : RS := match r with
  | .ok a S => k a S
  | .exc c d S => .exc c d ρ S
  | .bad => .bad
theorem AftS.bind {α β : Type} {R : Wd → α → β → Prop} {G : Gc} {Wx : WX} {σ : L2.St} {ρ : En} {W : Wd} {H : Hp} {r : Res α} {k : α → Store → RS} {D : Ends} {Q' : β → Hp → Prop} (h : AftS G Wx W H (r.thenS ρ k) D) (re : RepE G W σ ρ)
    (step : ∀ a S b W' H', Ext W H W' H' → SR G W' H' S → R W' a b → AftS G Wx W' H' (k a S) D → Q' b H') : Aft R G Wx σ W H r Q' := by
  cases r with
  | ok a S => exact fun b W' H' x s q => step a S b W' H' x s q (h.later x)
  | exc c d S => exact fun cls dx W' H' x s q => h cls dx σ W' H' x s (re.mono x.le) q
  | bad => exact h
def RS.seq (r : RS) (k : En → Store → RS) : RS := match r with
  | .nx ρ S => k ρ S
  | .rt d S => .rt d S
  | .bk ρ S => .bk ρ S
  | .ct ρ S => .ct ρ S
  | .exc c d ρ S => .exc c d ρ S
  | .bad => .bad
theorem AftS.seq {G : Gc} {Wx : WX} {W : Wd} {H : Hp} {r : RS} {k : MS} {D : Ends} (h : AftS G Wx W H (r.seq k) D) : AftS G Wx W H r { D with nx := tS G Wx k D } := by
  cases r with
  | nx ρ S => exact fun σ W' H' x s e => ⟨W', S, ρ, s, e, h.later x⟩
  | rt d S => exact h
  | bk ρ S => exact h
  | ct ρ S => exact h
  | exc c d ρ S => exact h
  | bad => exact h
theorem AftS.nx {G : Gc} {Wx : WX} {σ : L2.St} {W : Wd} {H : Hp} {ρ : En} {S : Store} {D : Ends} (h : AftS G Wx W H (.nx ρ S) D) (s : SR G W H S) (e : RepE G W σ ρ) : D.nx σ H := h σ W H (.refl W H) s e
theorem AftS.rt {G : Gc} {Wx : WX} {W : Wd} {H : Hp} {d : Da} {v : V} {S : Store} {D : Ends} (h : AftS G Wx W H (.rt d S) D) (s : SR G W H S) (r : Rep G W d v) : D.rt v H := h v W H (.refl W H) s r

def skipS : MS := fun ρ S => .nx ρ S
def seqS (f g : MS) : MS := fun ρ S => (f ρ S).seq g
def setS (i : Nat) (f : M Da) : MS := fun ρ S => (f ρ S).thenS ρ fun d S1 => .nx (ρ.set i (some d)) S1
def retS (f : M Da) : MS := fun ρ S => (f ρ S).thenS ρ fun d S1 => .rt d S1
def retN : MS := fun _ S => .rt .non S
def dropS (f : M Da) : MS := fun ρ S => (f ρ S).thenS ρ fun _ S1 => .nx ρ S1
def ifS (c : M Bool) (f g : MS) : MS := fun ρ S => (c ρ S).thenS ρ fun b S1 => if b then f ρ S1 else g ρ S1
def neverS : MS := fun _ _ => .bad
def breakS : MS := fun ρ S => .bk ρ S
def contS : MS := fun ρ S => .ct ρ S
section
variable {X : Cx} {G : Gc} {Wx : WX} {st : Stmt} {rest : List Stmt} {e : Expr} {f g : MS} {m : M Da} {ct : M Bool} {pos : Pos}
theorem psd_nil : PSs X [] (tS G Wx skipS) := pss_nil.imp fun D σ H ⟨W, S, ρ, s, r, q⟩ => q.nx s r
theorem psd_cons (h1 : PS X st (tS G Wx f)) (h2 : PSs X rest (tS G Wx g)) : PSs X (st :: rest) (tS G Wx (seqS f g)) :=
  (pss_cons h1 h2).imp fun D σ H ⟨W, S, ρ, s, r, q⟩ => ⟨W, S, ρ, s, r, q.seq⟩
theorem psd_one (h1 : PS X st (tS G Wx f)) : PSs X [st] (tS G Wx f) := pss_one h1
theorem psd_pass : PS X (.Pass pos) (tS G Wx skipS) := ps_pass.imp fun D σ H ⟨W, S, ρ, s, r, q⟩ => q.nx s r
theorem psd_break : PS X (.Break pos) (tS G Wx breakS) := ps_break.imp fun D σ H ⟨W, S, ρ, s, r, q⟩ => q σ W H (.refl W H) s r
theorem psd_continue : PS X (.Continue pos) (tS G Wx contS) := ps_continue.imp fun D σ H ⟨W, S, ρ, s, r, q⟩ => q σ W H (.refl W H) s r
theorem psd_never : PS X st (tS G Wx neverS) := ps_never.imp fun D σ H ⟨W, S, ρ, s, r, q⟩ => q
theorem pssd_never {sts : List Stmt} : PSs X sts (tS G Wx neverS) := pss_never.imp fun D σ H ⟨W, S, ρ, s, r, q⟩ => q
theorem psd_ret (he : PE X e (tM G Wx m)) : PS X (.Return (some e) pos) (tS G Wx (retS m)) :=
  (ps_ret he).imp fun D σ H ⟨W, S, ρ, s, r, q⟩ => ⟨W, S, ρ, s, r, q.bind r fun d S1 v W1 H1 x1 s1 q1 k1 => k1.rt s1 q1⟩
theorem psd_retN : PS X (.Return none pos) (tS G Wx retN) := ps_retN.imp fun D σ H ⟨W, S, ρ, s, r, q⟩ => q.rt s (by simp [Rep])
theorem psd_expr (he : PE X e (tM G Wx m)) (hs : swapsWith e none pos.line X.env = pure false := by rfl) : PS X (.Expr e pos) (tS G Wx (dropS m)) :=
  (ps_expr he hs).imp fun D σ H ⟨W, S, ρ, s, r, q⟩ => ⟨W, S, ρ, s, r, q.bind r fun d S1 v W1 H1 x1 s1 q1 k1 => k1.nx s1 (r.mono x1.le)⟩
theorem psd_if {c : Expr} {a b : List Stmt} (hc : PT X c (tMb G Wx ct)) (ha : PSs X a (tS G Wx f)) (hb : PSs X b (tS G Wx g)) : PS X (.If c a b pos) (tS G Wx (ifS ct f g)) :=
  (ps_if hc ha hb).imp fun D σ H ⟨W, S, ρ, s, r, q⟩ => ⟨W, S, ρ, s, r, q.bind r fun d S1 v W1 H1 x1 s1 q1 k1 => by
    subst q1
    cases d with
    | true => exact ⟨W1, S1, ρ, s1, r.mono x1.le, k1⟩
    | false => exact ⟨W1, S1, ρ, s1, r.mono x1.le, k1⟩⟩
theorem psd_set {i : Nat} {x : Str} {pos' : Pos} (hN : X.N.Nodup) (he : PE X e (tM G Wx m)) (hi : X.N[i]? = some x := by rfl) (hx : Loc X.env.scope x := by first | exact Or.inl rfl | exact Or.inr rfl) (hs : swapsWith e (some (.Name x pos')) pos.line X.env = pure false := by rfl)
    (hf : X.fn x = true ∨ X.env.scope.names.lookup x = some .local := by first | exact .inl rfl | exact .inr rfl | assumption) : PS X (.Assign [.Name x pos'] e pos) (tS G Wx (setS i m)) :=
  (ps_set hN hi hx he hs hf).imp fun D σ H ⟨W, S, ρ, s, r, q⟩ => ⟨W, S, ρ, s, r, q.bind r fun d S1 v W1 H1 x1 s1 q1 k1 => k1.nx s1 ((r.mono x1.le).set q1)⟩
end

/-! ### targets -/
inductive Tg where
  | one (i : Nat) | many (is : List Nat)
def setAll : En → List (Nat × Da) → En
  | ρ, [] => ρ
  | ρ, (i, d) :: r => setAll (ρ.set i (some d)) r
def bindT : Tg → Da → En → Option En
  | .one i, d, ρ => some (ρ.set i (some d))
  | .many is, .tup l, ρ => if l.length = is.length then some (setAll ρ (is.zip l)) else none
  | .many _, _, _ => none
def Tg.slots : Tg → List Nat
  | .one i => [i]
  | .many is => is
/-- as σ but at the slots is -/
def But (is : List Nat) (σ σ' : L2.St) : Prop := σ'.length = σ.length ∧ ∀ k, k ∉ is → σ'[k]? = σ[k]?
def gT (G : Gc) (t : Tg) : TG := fun v σ H Q => ∃ W S ρ d ρ', SR G W H S ∧ RepE G W σ ρ ∧ Rep G W d v ∧ bindT t d ρ = some ρ' ∧ ∀ σ', RepE G W σ' ρ' → But t.slots σ σ' → Q σ' H
def gTs (G : Gc) (is : List Nat) : TGs := fun vs σ H Q => ∃ W S ρ ds, SR G W H S ∧ RepE G W σ ρ ∧ Reps G W ds vs ∧ ds.length = is.length ∧ ∀ σ', RepE G W σ' (setAll ρ (is.zip ds)) → But is σ σ' → Q σ' H
theorem _root_.L2.PG.imp {X : Cx} {e : Expr} {t t' : TG} (h : PG X e t) (k : ∀ v σ H Q, t' v σ H Q → t v σ H Q) : PG X e t' := ⟨fun pins s σ H v u Q I r q => h.run pins s σ H v u Q I r (k v σ H Q q)⟩
theorem _root_.L2.PGs.imp {X : Cx} {e : List Expr} {t t' : TGs} (h : PGs X e t) (k : ∀ v σ H Q, t' v σ H Q → t v σ H Q) : PGs X e t' := ⟨fun pins s σ H v u Q I r q => h.run pins s σ H v u Q I r (k v σ H Q q)⟩
theorem But.set {i : Nat} {σ : L2.St} {v : Option V} : But [i] σ (σ.set i v) := ⟨List.length_set .., fun k hk => List.getElem?_set_ne fun e => hk (by simp [e])⟩
section
variable {X : Cx} {G : Gc} {e : Expr} {es : List Expr} {pos : Pos}
theorem pgd_name {i : Nat} {x : Str} (hN : X.N.Nodup) (hi : X.N[i]? = some x := by rfl) (hx : Loc X.env.scope x := by first | exact Or.inl rfl | exact Or.inr rfl) (hf : X.fn x = true ∨ X.env.scope.names.lookup x = some .local := by first | exact .inl rfl | exact .inr rfl | assumption) : PG X (.Name x pos) (gT G (.one i)) :=
  (pg_name hN hi hx hf).imp fun v σ H Q ⟨W, S, ρ, d, ρ', s, r, q, e, k⟩ => by
    cases e
    exact k _ (r.set q) But.set
theorem pgd_nil : PGs X [] (gTs G []) := pgs_nil.imp fun vs σ H Q ⟨W, S, ρ, ds, s, r, q, e, k⟩ => by
  have e0 : ds = [] := List.length_eq_zero_iff.mp e
  subst e0
  exact ⟨q.inv_nil, k σ r ⟨rfl, fun _ _ => rfl⟩⟩
theorem pgd_cons {i : Nat} {is : List Nat} (h1 : PG X e (gT G (.one i))) (h2 : PGs X es (gTs G is)) (hs : (assignEach (e :: es) X.env).map (·.2) = assign e X.env :: (assignEach es X.env).map (·.2) := by rfl) : PGs X (e :: es) (gTs G (i :: is)) :=
  (pgs_cons h1 h2 hs).imp fun vs σ H Q ⟨W, S, ρ, ds, s, r, q, e, k⟩ => by
    cases ds with
    | nil => simp at e
    | cons d ds =>
      obtain ⟨v, vr, rfl, q1, q2⟩ := q.inv_cons
      refine ⟨v, vr, rfl, W, S, ρ, d, _, s, r, q1, rfl, fun σ' r' b' => ⟨W, S, _, ds, s, r', q2, by simpa using e, fun σ2 r2 b2 => k σ2 r2 ⟨b2.1.trans b'.1, fun j hj => ?_⟩⟩⟩
      rw [b2.2 j fun m => hj (List.mem_cons_of_mem _ m), b'.2 j fun m => hj ?_]
      have m : j ∈ [i] := m
      rw [List.mem_singleton.mp m]; exact List.mem_cons_self
theorem Rep.tup_inv {W : Wd} {l : List Da} {v : V} (h : Rep G W (.tup l) v) : ∃ a vs, v = .ref a ∧ SqT G.K W.F a vs ∧ Reps G W l vs := by rw [Rep] at h; exact h
theorem Rep.lst_inv {W : Wd} {l : List Da} {v : V} (h : Rep G W (.lst l) v) : ∃ a vs, v = .ref a ∧ SqL G.K W.F a vs ∧ Reps G W l vs := by
  rw [Rep] at h
  obtain ⟨a, vs, h1, h2, h3⟩ := h
  exact ⟨a, vs, h1, .of h2, h3⟩
theorem Rep.lst_at {W : Wd} {l : List Da} {v : V} (h : Rep G W (.lst l) v) : ∃ a vs, v = .ref a ∧ W.F a = some (.lst vs) ∧ Reps G W l vs := by rw [Rep] at h; exact h
theorem Rep.src_inv {W : Wd} {l : List Da} {v : V} (h : Rep G W (.src l) v) : ∃ a vs, v = .ref a ∧ SqL G.K W.F a vs ∧ Reps G W l vs := by rw [Rep] at h; exact h
theorem SR.sqT {W : Wd} {H : Hp} {S : Store} {K : PySem.W.Frag} {a : Addr} {vs : List V} (s : SR G W H S) (h : SqT K W.F a vs) : SqT K H a vs := SqT.mono h s.sub
theorem SR.sqL {W : Wd} {H : Hp} {S : Store} {K : PySem.W.Frag} {a : Addr} {vs : List V} (s : SR G W H S) (h : SqL K W.F a vs) : SqL K H a vs := SqL.mono h s.sub
theorem pgd_tup {k n : Nat} {is : List Nat} (hK : G.K = X.K) (hc : X.calm = true) (h : PGs X es (gTs G is)) (hi : is.length = n := by rfl) (hn : (assignEach es X.env).length = n := by rfl) (hst : (assignEach es X.env).findIdx? (·.1) = none := by rfl) :
    PG X (.Tuple es k pos) (gT G (.many is)) :=
  (pg_tup hc h hn hst).imp fun v σ H Q ⟨W, S, ρ, d, ρ', s, r, q, e, kk⟩ => by
    cases d with
    | tup l =>
      have e : (if l.length = is.length then some (setAll ρ (is.zip l)) else none) = some ρ' := e
      by_cases hl : l.length = is.length
      · rw [if_pos hl] at e; cases e
        obtain ⟨a, vs, rfl, ht, rs⟩ := q.tup_inv
        exact ⟨a, vs, rfl, by rw [← hK]; exact s.sqT ht, by rw [← rs.length, hl, hi], W, S, ρ, l, s, r, rs, hl, kk⟩
      · rw [if_neg hl] at e; cases e
    | _ => cases e
end
end NL

set_option Elab.async false
set_option linter.all false
set_option maxRecDepth 100000
set_option maxHeartbeats 2000000
namespace NL
open PySem PySem.Spec PyProof.Rows L2

/-! ### what is walked: it gives the data ds, one by one, in any world behind W0 -/
structure ItD (G : Gc) (W0 : Wd) (J : It) (ds : List Da) : Prop where
  go : ∀ i W H S, i < ds.length → W0.le W → SR G W H S → J.go i H
  stop : ∀ W H S, W0.le W → SR G W H S → J.stop ds.length H
  yld : ∀ i W H S x H', i < ds.length → W0.le W → SR G W H S → J.yld i H x H' → ∃ d W', ds[i]? = some d ∧ Ext W H W' H' ∧ SR G W' H' S ∧ Rep G W' d x
def AftI (G : Gc) (Wx : WX) (σ : L2.St) (W : Wd) (H : Hp) (r : Res (List Da)) (R : It → Hp → Prop) : Prop := match r with
  | .ok ds S' => ∀ J W' H', Ext W H W' H' → SR G W' H' S' → ItD G W' J ds → R J H'
  | .exc c d S' => ∀ cls dx W' H', Ext W H W' H' → SR G W' H' S' → XRep G W' c d cls dx → Wx cls dx σ H'
  | .bad => False
theorem AftI.later {G : Gc} {Wx : WX} {σ : L2.St} {W W' : Wd} {H H' : Hp} {r : Res (List Da)} {R : It → Hp → Prop} (h : AftI G Wx σ W H r R) (x : Ext W H W' H') : AftI G Wx σ W' H' r R := by
  cases r with
  | ok a S => exact fun b W2 H2 x2 => h b W2 H2 (x.trans x2)
  | exc c d S => exact fun cls dx W2 H2 x2 => h cls dx W2 H2 (x.trans x2)
  | bad => exact h
theorem AftI.bind {α β : Type} {R' : Wd → α → β → Prop} {G : Gc} {Wx : WX} {σ : L2.St} {W : Wd} {H : Hp} {r : Res α} {k : α → Store → Res (List Da)} {R : It → Hp → Prop} {Q' : β → Hp → Prop} (h : AftI G Wx σ W H (r.bind k) R)
    (step : ∀ a S b W' H', Ext W H W' H' → SR G W' H' S → R' W' a b → AftI G Wx σ W' H' (k a S) R → Q' b H') : Aft R' G Wx σ W H r Q' := by
  cases r with
  | ok a S => exact fun b W' H' x s q => step a S b W' H' x s q (h.later x)
  | exc c d S => exact h
  | bad => exact h
theorem AftI.here {G : Gc} {Wx : WX} {σ : L2.St} {W : Wd} {H : Hp} {S : Store} {ds : List Da} {J : It} {R : It → Hp → Prop} (h : AftI G Wx σ W H (.ok ds S) R) (s : SR G W H S) (i : ItD G W J ds) : R J H := h J W H (.refl W H) s i
def tI (G : Gc) (Wx : WX) (f : M (List Da)) : TI := fun σ H R => ∃ W S ρ, SR G W H S ∧ RepE G W σ ρ ∧ AftI G Wx σ W H (f ρ S) R
theorem _root_.L2.PI.imp {X : Cx} {tg e : Expr} {t t' : TI} (h : PI X tg e t) (k : ∀ σ H Q, t' σ H Q → t σ H Q) : PI X tg e t' := ⟨fun pins s σ H R I q => h.run pins s σ H R I (k σ H R q)⟩

/-- the items of a list (of either sort), of a tuple -/
def asL (S : Store) : Da → Option (List Da)
  | .lst l => some l
  | .src l => some l
  | .cell j => match S[j]? with
    | some (.lst l) => some l
    | _ => none
  | _ => none
def itL (f : M Da) : M (List Da) := fun ρ S => (f ρ S).bind fun d S1 => match d with
  | .lst l => .ok l S1
  | .src l => .ok l S1
  | _ => .bad
def itT (f : M Da) : M (List Da) := fun ρ S => (f ρ S).bind fun d S1 => match d with
  | .tup l => .ok l S1
  | _ => .bad
section
variable {X : Cx} {G : Gc} {Wx : WX} {e tg : Expr} {m : M Da}
theorem itd_seq {W0 : Wd} {J : It} {n : Nat} {Gd : Hp → Prop} {l : List Da} {vs : List V} (w : Walk J vs.length Gd (YAt vs)) (rs : Reps G W0 l vs) (hg : ∀ W H S, W0.le W → SR G W H S → Gd H) : ItD G W0 J l := by
  have e := rs.length
  refine ⟨fun i W H S hi le s => w.goes i H (by omega) (hg W H S le s), fun W H S le s => by rw [e]; exact w.stops H (hg W H S le s), fun i W H S x H' hi le s y => ?_⟩
  obtain ⟨rfl, hx⟩ := w.yields i H x H' (by omega) (hg W H S le s) y
  obtain ⟨d, hd, r⟩ := rs.getV hx
  exact ⟨d, W, hd, .refl W _, s, r.mono le⟩
theorem pid_list (he : PE X e (tM G Wx m)) (hK : G.K = X.K := by rfl) : PI X tg e (tI G Wx (itL m)) :=
  (pi_list he).imp fun σ H R ⟨W, S, ρ, s, r, q⟩ => ⟨W, S, ρ, s, r, q.bind fun d S1 v W1 H1 x1 s1 q1 k1 => by
    cases d with
    | lst l =>
      obtain ⟨a, vs, rfl, hl, rs⟩ := q1.lst_inv
      rw [hK] at hl
      exact ⟨a, rfl, ⟨vs, s1.sqL hl⟩, k1.here s1 (itd_seq (n := 0) (walk_list (a := a) (xs := vs)) rs fun W2 H2 S2 le s2 => s2.sqL (SqL.mono hl le.F))⟩
    | src l =>
      obtain ⟨a, vs, rfl, hl, rs⟩ := q1.src_inv
      rw [hK] at hl
      exact ⟨a, rfl, ⟨vs, s1.sqL hl⟩, k1.here s1 (itd_seq (n := 0) (walk_list (a := a) (xs := vs)) rs fun W2 H2 S2 le s2 => s2.sqL (SqL.mono hl le.F))⟩
    | _ => exact k1.elim⟩
theorem pid_tup (he : PE X e (tM G Wx m)) (hK : G.K = X.K := by rfl) : PI X tg e (tI G Wx (itT m)) :=
  (pi_tup he).imp fun σ H R ⟨W, S, ρ, s, r, q⟩ => ⟨W, S, ρ, s, r, q.bind fun d S1 v W1 H1 x1 s1 q1 k1 => by
    cases d with
    | tup l =>
      obtain ⟨a, vs, rfl, hl, rs⟩ := q1.tup_inv
      rw [hK] at hl
      exact ⟨a, rfl, ⟨vs, s1.sqT hl⟩, k1.here s1 (itd_seq (n := 0) (walk_tup (a := a) (xs := vs)) rs fun W2 H2 S2 le s2 => s2.sqT (SqT.mono hl le.F))⟩
    | _ => exact k1.elim⟩
/-- range(n), range(a, b) -/
def rngL (lo : Int) (n : Nat) : List Da := (List.range n).map fun i => Da.int (lo + (i : Nat))
def rngB : Int := 4611686018427387904
theorem rngB_eq : rngB = 2 ^ 62 := by decide
def itR1 (f : M Da) : M (List Da) := fun ρ S => (f ρ S).bind fun d S1 => match d with
  | .int j => if -rngB ≤ j ∧ j < rngB then .ok (rngL 0 j.toNat) S1 else .bad
  | _ => .bad
def itR2 (f g : M Da) : M (List Da) := fun ρ S => (f ρ S).bind fun d S1 => (g ρ S1).bind fun d' S2 => match d, d' with
  | .int i, .int j => if -rngB ≤ i ∧ i < rngB ∧ -rngB ≤ j ∧ j < rngB then .ok (rngL i (j - i).toNat) S2 else .bad
  | _, _ => .bad
theorem Rep.int_inv {W : Wd} {v : V} {i : Int} (h : Rep G W (.int i) v) : v = .int i := by simpa [Rep] using h
theorem Rep.str_inv {W : Wd} {v : V} {i : Str} (h : Rep G W (.str i) v) : v = .str i := by simpa [Rep] using h
theorem Rep.non_inv {W : Wd} {v : V} (h : Rep G W .non v) : v = .non := by simpa [Rep] using h
theorem Rep.cell_inv {W : Wd} {v : V} {j : Nat} (h : Rep G W (.cell j) v) : ∃ a, W.ι[j]? = some a ∧ v = .ref a := by rw [Rep] at h; exact h
theorem itd_range {W0 : Wd} {lo : Int} {n : Nat} : ItD G W0 (Itr lo n) (rngL lo n) := by
  have e : (rngL lo n).length = n := by unfold rngL; rw [List.length_map, List.length_range]
  refine ⟨fun i W H S hi le s => walk_range.goes i H (by omega) trivial, fun W H S le s => by rw [e]; exact walk_range.stops H trivial, fun i W H S x H' hi le s y => ?_⟩
  obtain ⟨rfl, rfl⟩ := walk_range.yields i H x H' (by omega) trivial y
  refine ⟨.int (lo + (i : Nat)), W, ?_, .refl W _, s, by simp [Rep]⟩
  unfold rngL
  rw [List.getElem?_map, List.getElem?_range (by omega)]
  rfl
theorem pid_range1 {a : Expr} {f : M Da} {p pos : Pos} (hm : X.mg "range" = none) (ha : PE X a (tM G Wx f)) (hg : Gl X "range" := by rfl) (hs : starEach [a] X.env = [(false, eval a X.env)] := by rfl) : PI X tg (.Call (.Name "range" p) [a] [] pos) (tI G Wx (itR1 f)) :=
  (pi_range1 hg hm (pa_cons ha pa_nil hs) hs).imp fun σ H R ⟨W, S, ρ, s, r, q⟩ => ⟨W, S, ρ, s, r, q.bind fun d S1 v W1 H1 x1 s1 q1 k1 => by
    cases d with
    | int j =>
      rw [q1.int_inv]
      by_cases h : -rngB ≤ j ∧ j < rngB
      · have k1 : AftI G Wx σ W1 H1 (if -rngB ≤ j ∧ j < rngB then .ok (rngL 0 j.toNat) S1 else .bad) R := k1
        rw [if_pos h] at k1
        rw [rngB_eq] at h
        exact ⟨j, rfl, h.1, h.2, k1.here s1 itd_range⟩
      · have k1 : AftI G Wx σ W1 H1 (if -rngB ≤ j ∧ j < rngB then .ok (rngL 0 j.toNat) S1 else .bad) R := k1
        rw [if_neg h] at k1; exact k1.elim
    | _ => exact k1.elim⟩
theorem pid_range2 {a b : Expr} {f g : M Da} {p pos : Pos} (hm : X.mg "range" = none) (ha : PE X a (tM G Wx f)) (hb : PE X b (tM G Wx g)) (hg : Gl X "range" := by rfl) (hs : starEach [a, b] X.env = [(false, eval a X.env), (false, eval b X.env)] := by rfl) (hs2 : starEach [b] X.env = [(false, eval b X.env)] := by rfl) :
    PI X tg (.Call (.Name "range" p) [a, b] [] pos) (tI G Wx (itR2 f g)) :=
  (pi_range2 hg hm (pa_cons ha (pa_cons hb pa_nil hs2) (by rw [hs, hs2])) hs hs2).imp fun σ H R ⟨W, S, ρ, s, r, q⟩ => ⟨W, S, ρ, s, r, q.bind fun d S1 v W1 H1 x1 s1 q1 k1 => ⟨W1, S1, ρ, s1, r.mono x1.le, k1.bind fun d' S2 v' W2 H2 x2 s2 q2 k2 => by
    cases d with
    | int i =>
      cases d' with
      | int j =>
        rw [q1.int_inv, q2.int_inv]
        have k2 : AftI G Wx σ W2 H2 (if -rngB ≤ i ∧ i < rngB ∧ -rngB ≤ j ∧ j < rngB then .ok (rngL i (j - i).toNat) S2 else .bad) R := k2
        by_cases h : -rngB ≤ i ∧ i < rngB ∧ -rngB ≤ j ∧ j < rngB
        · rw [if_pos h] at k2
          rw [rngB_eq] at h
          exact ⟨i, j, rfl, h, k2.here s2 itd_range⟩
        · rw [if_neg h] at k2; exact k2.elim
      | _ => exact k2.elim
    | _ => exact k2.elim⟩⟩
/-- a text, sign by sign -/
def itS (f : M Da) : M (List Da) := fun ρ S => (f ρ S).bind fun d S1 => match d with
  | .str x => .ok (x.cps.toList.map fun c => Da.str ⟨#[c]⟩) S1
  | _ => .bad
theorem itd_str {W0 : Wd} {z : Str} : ItD G W0 (Its z) (z.cps.toList.map fun c => Da.str ⟨#[c]⟩) := by
  have e : (z.cps.toList.map fun c => Da.str ⟨#[c]⟩).length = z.cps.size := by rw [List.length_map, Array.length_toList]
  refine ⟨fun i W H S hi le s => walk_str.goes i H (by omega) trivial, fun W H S le s => by rw [e]; exact walk_str.stops H trivial, fun i W H S x H' hi le s y => ?_⟩
  obtain ⟨rfl, c, hc, rfl⟩ := walk_str.yields i H x H' (by omega) trivial y
  exact ⟨.str ⟨#[c]⟩, W, by rw [List.getElem?_map, Array.getElem?_toList, hc]; rfl, .refl W _, s, by simp [Rep]⟩
theorem pid_str (he : PE X e (tM G Wx m)) : PI X tg e (tI G Wx (itS m)) :=
  (pi_str he).imp fun σ H R ⟨W, S, ρ, s, r, q⟩ => ⟨W, S, ρ, s, r, q.bind fun d S1 v W1 H1 x1 s1 q1 k1 => by
    cases d with
    | str z => exact ⟨z, q1.str_inv, k1.here s1 itd_str⟩
    | _ => exact k1.elim⟩
end

/-! ### for -/
def forL (tg : Tg) (body : MS) : List Da → MS
  | [], ρ, S => .nx ρ S
  | d :: ds, ρ, S => match bindT tg d ρ with
    | none => .bad
    | some ρ1 => match body ρ1 S with
      | .nx ρ2 S2 => forL tg body ds ρ2 S2
      | .ct ρ2 S2 => forL tg body ds ρ2 S2
      | .bk ρ2 S2 => .nx ρ2 S2
      | .rt d S2 => .rt d S2
      | .exc c d ρ2 S2 => .exc c d ρ2 S2
      | .bad => .bad
def forS (tg : Tg) (src : M (List Da)) (body : MS) : MS := fun ρ S => (src ρ S).thenS ρ fun ds S1 => forL tg body ds ρ S1
theorem AftI.ofS {G : Gc} {Wx : WX} {σ : L2.St} {ρ : En} {W : Wd} {H : Hp} {r : Res (List Da)} {k : List Da → Store → RS} {D : Ends} {R : It → Hp → Prop} (h : AftS G Wx W H (r.thenS ρ k) D) (re : RepE G W σ ρ)
    (step : ∀ ds S J W' H', Ext W H W' H' → SR G W' H' S → ItD G W' J ds → AftS G Wx W' H' (k ds S) D → R J H') : AftI G Wx σ W H r R := by
  cases r with
  | ok a S => exact fun b W' H' x s q => step a S b W' H' x s q (h.later x)
  | exc c d S => exact fun cls dx W' H' x s q => h cls dx σ W' H' x s (re.mono x.le) q
  | bad => exact h
section
variable {X : Cx} {G : Gc} {Wx : WX} {st : Stmt} {rest : List Stmt} {e tg iter : Expr} {g : MS} {m : M Da} {src : M (List Da)} {ct : M Bool} {pos : Pos} {t : Tg}
theorem psd_for {body : List Stmt} (hp : PassesOwn (model X.prog X.w) X.A X.env X.xe) (hc : X.calm = true) (hi : PI X tg iter (tI G Wx src)) (hg : PG X tg (gT G t)) (hb : PSs X body (tS G Wx g))
    (hs : ∀ x, foldedSetIterable iter X.env x = pure x := by intro _; rfl) : PS X (.For tg iter body [] pos) (tS G Wx (forS t src g)) :=
  (ps_for hp hc hi hg hb hs).imp fun D σ H ⟨W, S, ρ, s, r, q⟩ => ⟨W, S, ρ, s, r, AftI.ofS q r fun ds S1 J W1 H1 x1 s1 it k1 => by
    refine ⟨fun i n σ H => n = ds.length - i ∧ i ≤ ds.length ∧ ∃ W S ρ, W1.le W ∧ SR G W H S ∧ RepE G W σ ρ ∧ AftS G Wx W H (forL t g (ds.drop i) ρ S) D,
      ⟨ds.length, by simp, Nat.zero_le _, W1, S1, ρ, .refl W1, s1, r.mono x1.le, k1⟩, ?_⟩
    rintro i n σ2 H2 ⟨rfl, hi, W2, S2, ρ2, le, s2, r2, k2⟩
    by_cases hlt : i < ds.length
    · refine .inr ⟨it.go i W2 H2 S2 hlt le s2, fun σ H => ∃ W S ρ, W1.le W ∧ SR G W H S ∧ RepE G W σ ρ ∧ AftS G Wx W H (forL t g (ds.drop (i + 1)) ρ S) D, fun σ' H' h => ⟨ds.length - (i + 1), by omega, rfl, hlt, h⟩, fun x H' y => ?_⟩
      obtain ⟨d, W3, hd, x3, s3, q3⟩ := it.yld i W2 H2 S2 x H' hlt le s2 y
      have ed : ds.drop i = d :: ds.drop (i + 1) := by
        obtain ⟨h1, h2⟩ := List.getElem?_eq_some_iff.mp hd
        rw [← h2]; exact List.drop_eq_getElem_cons h1
      rw [ed] at k2
      unfold forL at k2
      cases hb : bindT t d ρ2 with
      | none => rw [hb] at k2; exact k2.elim
      | some ρ3 =>
        rw [hb] at k2
        refine ⟨W3, S2, ρ2, d, ρ3, s3, r2.mono x3.le, q3, hb, fun σ' r3 _ => ⟨W3, S2, ρ3, s3, r3, ?_⟩⟩
        have k3 := k2.later x3
        have le3 := le.trans x3.le
        revert k3
        show AftS G Wx W3 H' (match g ρ3 S2 with
          | .nx ρ2 S2 => forL t g (ds.drop (i + 1)) ρ2 S2
          | .ct ρ2 S2 => forL t g (ds.drop (i + 1)) ρ2 S2
          | .bk ρ2 S2 => .nx ρ2 S2
          | .rt d S2 => .rt d S2
          | .exc c d ρ2 S2 => .exc c d ρ2 S2
          | .bad => .bad) D → _
        cases g ρ3 S2 with
        | nx ρ4 S4 => exact fun k3 σ4 W4 H4 x4 s4 r4 => ⟨W4, S4, ρ4, le3.trans x4.le, s4, r4, k3.later x4⟩
        | ct ρ4 S4 => exact fun k3 σ4 W4 H4 x4 s4 r4 => ⟨W4, S4, ρ4, le3.trans x4.le, s4, r4, k3.later x4⟩
        | bk ρ4 S4 => exact fun k3 σ4 W4 H4 x4 s4 r4 => k3 σ4 W4 H4 x4 s4 r4
        | rt d S4 => exact fun k3 => k3
        | exc c d ρ4 S4 => exact fun k3 => k3
        | bad => exact fun k3 => k3
    · have e : i = ds.length := by omega
      subst e
      rw [List.drop_length] at k2
      exact .inl ⟨it.stop W2 H2 S2 le s2, k2.nx s2 r2⟩⟩
/-! ### while -/
def whileL (c : M Bool) (b : MS) : Nat → MS
  | 0, _, _ => .bad
  | n + 1, ρ, S => (c ρ S).thenS ρ fun t S1 => if t then (match b ρ S1 with
      | .nx ρ2 S2 => whileL c b n ρ2 S2
      | .ct ρ2 S2 => whileL c b n ρ2 S2
      | .bk ρ2 S2 => .nx ρ2 S2
      | .rt d S2 => .rt d S2
      | .exc c d ρ2 S2 => .exc c d ρ2 S2
      | .bad => .bad) else .nx ρ S1
theorem psd_while {c : Expr} {body : List Stmt} (n : Nat) (hp : PassesOwn (model X.prog X.w) X.A X.env X.xe) (hc : PT X c (tMb G Wx ct)) (hb : PSs X body (tS G Wx g)) : PS X (.While c body [] pos) (tS G Wx (whileL ct g n)) :=
  (ps_while hp hc hb).imp fun D σ H ⟨W, S, ρ, s, r, q⟩ => by
    refine ⟨fun n σ H => ∃ W S ρ, SR G W H S ∧ RepE G W σ ρ ∧ AftS G Wx W H (whileL ct g n ρ S) D, ⟨n, W, S, ρ, s, r, q⟩, ?_⟩
    rintro m σ2 H2 ⟨W2, S2, ρ2, s2, r2, k2⟩
    cases m with
    | zero => exact k2.elim
    | succ m =>
      refine ⟨W2, S2, ρ2, s2, r2, AftS.bind k2 r2 fun t S3 b W3 H3 x3 s3 q3 k3 => ?_⟩
      subst q3
      cases t with
      | false => exact k3.nx s3 (r2.mono x3.le)
      | true =>
        refine ⟨fun σ H => ∃ W S ρ, SR G W H S ∧ RepE G W σ ρ ∧ AftS G Wx W H (whileL ct g m ρ S) D, fun σ' H' h => ⟨m, Nat.lt_succ_self m, h⟩, W3, S3, ρ2, s3, r2.mono x3.le, ?_⟩
        revert k3
        show AftS G Wx W3 H3 (match g ρ2 S3 with
          | .nx ρ2 S2 => whileL ct g m ρ2 S2
          | .ct ρ2 S2 => whileL ct g m ρ2 S2
          | .bk ρ2 S2 => .nx ρ2 S2
          | .rt d S2 => .rt d S2
          | .exc c d ρ2 S2 => .exc c d ρ2 S2
          | .bad => .bad) D → _
        cases g ρ2 S3 with
        | nx ρ4 S4 => exact fun k3 σ4 W4 H4 x4 s4 r4 => ⟨W4, S4, ρ4, s4, r4, k3.later x4⟩
        | ct ρ4 S4 => exact fun k3 σ4 W4 H4 x4 s4 r4 => ⟨W4, S4, ρ4, s4, r4, k3.later x4⟩
        | bk ρ4 S4 => exact fun k3 σ4 W4 H4 x4 s4 r4 => k3 σ4 W4 H4 x4 s4 r4
        | rt d S4 => exact fun k3 => k3
        | exc c d ρ4 S4 => exact fun k3 => k3
        | bad => exact fun k3 => k3
end
end NL

set_option Elab.async false
set_option linter.all false
set_option maxRecDepth 100000
set_option maxHeartbeats 2000000
namespace NL
open PySem PySem.Spec PyProof.Rows L2

/-! ### a list just made, known to nobody -/
def AftF (G : Gc) (Wx : WX) (σ : L2.St) (W : Wd) (H : Hp) (r : Res (List Da)) (Q : VK) : Prop := match r with
  | .ok l S => ∀ p vs W' H', Ext W H W' H' → SR G W' H' S → Reps G W' l vs → H' p = some (.lst vs) → p ∉ W'.ι → W'.F p = none → H p = none → Q (.ref p) H'
  | .exc c d S => ∀ cls dx W' H', Ext W H W' H' → SR G W' H' S → XRep G W' c d cls dx → Wx cls dx σ H'
  | .bad => False
def tF (G : Gc) (Wx : WX) (f : M (List Da)) : TE := fun σ H Q => ∃ W S ρ, SR G W H S ∧ RepE G W σ ρ ∧ AftF G Wx σ W H (f ρ S) Q
def frzM (f : M (List Da)) : M Da := fun ρ S => (f ρ S).bind fun l S1 => .ok (.lst l) S1
def celM (f : M (List Da)) : M Da := fun ρ S => (f ρ S).bind fun l S1 => .ok (.cell S1.length) (S1 ++ [.lst l])
theorem AftF.later {G : Gc} {Wx : WX} {σ : L2.St} {W W' : Wd} {H H' : Hp} {r : Res (List Da)} {Q : VK} (h : AftF G Wx σ W H r Q) (x : Ext W H W' H') : AftF G Wx σ W' H' r Q := by
  cases r with
  | ok a S => exact fun p vs W2 H2 x2 s r h1 h2 h3 h4 => h p vs W2 H2 (x.trans x2) s r h1 h2 h3 (x.dom _ h4)
  | exc c d S => exact fun cls dx W2 H2 x2 => h cls dx W2 H2 (x.trans x2)
  | bad => exact h
theorem Wd.le_frz (W : Wd) {p : Addr} {o : HO} (h : W.F p = none) : W.le (W.frz p o) := ⟨fun _ _ h => h, fun a u q => by
    show upd W.F p o a = some u
    rw [upd_ne (ne_of_none q h)]; exact q⟩
theorem frz_imp {G : Gc} {Wx : WX} {f : M (List Da)} {σ : L2.St} {H : Hp} {Q : VK} (k : tM G Wx (frzM f) σ H Q) : tF G Wx f σ H Q := by
  obtain ⟨W, S, ρ, s, r, q⟩ := k
  refine ⟨W, S, ρ, s, r, ?_⟩
  unfold frzM at q
  revert q
  cases f ρ S with
  | ok l S1 =>
    intro q p vs W1 H1 x1 s1 r1 h1 h2 h3 h4
    obtain ⟨x2, s2⟩ := Ext.still s1 x1 h4 h1 h2 h3
    exact q (.ref p) _ H1 x2 s2 (RV.lst frz_same (r1.mono (W1.le_frz h3)))
  | exc c d S1 => exact fun q => q
  | bad => exact fun q => q
theorem cel_imp {G : Gc} {Wx : WX} {f : M (List Da)} {σ : L2.St} {H : Hp} {Q : VK} (k : tM G Wx (celM f) σ H Q) : tF G Wx f σ H Q := by
  obtain ⟨W, S, ρ, s, r, q⟩ := k
  refine ⟨W, S, ρ, s, r, ?_⟩
  unfold celM at q
  revert q
  cases f ρ S with
  | ok l S1 =>
    intro q p vs W1 H1 x1 s1 r1 h1 h2 h3 h4
    obtain ⟨x2, s2⟩ := Ext.cel (c := .lst l) s1 x1 h4 ⟨vs, h1, r1⟩ h2 h3
    refine q (.ref p) _ H1 x2 s2 ?_
    show Rep G (W1.cel p) (.cell S1.length) (.ref p)
    rw [Rep]
    refine ⟨p, ?_, rfl⟩
    show (W1.ι ++ [p])[S1.length]? = some p
    rw [← s1.len, List.getElem?_append_right (Nat.le_refl _), Nat.sub_self]; rfl
  | exc c d S1 => exact fun q => q
  | bad => exact fun q => q
theorem pd_frz {X : Cx} {G : Gc} {Wx : WX} {e : Expr} {f : M (List Da)} (h : PE X e (tF G Wx f)) : PE X e (tM G Wx (frzM f)) := h.imp fun _ _ _ k => frz_imp k
theorem pd_cel {X : Cx} {G : Gc} {Wx : WX} {e : Expr} {f : M (List Da)} (h : PE X e (tF G Wx f)) : PE X e (tM G Wx (celM f)) := h.imp fun _ _ _ k => cel_imp k
/-- a list made at p, in a world that does not know it -/
theorem Ext.add {G : Gc} {W : Wd} {H : Hp} {S : Store} (s : SR G W H S) {p : Addr} {o : HO} (hp : H p = none) : Ext W H W (upd H p o) ∧ SR G W (upd H p o) S := by
  have fp := s.Fnone hp
  refine ⟨⟨.refl W, fun a h => .inl h, fun a u h => .inl h, fun a u h _ => by rw [upd_ne (ne_of_none h hp)]; exact h, fun a h => ?_⟩, ⟨fun a u h => ?_, s.nd, s.len, fun j c h => ?_, s.out, s.ge⟩⟩
  · by_cases e : a = p
    · subst e; exact hp
    · rw [upd_ne e] at h; exact h
  · rw [upd_ne (ne_of_none h fp)]; exact s.sub a u h
  · obtain ⟨a, ha, q⟩ := s.cell j c h
    have hne : a ≠ p := fun e => s.notin hp (e ▸ List.mem_of_getElem? ha)
    exact ⟨a, ha, q.mono (.refl W) (upd_ne hne)⟩
/-- .. and changed there -/
theorem Ext.alter {G : Gc} {W0 W : Wd} {H0 H : Hp} {S : Store} (x : Ext W0 H0 W H) (s : SR G W H S) {p : Addr} {o : HO} (h0 : H0 p = none) (hn : p ∉ W.ι) (hf : W.F p = none) : Ext W0 H0 W (upd H p o) ∧ SR G W (upd H p o) S := by
  refine ⟨⟨x.le, x.new, x.Fn, fun a u h n => ?_, fun a h => ?_⟩, ⟨fun a u h => ?_, s.nd, s.len, fun j c h => ?_, s.out, s.ge⟩⟩
  · rw [upd_ne (ne_of_none h h0)]; exact x.keep a u h n
  · by_cases e : a = p
    · subst e; exact h0
    · rw [upd_ne e] at h; exact x.dom a h
  · rw [upd_ne (ne_of_none h hf)]; exact s.sub a u h
  · obtain ⟨a, ha, q⟩ := s.cell j c h
    have hne : a ≠ p := fun e => hn (e ▸ List.mem_of_getElem? ha)
    exact ⟨a, ha, q.mono (.refl W) (upd_ne hne)⟩
/-- what nobody knew nobody knows later -/
theorem Ext.unknown {W W' : Wd} {H H' : Hp} (x : Ext W H W' H') {p : Addr} {o : HO} (hp : H p = some o) (hn : p ∉ W.ι) (hf : W.F p = none) : H' p = some o ∧ p ∉ W'.ι ∧ W'.F p = none := by
  refine ⟨x.keep p o hp hn, fun m => ?_, ?_⟩
  · rcases x.new p m with h | h
    · exact hn h
    · rw [hp] at h; cases h
  · cases q : W'.F p with
    | none => rfl
    | some u =>
      rcases x.Fn p u q with h | h
      · rw [hf] at h; cases h
      · rw [hp] at h; cases h
def listM (t : M (List Da)) : M (List Da) := fun ρ S => (t ρ S).bind fun l S1 => if l.length ≤ big then .ok l S1 else .bad
/-- [a, b, ..] -/
theorem pdf_lst {X : Cx} {G : Gc} {Wx : WX} {es : List Expr} {pos : Pos} {t : M (List Da)} (ha : PA X es (tMs G Wx t)) : PE X (.List es pos) (tF G Wx (listM t)) :=
  (pe_lst ha).imp fun σ H Q ⟨W, S, ρ, s, r, q⟩ => ⟨W, S, ρ, s, r, by
    unfold listM at q
    revert q
    cases t ρ S with
    | ok l S1 =>
      intro q vs W1 H1 x1 s1 q1
      have q : AftF G Wx σ W H (if l.length ≤ big then .ok l S1 else .bad) Q := q
      by_cases hl : l.length ≤ big
      · rw [if_pos hl] at q
        refine ⟨by rw [← q1.length, ← big_eq]; exact hl, fun p hp => ?_⟩
        obtain ⟨x2, s2⟩ := Ext.add s1 (o := .lst vs) hp
        exact q p vs W1 _ (x1.trans x2) s2 q1 upd_same (s1.notin hp) (s1.Fnone hp) (x1.dom p hp)
      · rw [if_neg hl] at q; exact q.elim
    | exc c d S1 => exact fun q => q
    | bad => exact fun q => q⟩

/-! ### list comprehensions -/
def wipeD (ρ : En) : List Nat → En
  | [] => ρ
  | v :: vs => (wipeD ρ vs).set v none
theorem RepE.wipe {G : Gc} {W : Wd} {σ : L2.St} {ρ : En} (h : RepE G W σ ρ) : ∀ vs : List Nat, RepE G W (L2.wipe σ vs) (wipeD ρ vs)
  | [] => h
  | v :: vs => (RepE.wipe h vs).none v
theorem wipe_get (σ : L2.St) (k : Nat) : ∀ vs : List Nat, (L2.wipe σ vs)[k]? = if k ∈ vs then (if k < σ.length then some none else none) else σ[k]?
  | [] => by simp [L2.wipe]
  | v :: vs => by
    unfold L2.wipe
    by_cases e : v = k
    · subst e
      rw [List.getElem?_set_self']
      by_cases hl : v < σ.length
      · have : (L2.wipe σ vs)[v]? = some ((L2.wipe σ vs)[v]'(by rw [wipe_length]; exact hl)) := by simp [wipe_length, hl]
        rw [this]; simp [hl]
      · have : (L2.wipe σ vs)[v]? = none := List.getElem?_eq_none (by rw [wipe_length]; omega)
        rw [this]; simp [hl]
    · rw [List.getElem?_set_ne e, wipe_get σ k vs]
      simp [Ne.symm e]
theorem wipe_but {σ σ2 : L2.St} {is vs : List Nat} (b : But is (L2.wipe σ vs) σ2) (h : ∀ i ∈ is, i ∈ vs) : L2.wipe σ2 vs = L2.wipe σ vs := by
  apply List.ext_getElem?
  intro k
  have hl : σ2.length = σ.length := b.1.trans (wipe_length σ vs)
  rw [wipe_get, wipe_get, hl]
  by_cases m : k ∈ vs
  · rw [if_pos m, if_pos m]
  · rw [if_neg m, if_neg m, b.2 k fun z => m (h k z), wipe_get, if_neg m]

abbrev WN : WX := fun _ _ _ _ => False
def lcL (tg : Tg) (cond : M Bool) (elt : M Da) (ρ : En) : List Da → Store → Option (List Da × Store)
  | [], S => some ([], S)
  | d :: ds, S => match bindT tg d ρ with
    | none => none
    | some ρ1 => match cond ρ1 S with
      | .ok true S1 => match elt ρ1 S1 with
        | .ok y S2 => match lcL tg cond elt ρ ds S2 with
          | some (l, S3) => some (y :: l, S3)
          | none => none
        | _ => none
      | .ok false S1 => lcL tg cond elt ρ ds S1
      | _ => none
def optR {α : Type} : Option (α × Store) → Res α
  | some (a, S) => .ok a S
  | none => .bad
def lcM (own : List Nat) (tg : Tg) (src : M (List Da)) (cond : M Bool) (elt : M Da) : M (List Da) := fun ρ S => (src ρ S).bind fun ds S1 => if ds.length ≤ big then optR (lcL tg cond elt (wipeD ρ own) ds S1) else .bad
def yesM : M Bool := fun _ S => .ok true S
theorem ptsd_nil {X : Cx} {G : Gc} {Wx : WX} : PTs X [] (tMb G Wx yesM) := ⟨fun pins s σ H Q I ⟨W, S, ρ, s1, r, q⟩ => pts_nil.run pins s σ H Q I (q.here s1 rfl)⟩
theorem ptsd_one {X : Cx} {G : Gc} {Wx : WX} {c : Expr} {t : M Bool} (h : PT X c (tMb G Wx t)) : PTs X [c] (tMb G Wx t) := pts_one h
theorem AftI.bindF {G : Gc} {Wx : WX} {σ : L2.St} {W : Wd} {H : Hp} {r : Res (List Da)} {k : List Da → Store → Res (List Da)} {Q : VK} {R : It → Hp → Prop} (h : AftF G Wx σ W H (r.bind k) Q)
    (step : ∀ ds S J W' H', Ext W H W' H' → SR G W' H' S → ItD G W' J ds → AftF G Wx σ W' H' (k ds S) Q → R J H') : AftI G Wx σ W H r R := by
  cases r with
  | ok a S => exact fun b W' H' x s q => step a S b W' H' x s q (h.later x)
  | exc c d S => exact h
  | bad => exact h
theorem lc_imp {G : Gc} {Wx : WX} {own : List Nat} {tg : Tg} {src : M (List Da)} {cond : M Bool} {elt : M Da} (hsl : ∀ i ∈ tg.slots, i ∈ own) {σ : L2.St} {H : Hp} {Q : VK} (k : tF G Wx (lcM own tg src cond elt) σ H Q) :
    tLc (tI G Wx src) (gT G tg) (tMb G WN cond) (tM G WN elt) own σ H Q := by
  obtain ⟨W, S, ρ, s, r, q⟩ := k
  refine ⟨W, S, ρ, s, r, AftI.bindF q fun ds S1 J W1 H1 x1 s1 it k1 => ?_⟩
  by_cases hl : ds.length ≤ big
  · rw [if_pos hl] at k1
    cases hR : lcL tg cond elt (wipeD ρ own) ds S1 with
    | none => rw [hR] at k1; exact k1.elim
    | some LS =>
      obtain ⟨L, SL⟩ := LS
      rw [hR] at k1
      have k1 : ∀ p vs W' H', Ext W1 H1 W' H' → SR G W' H' SL → Reps G W' L vs → H' p = some (.lst vs) → p ∉ W'.ι → W'.F p = none → H1 p = none → Q (.ref p) H' := k1
      intro D hD
      have rw1 : RepE G W1 (L2.wipe σ own) (wipeD ρ own) := (r.mono x1.le).wipe own
      refine ⟨fun i n H2 => n = ds.length - i ∧ i ≤ ds.length ∧ ∃ W2 S2 acc vs l, Ext W1 H1 W2 H2 ∧ SR G W2 H2 S2 ∧ H2 D = some (.lst vs) ∧ Reps G W2 acc vs ∧ D ∉ W2.ι ∧ W2.F D = none ∧ acc.length ≤ i ∧
        lcL tg cond elt (wipeD ρ own) (ds.drop i) S2 = some (l, SL) ∧ L = acc ++ l, ⟨ds.length, by simp, Nat.zero_le _, ?_⟩, ?_⟩
      · obtain ⟨x2, s2⟩ := Ext.add s1 (o := .lst []) hD
        exact ⟨W1, S1, [], [], L, x2, s2, upd_same, .nil, s1.notin hD, s1.Fnone hD, Nat.le_refl _, hR, rfl⟩
      rintro i n H2 ⟨rfl, hi, W2, S2, acc, vs, l, x2, s2, hd, rs, hn, hf, hac, hq, hL⟩
      by_cases hlt : i < ds.length
      · refine .inr ⟨it.go i W2 H2 S2 hlt x2.le s2, fun H3 => ∃ W3 S3 acc vs l, Ext W1 H1 W3 H3 ∧ SR G W3 H3 S3 ∧ H3 D = some (.lst vs) ∧ Reps G W3 acc vs ∧ D ∉ W3.ι ∧ W3.F D = none ∧ acc.length ≤ i + 1 ∧
          lcL tg cond elt (wipeD ρ own) (ds.drop (i + 1)) S3 = some (l, SL) ∧ L = acc ++ l, fun H' h => ⟨ds.length - (i + 1), by omega, rfl, hlt, h⟩, fun x H3 y => ?_⟩
        obtain ⟨d, W3, hdd, x3, s3, q3⟩ := it.yld i W2 H2 S2 x H3 hlt x2.le s2 y
        have ed : ds.drop i = d :: ds.drop (i + 1) := by
          obtain ⟨h1, h2⟩ := List.getElem?_eq_some_iff.mp hdd
          rw [← h2]; exact List.drop_eq_getElem_cons h1
        rw [ed] at hq
        unfold lcL at hq
        cases hb : bindT tg d (wipeD ρ own) with
        | none => rw [hb] at hq; cases hq
        | some ρ1 =>
          rw [hb] at hq
          obtain ⟨hd3, hn3, hf3⟩ := x3.unknown hd hn hf
          refine ⟨W3, S2, wipeD ρ own, d, ρ1, s3, rw1.mono (x2.le.trans x3.le), q3, hb, fun σ2 r2 but => ⟨wipe_but but hsl, W3, S2, ρ1, s3, r2, ?_⟩⟩
          have x23 := x2.trans x3
          cases hc : cond ρ1 S2 with
          | exc c d0 S0 => simp only [hc] at hq; cases hq
          | bad => simp only [hc] at hq; cases hq
          | ok b S4 =>
            intro b' W4 H4 x4 s4 eb
            have eb : b = b' := eb
            subst eb
            obtain ⟨hd4, hn4, hf4⟩ := x4.unknown hd3 hn3 hf3
            cases b with
            | false =>
              simp only [hc] at hq
              rw [if_neg (by decide)]
              exact ⟨W4, S4, acc, vs, l, x23.trans x4, s4, hd4, rs.mono (x3.le.trans x4.le), hn4, hf4, by omega, hq, hL⟩
            | true =>
              simp only [hc] at hq
              simp only [if_true]
              refine ⟨W4, S4, ρ1, s4, r2.mono x4.le, ?_⟩
              cases he : elt ρ1 S4 with
              | exc c d0 S0 => simp only [he] at hq; cases hq
              | bad => simp only [he] at hq; cases hq
              | ok y5 S5 =>
                intro v W5 H5 x5 s5 q5
                obtain ⟨hd5, hn5, hf5⟩ := x5.unknown hd4 hn4 hf4
                simp only [he] at hq
                cases hr : lcL tg cond elt (wipeD ρ own) (ds.drop (i + 1)) S5 with
                | none => simp only [hr] at hq; cases hq
                | some lS =>
                  obtain ⟨l6, S6⟩ := lS
                  simp only [hr] at hq
                  cases hq
                  have x15 := (x23.trans x4).trans x5
                  have rs5 : Reps G W5 acc vs := rs.mono ((x3.le.trans x4.le).trans x5.le)
                  obtain ⟨x6, s6⟩ := Ext.alter x15 s5 (o := .lst (vs ++ [v])) hD hn5 hf5
                  refine ⟨vs, hd5, ?_, W5, S5, acc ++ [y5], vs ++ [v], l6, x6, s6, upd_same, rs5.append (.cons q5 .nil), hn5, hf5, by rw [List.length_append]; simp; omega, hr, by rw [hL, List.append_assoc]; rfl⟩
                  rw [← rs5.length, ← big_eq]; omega
      · have e : i = ds.length := by omega
        subst e
        rw [List.drop_length] at hq
        have hq : some (([] : List Da), S2) = some (l, SL) := hq
        have st := it.stop W2 H2 S2 x2.le s2
        cases hq
        rw [List.append_nil] at hL
        subst hL
        exact .inl ⟨st, k1 D vs W2 H2 x2 s2 rs hd hn hf hD⟩
  · rw [if_neg hl] at k1; exact k1.elim
section
variable {X : Cx} {G : Gc} {Wx : WX}
theorem pd_lc {elt tg iter : Expr} {ifs : List Expr} {scope : Scope} {own : List (Str × Nat)} {pos : Pos} {src : M (List Da)} {t : Tg} {ct : M Bool} {m : M Da} (hc : X.calm = true) (hN : X.N.Nodup) (hi : PI X tg iter (tI G Wx src)) (ok : BlkOk X.N X.env.scope scope own)
    (hg : ∀ (s : Shared) (H : Hp) (C : Addr) (cl : List (Str × Addr)) (fp : List Addr), PG (X.blk s H scope (compEnvC scope cl C X.env) fp) tg (gT G t)) (ht : ∀ (s : Shared) (H : Hp) (C : Addr) (cl : List (Str × Addr)) (fp : List Addr), PTs (X.blk s H scope (compEnvC scope cl C X.env) fp) ifs (tMb G WN ct))
    (he : ∀ (s : Shared) (H : Hp) (C : Addr) (cl : List (Str × Addr)) (fp : List Addr), PE (X.blk s H scope (compEnvC scope cl C X.env) fp) elt (tM G WN m)) (hsl : ∀ i ∈ t.slots, i ∈ own.map (·.2) := by decide) (hs : ∀ x, foldedSetIterable iter X.env x = pure x := by intro _; rfl) :
    PE X (.ListComp elt [⟨tg, iter, ifs, 0⟩] scope pos) (tF G Wx (lcM (own.map (·.2)) t src ct m)) := (pe_lc hc hN hi ok hg ht he hs).imp fun _ _ _ k => lc_imp hsl k
/-- y = [..] on one line, y a local; the list stands still from then on -/
theorem psd_lc {i : Nat} {y : Str} {py : Pos} {elt tg iter : Expr} {ifs : List Expr} {scope : Scope} {own : List (Str × Nat)} {pos spos : Pos} {src : M (List Da)} {t : Tg} {ct : M Bool} {m : M Da} (hc : X.calm = true) (hN : X.N.Nodup)
    (hi : PI X tg iter (tI G Wx src)) (ok : BlkOk X.N X.env.scope scope own)
    (hg : ∀ (s : Shared) (H : Hp) (C : Addr) (cl : List (Str × Addr)) (fp : List Addr), PG (X.blk s H scope (compEnvC scope cl C X.env) fp) tg (gT G t)) (ht : ∀ (s : Shared) (H : Hp) (C : Addr) (cl : List (Str × Addr)) (fp : List Addr), PTs (X.blk s H scope (compEnvC scope cl C X.env) fp) ifs (tMb G WN ct))
    (he : ∀ (s : Shared) (H : Hp) (C : Addr) (cl : List (Str × Addr)) (fp : List Addr), PE (X.blk s H scope (compEnvC scope cl C X.env) fp) elt (tM G WN m)) (hsl : ∀ i ∈ t.slots, i ∈ own.map (·.2) := by decide)
    (hy : X.N[i]? = some y := by rfl) (hyl : X.env.scope.names.lookup y = some .local := by rfl) (hsw : swapsWith (.ListComp elt [⟨tg, iter, ifs, 0⟩] scope pos) (some (.Name y py)) spos.line X.env = pure true := by exact sw_true rfl rfl rfl (by decide +kernel)) (hs : ∀ x, foldedSetIterable iter X.env x = pure x := by intro _; rfl) :
    PS X (.Assign [.Name y py] (.ListComp elt [⟨tg, iter, ifs, 0⟩] scope pos) spos) (tS G Wx (setS i (frzM (lcM (own.map (·.2)) t src ct m)))) :=
  (ps_setLc hc hN hy hyl hsw hi ok hg ht he hs).imp fun D σ H ⟨W, S, ρ, s, r, q⟩ => lc_imp hsl (frz_imp ⟨W, S, ρ, s, r, q.bind r fun d S1 v W1 H1 x1 s1 q1 k1 => k1.nx s1 ((r.mono x1.le).set q1)⟩)
theorem psd_lcC {i : Nat} {y : Str} {py : Pos} {elt tg iter : Expr} {ifs : List Expr} {scope : Scope} {own : List (Str × Nat)} {pos spos : Pos} {src : M (List Da)} {t : Tg} {ct : M Bool} {m : M Da} (hc : X.calm = true) (hN : X.N.Nodup)
    (hi : PI X tg iter (tI G Wx src)) (ok : BlkOk X.N X.env.scope scope own)
    (hg : ∀ (s : Shared) (H : Hp) (C : Addr) (cl : List (Str × Addr)) (fp : List Addr), PG (X.blk s H scope (compEnvC scope cl C X.env) fp) tg (gT G t)) (ht : ∀ (s : Shared) (H : Hp) (C : Addr) (cl : List (Str × Addr)) (fp : List Addr), PTs (X.blk s H scope (compEnvC scope cl C X.env) fp) ifs (tMb G WN ct))
    (he : ∀ (s : Shared) (H : Hp) (C : Addr) (cl : List (Str × Addr)) (fp : List Addr), PE (X.blk s H scope (compEnvC scope cl C X.env) fp) elt (tM G WN m)) (hsl : ∀ i ∈ t.slots, i ∈ own.map (·.2) := by decide)
    (hy : X.N[i]? = some y := by rfl) (hyl : X.env.scope.names.lookup y = some .local := by rfl) (hsw : swapsWith (.ListComp elt [⟨tg, iter, ifs, 0⟩] scope pos) (some (.Name y py)) spos.line X.env = pure true := by exact sw_true rfl rfl rfl (by decide +kernel)) (hs : ∀ x, foldedSetIterable iter X.env x = pure x := by intro _; rfl) :
    PS X (.Assign [.Name y py] (.ListComp elt [⟨tg, iter, ifs, 0⟩] scope pos) spos) (tS G Wx (setS i (celM (lcM (own.map (·.2)) t src ct m)))) :=
  (ps_setLc hc hN hy hyl hsw hi ok hg ht he hs).imp fun D σ H ⟨W, S, ρ, s, r, q⟩ => lc_imp hsl (cel_imp ⟨W, S, ρ, s, r, q.bind r fun d S1 v W1 H1 x1 s1 q1 k1 => k1.nx s1 ((r.mono x1.le).set q1)⟩)
end
end NL

set_option Elab.async false
set_option linter.all false
set_option maxRecDepth 100000
set_option maxHeartbeats 2000000
namespace NL
open PySem PySem.Spec PyProof.Rows L2

/-! ### room, and no repr under way -/
structure RoomG (k : Nat) (A : Around) : Prop where
  rm : Room k A
  gd : A.guards = some []
theorem RoomG.mono {j k : Nat} {A : Around} (r : RoomG k A) (h : j ≤ k) : RoomG j A := ⟨r.rm.mono h, r.gd⟩
theorem RoomG.into {k : Nat} {A : Around} (r : RoomG (k + 1) A) (env : Env) : RoomG k (A.deeper env) := ⟨r.rm.deeper env, r.gd⟩
theorem RoomG.makingK {k : Nat} {A : Around} (r : RoomG (k + 1) A) (C : Addr) (us : List Value) (kw : List (Str × Value)) : RoomG k (A.under (.builtin "type.__call__" ⟨.ref C :: us, kw⟩)) :=
  ⟨r.rm.make C us kw, by
    have g : (Code.builtin "type.__call__" ⟨.ref C :: us, kw⟩).guards = [] := by
      unfold Code.guards
      rw [if_neg]
      have : (Code.builtin "type.__call__" ⟨.ref C :: us, kw⟩).isGuard = false := rfl
      rw [this]; decide
    show pushGuards (Code.builtin "type.__call__" ⟨.ref C :: us, kw⟩).guards A.guards = some []
    rw [g, r.gd]; rfl⟩
theorem RoomG.making {k : Nat} {A : Around} (r : RoomG (k + 1) A) (C : Addr) (us : List Value) : RoomG k (A.under (.builtin "type.__call__" ⟨.ref C :: us, []⟩)) :=
  ⟨r.rm.make C us [], by
    have g : (Code.builtin "type.__call__" ⟨.ref C :: us, []⟩).guards = [] := by
      unfold Code.guards
      rw [if_neg]
      have : (Code.builtin "type.__call__" ⟨.ref C :: us, []⟩).isGuard = false := rfl
      rw [this]; decide
    show pushGuards (Code.builtin "type.__call__" ⟨.ref C :: us, []⟩).guards A.guards = some []
    rw [g, r.gd]; rfl⟩
/-- a def keeps the promise sp wherever there is room and no repr is under way -/
structure FnG (P : Program) (w : World) (K : PySem.W.Frag) (mg : Str → Option Value) (base : Heap) (k : Nat) (f : Addr) (fd : FuncData) (ps : List Str) (sp : Sp) : Prop where
  len : ∀ (vs : List V) (H : Hp) (Q : VK) (E : XK), sp vs H Q E → vs.length = ps.length
  run : ∀ {A : Around} {outer : List Env} {s : Shared} {H : Hp} {args : Args} {us : List Value} {vs : List V} {Q : VK} {E : XK}, RoomG k A → Env0 P w K mg base A outer s H → BindsTo s fd args (ps.zip us) → Vals vs us → sp vs H Q E →
    codeAny (model P w) A (.call (.ref f) args) (CR (L2.CX P w) outer P w H s Q E) s
theorem FnG.ofOk {P : Program} {w : World} {K : PySem.W.Frag} {mg : Str → Option Value} {base : Heap} {k : Nat} {f : Addr} {fd : FuncData} {ps : List Str} {sp : Sp} (F : FnOk P w K mg base (L2.CX P w) k f fd ps sp) : FnG P w K mg base k f fd ps sp :=
  ⟨F.len, fun r e b v h => F.run _ _ _ _ _ _ _ _ _ r.rm e b v h⟩
theorem FnG.weak {P : Program} {w : World} {K : PySem.W.Frag} {mg : Str → Option Value} {base : Heap} {k : Nat} {f : Addr} {fd : FuncData} {ps : List Str} {sp sp' : Sp} (F : FnG P w K mg base k f fd ps sp) (h : ∀ vs H Q E, sp' vs H Q E → sp vs H Q E) : FnG P w K mg base k f fd ps sp' :=
  ⟨fun vs H Q E q => F.len vs H Q E (h _ _ _ _ q), fun r e b v q => F.run r e b v (h _ _ _ _ q)⟩
/-- behind the body: what a def's call gives back -/
theorem back_of {P : Program} {w : World} {K : PySem.W.Frag} {mg : Str → Option Value} {base : Heap} {N : List Str} {qual : Str} {sc : Scope} {f : Addr} {cd : Value} {A : Around} {outer : List Env} {s s2 : Shared} {H : Hp} {E : XK} {Q : VK} {fl : Flow}
    (h : SP (cxOf (L2.CX P w) P w K mg base N qual sc f cd A outer s H E) [] { nx := fun _ H' => Q .non H', rt := Q } fl s2) : ∃ u, (fl = .ret u ∨ (fl = .next ∧ u = .none)) ∧ CE outer P w H s Q u s2 := by
  cases fl with
  | next => obtain ⟨σ, H', J, q⟩ := h; exact ⟨.none, .inr ⟨rfl, rfl⟩, .non, H', J.os, J.bare, J.base, J.hok, rfl, q⟩
  | ret u => obtain ⟨v, σ, H', J, r, q⟩ := h; exact ⟨u, .inl rfl, v, H', J.os, J.bare, J.base, J.hok, r, q⟩
  | brk => obtain ⟨_, _, _, q⟩ := h; exact q.elim
  | cont => obtain ⟨_, _, _, q⟩ := h; exact q.elim
/-- a def by its body's term -/
theorem fng {P : Program} {w : World} {K : PySem.W.Frag} {mg : Str → Option Value} {base : Heap} {x qual : Str} {st : Stmt} {f : Addr} {fd : FuncData} {N ps : List Str} {k : Nat} {sp : Sp} (F : Fun K x qual st f fd) (S : FnScope N ps (defScope st)) (len : ∀ vs H Q E, sp vs H Q E → vs.length = ps.length)
    (hb : ∀ (cdv : Value) (A : Around) (outer : List Env) (s : Shared) (H : Hp) (vs : List V) (Q : VK) (E : XK), RoomG k (A.deeper (envOfC qual (defScope st) s.heap.objs.size f cdv)) → sp vs H Q E →
      ∃ t, PSs (cxOf (L2.CX P w) P w K mg base N qual (defScope st) f cdv A outer s H E) (defBody st) t ∧ t { nx := fun _ H' => Q .non H', rt := Q } (L2.start N vs) H) : FnG P w K mg base (k + 1) f fd ps sp := by
  obtain ⟨oc, od, kV, doc, pm, an, cdv, ct, osl, e, lk, hcd⟩ := F.ex
  subst e
  refine ⟨len, fun {A outer s H args us vs Q E} hr e0 hbind r hsp => ?_⟩
  have inK : K.In s.heap := e0.mod.kin.keeps fun b o z => (e0.bs b o z).1
  refine codeAny_call_function hr.rm.depth (inK _ _ lk) rfl S.co S.gen rfl (PySem.W.codeRec_of inK hcd) (hbind _ _ _ _ (wpAny_newFunctionEnv_cells S.kind (fun y hy => ?_) fun env he s1 new => ?_))
  · rcases S.par y.1 (List.of_mem_zip hy).1 with q | q
    · exact .inl q
    · exact Or.inr ⟨q, PySem.W.cellsFrom_some _ _ _ (Or.inl q)⟩
  · subst he
    obtain ⟨t, ht, hq⟩ := hb cdv A outer s H vs Q E (hr.into _) hsp
    refine ⟨(e0.mod.nolimit.keeps fun b o z => (e0.bs b o z).1).keeps new.toInCall.keep, codeAny_func (wpAny_mono (ht.run [] s1 (L2.start N vs) H _ (inv_start S hr.rm.hd e0 (len _ _ _ _ hsp) r new) hq) (fun fl s2 hs => ?_) fun e s2 z => z)⟩
    obtain ⟨u, hu, c⟩ := back_of hs
    rcases hu with rfl | ⟨rfl, rfl⟩ <;> exact c
/-! ### calls of defs and methods, what they may raise wished for at the caller's slots -/
abbrev Arg1 (X : Cx) (e : Expr) (es : List Expr) : Prop := starEach (e :: es) X.env = (false, eval e X.env) :: starEach es X.env
abbrev NoSt (X : Cx) (pos : Pos) (es : List Expr) : Prop := (backTo pos (starEach es X.env)).any (·.1) = false
abbrev MethEq (X : Cx) (o : Expr) (m : Str) (apos pos : Pos) (es : List Expr) (pl : Sem Bool) : Prop :=
  eval (.Call (.Attribute o m apos) es [] pos) X.env = (do let ov ← eval o X.env; standAt apos.atName; let (f, first) ← holding [ov] (getMethod ov m pl); callWith pos f first (backTo pos (starEach es X.env)) (backToKw pos (keywordEach [] X.env)))
section
variable {X : Cx} {k : Nat} {f C : Addr} {fd : FuncData} {ps : List Str} {sp : Sp} {E : L2.St → XK} {x m : Str} {p pos apos : Pos} {e o : Expr} {es : List Expr} {ta : TE} {t : TA}
/-- what a call of f may end in -/
theorem ran {pins : List (Addr × Obj)} {σ : L2.St} {H : Hp} {s : Shared} {Q : VK} {us : List Value} {vs : List V} (F : FnG X.prog X.w X.K X.mg X.base k f fd ps sp) (hr : RoomG k X.A) (hb : Binds X.K fd ps []) (hx : PassesAt (L2.CX X.prog X.w) X σ (E σ))
    (I : Inv X pins σ H s) (r : Vals vs us) (h : sp vs H Q (E σ)) :
    wpAny (model X.prog X.w) X.A
      (call (.ref f) us) (EP X pins σ Q) X.xe s := by
  have b := hb s us I.kIn (by rw [List.append_nil, ← r.length]; exact F.len _ _ _ _ h)
  rw [List.append_nil] at b
  refine wpAny_call (codeAny_mono (F.run hr I.env0 b r h) ?_)
  rintro (er | fl) s2 hq
  · exact hx pins H s er s2 I hq
  · cases fl with
    | ret u => exact I.after hq
    | _ => exact hq.elim
theorem peg_call (F : FnG X.prog X.w X.K X.mg X.base k f fd ps sp) (hr : RoomG k X.A) (hg : Gl X x) (hm : X.mg x = some (.ref f)) (hk : PySem.W.keepIn X.K (.ref f) = true) (hb : Binds X.K fd ps []) (hx : ∀ σ, PassesAt (L2.CX X.prog X.w) X σ (E σ))
    (ha : PA X (e :: es) t) (hdb : (x == ("__debug__" : Str)) = false) (he : Arg1 X e es) (hpl : NoSt X pos es) : PE X (.Call (.Name x p) (e :: es) [] pos) (tCallS sp E t) :=
  ⟨fun pins s σ H Q I h => wpAny_Call_Name_kw (ld_glob I hg hm (PySem.W.callWith_K (h₀ := X.base) I.ok.mod.kin hk (thn (ha.run pos pins s σ H _ I h) fun _ _ ⟨_, _, J, r, q⟩ => ⟨J.kIn, ran F hr hb (hx σ) J r q⟩) he hpl) hdb)⟩
theorem peg_call0 (F : FnG X.prog X.w X.K X.mg X.base k f fd ps sp) (hr : RoomG k X.A) (hg : Gl X x) (hm : X.mg x = some (.ref f)) (hk : PySem.W.keepIn X.K (.ref f) = true) (hb : Binds X.K fd ps []) (hx : ∀ σ, PassesAt (L2.CX X.prog X.w) X σ (E σ))
    (hdb : (x == ("__debug__" : Str)) = false) : PE X (.Call (.Name x p) [] [] pos) (tCallS sp E tNil) :=
  ⟨fun pins s σ H Q I h => wpAny_Call_Name_kw (ld_glob I hg hm (PySem.W.callWith_K0 I.kIn hk (ran (us := []) F hr hb (hx σ) I .nil h)) hdb)⟩
def tMethS (C : Addr) (m : Str) (sp : Sp) (E : L2.St → XK) (ta : TE) (t : TA) : TE := fun σ H Q => ta σ H fun x H1 => ∃ a dx fs, x = .ref a ∧ H1 a = some (.ins C dx fs) ∧ fs.lookup m = none ∧
  t σ H1 fun vs H2 => sp (x :: vs) H2 Q (E σ)
theorem peg_meth {pl : Sem Bool} (he : PE X o ta) (c : Cls X.K C) (hm : Meth X.K C m f) (F : FnG X.prog X.w X.K X.mg X.base k f fd ps sp) (hr : RoomG k X.A) (hb : Binds X.K fd ps []) (hx : ∀ σ, PassesAt (L2.CX X.prog X.w) X σ (E σ)) (ha : PA X (e :: es) t)
    (hst : Arg1 X e es) (hpl : NoSt X pos es) (ht : MethEq X o m apos pos (e :: es) pl) : PE X (.Call (.Attribute o m apos) (e :: es) [] pos) (tMethS C m sp E ta t) :=
  ⟨fun pins s σ H Q I h => PySem.W.methodCall_KW (pl := pl) (thn (he.run pins s σ H _ I h) fun u s1 ⟨y, H1, J, ry, a, dx, fs, ey, ea, l, q⟩ => by
    subst ey
    cases ry
    exact getmeth_ok J ea c hm l (PySem.W.callWith_K (first := [.ref a]) (h₀ := X.base) J.ok.mod.kin hm.kp (thn (ha.run pos pins s1 σ H1 _ J q) fun us _ ⟨vs, _, J2, r, q2⟩ => ⟨J2.kIn, ran (us := .ref a :: us) (vs := .ref a :: vs) F hr hb (hx σ) J2 (.cons rfl r) q2⟩) hst hpl)) ht⟩
theorem peg_meth0 {pl : Sem Bool} (he : PE X o ta) (c : Cls X.K C) (hm : Meth X.K C m f) (F : FnG X.prog X.w X.K X.mg X.base k f fd ps sp) (hr : RoomG k X.A) (hb : Binds X.K fd ps []) (hx : ∀ σ, PassesAt (L2.CX X.prog X.w) X σ (E σ)) (ht : MethEq X o m apos pos [] pl) :
    PE X (.Call (.Attribute o m apos) [] [] pos) (tMethS C m sp E ta tNil) :=
  ⟨fun pins s σ H Q I h => PySem.W.methodCall_KW (pl := pl) (thn (he.run pins s σ H _ I h) fun u s1 ⟨y, H1, J, ry, a, dx, fs, ey, ea, l, q⟩ => by
    subst ey
    cases ry
    exact getmeth_ok J ea c hm l (PySem.W.callWith_K0 (first := [.ref a]) J.kIn hm.kp (ran (us := [.ref a]) (vs := [.ref a]) F hr hb (hx σ) J (.cons rfl .nil) q))) ht⟩
def tMakeS (C : Addr) (sp : Sp) (E : L2.St → XK) (t : TA) : TE := fun σ H Q => t σ H fun vs H1 => ∀ x dx, H1 x = none → H1 dx = none → dx ≠ x →
  sp (.ref x :: vs) (upd (upd H1 dx (.own x)) x (.ins C dx [])) (fun v H2 => v = .non ∧ Q (.ref x) H2) (E σ)
theorem peg_make (M : Mk X.K C f) (F : FnG X.prog X.w X.K X.mg X.base k f fd ps sp) (hr : RoomG (k + 1) X.A) (hg : Gl X x) (hm : X.mg x = some (.ref C)) (hb : Binds X.K fd ps []) (hx : ∀ σ, PassesAt (L2.CX X.prog X.w) X σ (E σ))
    (ha : PA X (e :: es) t) (hdb : (x == ("__debug__" : Str)) = false) (he : Arg1 X e es) (hpl : NoSt X pos es) : PE X (.Call (.Name x p) (e :: es) [] pos) (tMakeS C sp E t) :=
  ⟨fun pins s σ H Q I h => wpAny_Call_Name_kw (ld_glob I hg hm (PySem.W.callWith_K (h₀ := X.base) I.ok.mod.kin M.kp (thn (ha.run pos pins s σ H _ I h) fun us s1 ⟨vs, H1, J, r, q⟩ => ⟨J.kIn, by
    generalize hn : s1.heap.objs.size = n
    have q1 := q (n + 1) n (hn ▸ J.hok.fresh (Nat.le_succ _)) (hn ▸ J.hok.fresh (Nat.le_refl _)) (Nat.ne_of_lt (Nat.lt_succ_self _))
    subst hn
    have J2 := Inv.made (C := C) J
    have rs : Vals (V.ref (s1.heap.objs.size + 1) :: vs) (Value.ref (s1.heap.objs.size + 1) :: us) := .cons rfl r
    have b := hb _ (Value.ref (s1.heap.objs.size + 1) :: us) J2.kIn (by rw [List.append_nil, ← rs.length]; exact F.len _ _ _ _ q1)
    rw [List.append_nil] at b
    refine wpAny_call (make_map (f := f) J.kIn M.makes M.init (beq_iff_eq.mp M.fn) (codeAny_mono (F.run (hr.making C us) (J2.env0.make C us []) b rs q1) ?_))
    rintro (er | fl) s2 hq
    · exact hx σ pins _ _ er s2 J2 hq
    · cases fl with
      | ret u =>
        obtain ⟨v, H3, J3, rv, ev, q3⟩ := J2.after hq
        subst ev
        exact ⟨rv, .ref (s1.heap.objs.size + 1), H3, J3, rfl, q3⟩
      | _ => exact hq.elim⟩) he hpl) hdb)⟩
end

/-! ### a def's promise -/
abbrev Mf := List Da → Store → Res Da
def spM (G : Gc) (n : Nat) (m : Mf) : Sp := fun vs H Q E => vs.length = n ∧ ∃ W S ds, SR G W H S ∧ Reps G W ds vs ∧ Aft (RV G) G (fun cls dx _ H => E cls dx H) [] W H (m ds S) Q
def RS.res : RS → Res Da
  | .rt d S => .ok d S
  | .nx _ S => .ok .non S
  | .exc c d _ S => .exc c d S
  | _ => .bad
def defM (N : Nat) (body : MS) : Mf := fun ds S => (body (ds.map some ++ List.replicate (N - ds.length) none) S).res
theorem repE_start {G : Gc} {W : Wd} {N : List Str} {vs : List V} {ds : List Da} (h : Reps G W ds vs) : RepE G W (L2.start N vs) (ds.map some ++ List.replicate (N.length - ds.length) none) := by
  have hl := h.length
  unfold L2.start
  refine ⟨by simp [hl], fun i d e => ?_⟩
  by_cases hi : i < ds.length
  · rw [List.getElem?_append_left (by simpa using hi), List.getElem?_map] at e
    rw [List.getElem?_append_left (by simp; omega), List.getElem?_map]
    cases q : ds[i]? with
    | none => simp [q] at e
    | some d' =>
      rw [q] at e; cases e
      obtain ⟨v, hv, r⟩ := h.get q
      exact ⟨v, by rw [hv]; rfl, r⟩
  · rw [List.getElem?_append_right (by simpa using hi), List.getElem?_replicate] at e
    split at e <;> cases e
theorem def_fin {G : Gc} {N : List Str} {n : Nat} {body : MS} {vs : List V} {H : Hp} {Q : VK} {E : XK} (h : spM G n (defM N.length body) vs H Q E) : tS G (fun cls dx _ H => E cls dx H) body { nx := fun _ H' => Q .non H', rt := Q } (L2.start N vs) H := by
  obtain ⟨_, W, S, ds, s, r, q⟩ := h
  refine ⟨W, S, _, s, repE_start r, ?_⟩
  unfold defM at q
  revert q
  cases body (ds.map some ++ List.replicate (N.length - ds.length) none) S with
  | nx ρ S1 => exact fun q σ W' H' x s r => q .non W' H' x s (by simp [Rep])
  | rt d S1 => exact fun q => q
  | bk ρ S1 => exact fun q => q.elim
  | ct ρ S1 => exact fun q => q.elim
  | exc c d ρ S1 => exact fun q cls dx σ W' H' x s r => q cls dx W' H' x s
  | bad => exact fun q => q
section
variable {P : Program} {w : World} {K : PySem.W.Frag} {mg : Str → Option Value} {base : Heap} {G : Gc}
/-- a def of the text keeps its promise, by its body's term -/
theorem def_ok {x qual : Str} {st : Stmt} {f : Addr} {fd : FuncData} {N ps : List Str} {k n : Nat} {body : MS} (F : Fun K x qual st f fd) (S : FnScope N ps (defScope st)) (hn : ps.length = n)
    (hb : ∀ (cdv : Value) (A : Around) (outer : List Env) (s : Shared) (H : Hp) (E : XK), RoomG k (A.deeper (envOfC qual (defScope st) s.heap.objs.size f cdv)) →
      PSs (cxOf (L2.CX P w) P w K mg base N qual (defScope st) f cdv A outer s H E) (defBody st) (tS G (fun cls dx _ H => E cls dx H) body)) : FnG P w K mg base (k + 1) f fd ps (spM G n (defM N.length body)) :=
  fng F S (fun vs H Q E h => by rw [hn]; exact h.1) fun cdv A outer s H vs Q E hr h => ⟨_, hb cdv A outer s H E hr, def_fin h⟩
end

/-! ### calls -/
def callF (n : Nat) (m : Mf) (t : M (List Da)) : M Da := fun ρ S => (t ρ S).bind fun ds S1 => if ds.length = n then m ds S1 else .bad
def callF0 (m : Mf) : M Da := fun _ S => m [] S
theorem Aft.fn {α β : Type} {R : Wd → α → β → Prop} {G : Gc} {Wx : WX} {σ : L2.St} {W : Wd} {H : Hp} {r : Res α} {Q : β → Hp → Prop} (h : Aft R G Wx σ W H r Q) : Aft R G (fun cls dx _ H => WE Wx σ cls dx H) [] W H r Q := by
  cases r with
  | ok a S => exact h
  | exc c d S => exact h
  | bad => exact h
section
variable {X : Cx} {G : Gc} {Wx : WX} {k n : Nat} {f : Addr} {fd : FuncData} {ps : List Str} {x m c : Str} {p pos apos : Pos} {e o : Expr} {es : List Expr} {fo : M Da} {t : M (List Da)} {mf : Mf}
theorem pd_call (F : FnG X.prog X.w X.K X.mg X.base k f fd ps (spM G n mf)) (hr : RoomG k X.A) (tk : Takes X Wx) (hm : X.mg x = some (.ref f)) (hk : PySem.W.keepIn X.K (.ref f) = true) (hb : Binds X.K fd ps [])
    (ha : PA X (e :: es) (tMs G Wx t)) (hg : Gl X x := by rfl) (hdb : (x == ("__debug__" : Str)) = false := by decide) (he : Arg1 X e es := by rfl) (hpl : NoSt X pos es := by rfl) :
    PE X (.Call (.Name x p) (e :: es) [] pos) (tM G Wx (callF n mf t)) :=
  (peg_call (E := WE Wx) F hr hg hm hk hb (fun σ => passAt tk σ) ha hdb he hpl).imp fun σ H Q ⟨W, S, ρ, s, r, q⟩ => ⟨W, S, ρ, s, r, q.bind fun ds S1 vs W1 H1 x1 s1 q1 k1 => by
    by_cases hl : ds.length = n
    · rw [if_pos hl] at k1
      exact ⟨by rw [← q1.length, hl], W1, S1, ds, s1, q1, k1.fn⟩
    · rw [if_neg hl] at k1; exact k1.elim⟩
theorem pd_call0 (F : FnG X.prog X.w X.K X.mg X.base k f fd ps (spM G 0 mf)) (hr : RoomG k X.A) (tk : Takes X Wx) (hm : X.mg x = some (.ref f)) (hk : PySem.W.keepIn X.K (.ref f) = true) (hb : Binds X.K fd ps [])
    (hg : Gl X x := by rfl) (hdb : (x == ("__debug__" : Str)) = false := by decide) : PE X (.Call (.Name x p) [] [] pos) (tM G Wx (callF0 mf)) :=
  (peg_call0 (E := WE Wx) F hr hg hm hk hb (fun σ => passAt tk σ) hdb).imp fun σ H Q ⟨W, S, ρ, s, r, q⟩ => ⟨rfl, W, S, [], s, .nil, q.fn⟩
/-- an object of the class c at the cell j -/
def objAt (S : Store) (c : Str) : Da → Option (Nat × List (Str × Da))
  | .cell j => match S[j]? with
    | some (.obj c' fs) => if c' = c then some (j, fs) else none
    | _ => none
  | _ => none
theorem objAt_some {S : Store} {d : Da} {j : Nat} {fs : List (Str × Da)} (h : objAt S c d = some (j, fs)) : d = .cell j ∧ S[j]? = some (.obj c fs) := by
  unfold objAt at h
  split at h
  · rename_i i
    split at h
    · rename_i c' fs' e
      split at h
      · rename_i hc
        cases h
        exact ⟨rfl, by rw [e, hc]⟩
      · cases h
    · cases h
  · cases h
theorem SR.obj {W : Wd} {H : Hp} {S : Store} {d : Da} {v : V} {j : Nat} {fs : List (Str × Da)} (s : SR G W H S) (r : Rep G W d v) (h : objAt S c d = some (j, fs)) :
    ∃ a dx vs, v = .ref a ∧ W.ι[j]? = some a ∧ H a = some (.ins (G.cls c) dx vs) ∧ RepF G W fs vs := by
  obtain ⟨rfl, e⟩ := objAt_some h
  obtain ⟨a, ha, rfl⟩ := r.cell_inv
  obtain ⟨b, hb, dx, vs, q1, q2⟩ := s.cell j _ e
  rw [ha] at hb; cases hb
  exact ⟨a, dx, vs, rfl, ha, q1, q2⟩
def methF (c m : Str) (n : Nat) (mf : Mf) (fo : M Da) (t : M (List Da)) : M Da := fun ρ S => (fo ρ S).bind fun d S1 => match objAt S1 c d with
  | some (_, fs) => match fs.lookup m with
    | none => (t ρ S1).bind fun ds S2 => if (d :: ds).length = n then mf (d :: ds) S2 else .bad
    | some _ => .bad
  | none => .bad
theorem meth_imp {f0 : M Da} {E : L2.St → XK} {σ : L2.St} {H : Hp} {Q : VK} (k : tM G Wx (methF c m n mf fo t) σ H Q) : tMethS (G.cls c) m (spM G n mf) (WE Wx) (tM G Wx fo) (tMs G Wx t) σ H Q := by
  obtain ⟨W, S, ρ, s, r, q⟩ := k
  refine ⟨W, S, ρ, s, r, q.bind fun d S1 v W1 H1 x1 s1 q1 k1 => ?_⟩
  cases ho : objAt S1 c d with
  | none => simp only [ho] at k1; exact k1.elim
  | some jf =>
    obtain ⟨j, fs⟩ := jf
    simp only [ho] at k1
    cases hl : fs.lookup m with
    | some _ => simp only [hl] at k1; exact k1.elim
    | none =>
      simp only [hl] at k1
      obtain ⟨a, dx, vs, rfl, ha, h1, h2⟩ := s1.obj q1 ho
      refine ⟨a, dx, vs, rfl, h1, h2.lookup_none hl, W1, S1, ρ, s1, r.mono x1.le, k1.bind fun ds S2 us W2 H2 x2 s2 q2 k2 => ?_⟩
      by_cases hn : (d :: ds).length = n
      · rw [if_pos hn] at k2
        exact ⟨by rw [← hn]; simp [q2.length], W2, S2, d :: ds, s2, .cons (q1.mono x2.le) q2, k2.fn⟩
      · rw [if_neg hn] at k2; exact k2.elim
theorem pd_meth {pl : Sem Bool} (he : PE X o (tM G Wx fo)) (cl : Cls X.K (G.cls c)) (hm : Meth X.K (G.cls c) m f) (F : FnG X.prog X.w X.K X.mg X.base k f fd ps (spM G n mf)) (hr : RoomG k X.A) (tk : Takes X Wx) (hb : Binds X.K fd ps []) (ha : PA X (e :: es) (tMs G Wx t))
    (hst : Arg1 X e es := by rfl) (hpl : NoSt X pos es := by rfl)
    (ht : MethEq X o m apos pos (e :: es) pl := by rfl) :
    PE X (.Call (.Attribute o m apos) (e :: es) [] pos) (tM G Wx (methF c m n mf fo t)) :=
  (peg_meth (E := WE Wx) he cl hm F hr hb (fun σ => passAt tk σ) ha hst hpl ht).imp fun _ _ _ k => meth_imp (f0 := fo) (E := WE Wx) k
theorem pd_meth0 {pl : Sem Bool} (he : PE X o (tM G Wx fo)) (cl : Cls X.K (G.cls c)) (hm : Meth X.K (G.cls c) m f) (F : FnG X.prog X.w X.K X.mg X.base k f fd ps (spM G n mf)) (hr : RoomG k X.A) (tk : Takes X Wx) (hb : Binds X.K fd ps [])
    (ht : MethEq X o m apos pos [] pl := by rfl) :
    PE X (.Call (.Attribute o m apos) [] [] pos) (tM G Wx (methF c m n mf fo nilM)) :=
  (peg_meth0 (E := WE Wx) he cl hm F hr hb (fun σ => passAt tk σ) ht).imp fun σ H Q k => by
    obtain ⟨W, S, ρ, s, r, q⟩ := meth_imp (f0 := fo) (E := WE Wx) k
    refine ⟨W, S, ρ, s, r, q.mono fun v H1 ⟨a, dx, fs, h1, h2, h3, h4⟩ => ⟨a, dx, fs, h1, h2, h3, ?_⟩⟩
    obtain ⟨W1, S1, ρ1, s1, r1, q1⟩ := h4
    exact q1.here s1 .nil
/-- a new object -/
def makeF (c : Str) (n : Nat) (mf : Mf) (t : M (List Da)) : M Da := fun ρ S => (t ρ S).bind fun ds S1 => if ds.length + 1 = n then (mf (.cell S1.length :: ds) (S1 ++ [.obj c []])).bind fun r S2 => match r with
    | .non => .ok (.cell S1.length) S2
    | _ => .bad
  else .bad
theorem pd_make (M : Mk X.K (G.cls c) f) (F : FnG X.prog X.w X.K X.mg X.base k f fd ps (spM G n mf)) (hr : RoomG (k + 1) X.A) (tk : Takes X Wx) (hm : X.mg x = some (.ref (G.cls c))) (hb : Binds X.K fd ps [])
    (ha : PA X (e :: es) (tMs G Wx t)) (hg : Gl X x := by rfl) (hdb : (x == ("__debug__" : Str)) = false := by decide) (he : Arg1 X e es := by rfl) (hpl : NoSt X pos es := by rfl) :
    PE X (.Call (.Name x p) (e :: es) [] pos) (tM G Wx (makeF c n mf t)) :=
  (peg_make (E := WE Wx) M F hr hg hm hb (fun σ => passAt tk σ) ha hdb he hpl).imp fun σ H Q ⟨W, S, ρ, s, r, q⟩ => ⟨W, S, ρ, s, r, q.bind fun ds S1 vs W1 H1 x1 s1 q1 k1 => by
    intro x dx hx hd hne
    by_cases hl : ds.length + 1 = n
    · rw [if_pos hl] at k1
      obtain ⟨y1, t1⟩ := Ext.add s1 (o := .own x) hd
      have hx2 : upd H1 dx (.own x) x = none := by rw [upd_ne (Ne.symm hne)]; exact hx
      obtain ⟨y2, t2⟩ := Ext.add t1 (o := .ins (G.cls c) dx []) hx2
      obtain ⟨y3, t3⟩ := Ext.cel (c := .obj c []) t2 (y1.trans y2) hx ⟨dx, [], upd_same, .nil⟩ (t1.notin hx2) (t1.Fnone hx2)
      have hcell : Rep G (W1.cel x) (.cell S1.length) (.ref x) := by
        rw [Rep]
        refine ⟨x, ?_, rfl⟩
        show (W1.ι ++ [x])[S1.length]? = some x
        rw [← s1.len, List.getElem?_append_right (Nat.le_refl _), Nat.sub_self]; rfl
      refine ⟨by rw [← hl]; simp [q1.length], W1.cel x, _, .cell S1.length :: ds, t3, .cons hcell (q1.mono y3.le), ?_⟩
      have k2 := k1.later y3
      refine (Aft.bind (R := RV G) k2 fun r S2 v W2 H2 x2 s2 q2 k3 => ?_).fn
      cases r with
      | non => exact ⟨q2.non_inv, k3.here s2 (hcell.mono x2.le)⟩
      | _ => exact k3.elim
    · rw [if_neg hl] at k1; exact k1.elim⟩

/-! ### fields -/
def fldM (c f : Str) (fo : M Da) : M Da := fun ρ S => (fo ρ S).bind fun d S1 => match objAt S1 c d with
  | some (_, fs) => ofO (fs.lookup f) S1
  | none => .bad
theorem pd_fld {f : Str} (he : PE X e (tM G Wx fo)) (cl : Cls X.K (G.cls c)) (hn : NoAttr X.K (G.cls c) f) (hb : attributeBase e f X.env (eval e X.env) = eval e X.env := by rfl) : PE X (.Attribute e f pos) (tM G Wx (fldM c f fo)) :=
  (pe_fld he hb).imp fun σ H Q ⟨W, S, ρ, s, r, q⟩ => ⟨W, S, ρ, s, r, q.bind fun d S1 v W1 H1 x1 s1 q1 k1 => by
    cases ho : objAt S1 c d with
    | none => simp only [ho] at k1; exact k1.elim
    | some jf =>
      obtain ⟨j, fs⟩ := jf
      simp only [ho] at k1
      obtain ⟨a, dx, vs, rfl, ha, h1, h2⟩ := s1.obj q1 ho
      cases hl : fs.lookup f with
      | none => rw [hl] at k1; exact k1.elim
      | some d' =>
        rw [hl] at k1
        obtain ⟨v', hv, rv⟩ := h2.lookup hl
        exact ⟨a, _, dx, vs, v', rfl, h1, cl, hn, hv, k1.here s1 rv⟩⟩
def setFS (c f : Str) (fo fe : M Da) : MS := fun ρ S => (fe ρ S).thenS ρ fun y S1 => (fo ρ S1).thenS ρ fun d S2 => match objAt S2 c d with
  | some (j, fs) => if fs.length < 1000 then .nx ρ (S2.set j (.obj c (putD f y fs))) else .bad
  | none => .bad
theorem psd_fld {f : Str} {fe : M Da} {value : Expr} {pos' : Pos} (he : PE X o (tM G Wx fo)) (hv : PE X value (tM G Wx fe)) (cl : Cls X.K (G.cls c)) (hn : NoAttr X.K (G.cls c) f) (hs : swapsWith value (some (.Attribute o f pos')) pos.line X.env = pure false := by rfl) :
    PS X (.Assign [.Attribute o f pos'] value pos) (tS G Wx (setFS c f fo fe)) :=
  (ps_fld he hv hs).imp fun D σ H ⟨W, S, ρ, s, r, q⟩ => ⟨W, S, ρ, s, r, q.bind r fun y S1 v W1 H1 x1 s1 q1 k1 => ⟨W1, S1, ρ, s1, r.mono x1.le, k1.bind (r.mono x1.le) fun d S2 v2 W2 H2 x2 s2 q2 k2 => by
    cases ho : objAt S2 c d with
    | none => simp only [ho] at k2; exact k2.elim
    | some jf =>
      obtain ⟨j, fs⟩ := jf
      simp only [ho] at k2
      obtain ⟨a, dx, vs, rfl, ha, h1, h2⟩ := s2.obj q2 ho
      by_cases hl : fs.length < 1000
      · rw [if_pos hl] at k2
        obtain ⟨s3, x3⟩ := s2.write (c := .obj c (putD f y fs)) ha ⟨dx, _, upd_same, h2.put (q1.mono x2.le)⟩
        exact ⟨a, _, dx, vs, rfl, h1, cl, hn, by rw [← h2.length]; exact hl, k2 σ _ _ x3 s3 (r.mono (x1.le.trans x2.le))⟩
      · rw [if_neg hl] at k2; exact k2.elim⟩⟩
end
end NL

set_option Elab.async false
set_option linter.all false
set_option maxRecDepth 100000
set_option maxHeartbeats 4100000
namespace NL
open PySem PySem.Spec PyProof.Rows L2

/-! ### operators on data -/
section
variable {X : Cx} {G : Gc} {Wx : WX}
def ii (k : Int → Int → Option Da) : Da → Da → Store → Option Da
  | .int i, .int j, _ => k i j
  | _, _, _ => none
theorem ii_imp {C : Int → Int → Prop} [∀ i j, Decidable (C i j)] {g : Int → Int → V} {gd : Int → Int → Da} (hg : ∀ W i j, Rep G W (gd i j) (g i j)) {x y : V} {H : Hp} {Q : VK} (h : rd2 G (ii fun i j => if C i j then some (gd i j) else none) x y H Q) : rI C g x y H Q := by
  obtain ⟨W, S, a, b, s, r1, r2, q⟩ := h
  unfold ii at q
  split at q
  · rename_i i j
    dsimp only at q
    by_cases c : C i j
    · rw [if_pos c] at q
      exact ⟨i, j, r1.int_inv, r2.int_inv, c, q.here s (hg W i j)⟩
    · rw [if_neg c] at q; exact q.elim
  · exact q.elim
theorem ii0_imp {g : Int → Int → V} {gd : Int → Int → Da} (hg : ∀ W i j, Rep G W (gd i j) (g i j)) {x y : V} {H : Hp} {Q : VK} (h : rd2 G (ii fun i j => some (gd i j)) x y H Q) : rI0 g x y H Q := by
  obtain ⟨W, S, a, b, s, r1, r2, q⟩ := h
  unfold ii at q
  split at q
  · rename_i i j
    exact ⟨i, j, r1.int_inv, r2.int_inv, q.here s (hg W i j)⟩
  · exact q.elim
theorem _root_.L2.OpR.imp {f : Value → Value → Sem Value} {r r' : R2} (h : OpR X f r) (k : ∀ x y H Q, r' x y H Q → r x y H Q) : OpR X f r' := fun pins s σ H x y v u Q I rx ry q => h pins s σ H x y v u Q I rx ry (k x y H Q q)
theorem _root_.L2.CallR.imp {f : Value} {r r' : List V → Hp → VK → Prop} (h : CallR X f r) (k : ∀ xs H Q, r' xs H Q → r xs H Q) : CallR X f r' := fun pins s σ H xs us Q I rx q => h pins s σ H xs us Q I rx (k xs H Q q)
theorem _root_.L2.IxR.imp {r r' : R2} (h : IxR X r) (k : ∀ x y H Q, r' x y H Q → r x y H Q) : IxR X r' := fun va sl pins s σ H x y v u Q I rx ry q e => h va sl pins s σ H x y v u Q I rx ry (k x y H Q q) e
theorem _root_.L2.SlR.imp {r r' : V → Option Int → Option Int → Hp → VK → Prop} (h : SlR X r) (k : ∀ x lo hi H Q, r' x lo hi H Q → r x lo hi H Q) : SlR X r' := fun pins s σ H x v vl vu lo hi sl Q I rx hs pl pu q => h pins s σ H x v vl vu lo hi sl Q I rx hs pl pu (k _ _ _ _ _ q)
theorem repI (W : Wd) (i : Int) : Rep G W (.int i) (.int i) := by simp [Rep]
theorem repB (W : Wd) (i : Bool) : Rep G W (.bl i) (.bl i) := by simp [Rep]
theorem repS (W : Wd) (i : Str) : Rep G W (.str i) (.str i) := by simp [Rep]
theorem repN (W : Wd) : Rep G W .non .non := by simp [Rep]
abbrev subD := ii fun i j => some (.int (i - j))
theorem or_sub : OpR X (binaryOp .Sub) (rd2 G subD) := op_sub.imp fun _ _ _ _ h => ii0_imp (fun W i j => repI W _) h
def lim64 : Int := 18446744073709551616
theorem lim64_eq : lim64 = 2 ^ 64 := by decide
abbrev mulD := ii fun i j => if (-lim64 < i ∧ i < lim64) ∨ (-lim64 < j ∧ j < lim64) then some (.int (i * j)) else none
theorem or_mul : OpR X (binaryOp .Mult) (rd2 G mulD) := op_mul.imp fun _ _ _ _ h => by
  have h2 := ii_imp (g := fun i j => V.int (i * j)) (fun W i j => repI W _) h
  obtain ⟨i, j, e1, e2, c, q⟩ := h2
  exact ⟨i, j, e1, e2, by unfold CMul; rw [← lim64_eq]; exact c, q⟩
abbrev fdivD := ii fun i j => if 0 < j ∧ j < 1073741824 then some (.int (i / j)) else none
theorem or_fdiv : OpR X (binaryOp .FloorDiv) (rd2 G fdivD) := op_fdiv.imp fun _ _ _ _ h => by
  have h2 := ii_imp (C := fun i j => 0 < j ∧ j < 1073741824) (g := fun i j => V.int (i / j)) (fun W i j => repI W _) h
  exact h2
abbrev modD := ii fun i j => if 0 < j then some (.int (i % j)) else none
theorem or_mod : OpR X (binaryOp .Mod) (rd2 G modD) := op_mod.imp fun _ _ _ _ h => ii_imp (fun W i j => repI W _) h
abbrev powD := ii fun i j => if 0 ≤ j ∧ j ≤ 1000000 ∧ i.natAbs < 18446744073709551616 then some (.int (i ^ j.toNat)) else none
theorem or_pow : OpR X (binaryOp .Pow) (rd2 G powD) := op_pow.imp fun _ _ _ _ h => by
  have h2 := ii_imp (g := fun i j => V.int (i ^ j.toNat)) (fun W i j => repI W _) h
  obtain ⟨i, j, e1, e2, c, q⟩ := h2
  exact ⟨i, j, e1, e2, ⟨c.1, c.2.1, by have := c.2.2; omega⟩, q⟩
abbrev ltD := ii fun i j => some (.bl (decide (i < j)))
abbrev leD := ii fun i j => some (.bl (decide (i ≤ j)))
abbrev gtD := ii fun i j => some (.bl (decide (j < i)))
abbrev geD := ii fun i j => some (.bl (decide (j ≤ i)))
theorem or_lt : OpR X (compareOp .Lt) (rd2 G ltD) := op_lt.imp fun _ _ _ _ h => ii0_imp (fun W i j => repB W _) h
theorem or_le : OpR X (compareOp .LtE) (rd2 G leD) := op_le.imp fun _ _ _ _ h => ii0_imp (fun W i j => repB W _) h
theorem or_gt : OpR X (compareOp .Gt) (rd2 G gtD) := op_gt.imp fun _ _ _ _ h => ii0_imp (fun W i j => repB W _) h
theorem or_ge : OpR X (compareOp .GtE) (rd2 G geD) := op_ge.imp fun _ _ _ _ h => ii0_imp (fun W i j => repB W _) h

/-! + -/
def addD : Da → Da → Store → Option Da
  | .int i, .int j, _ => some (.int (i + j))
  | .str x, .str y, _ => if x.length + y.length ≤ big then some (.str (x ++ y)) else none
  | .tup l, .tup m, _ => if l.length + m.length ≤ big then some (.tup (l ++ m)) else none
  | _, _, _ => none
theorem or_add (hK : G.K = X.K := by rfl) : OpR X (binaryOp .Add) (rd2 G addD) := by
  intro pins s σ H x y v u Q J rx ry h
  have I := J
  obtain ⟨W, S, a, b, sr, r1, r2, q⟩ := h
  unfold addD at q
  split at q
  · rename_i i j
    exact op_add pins s σ H x y v u Q I rx ry ⟨i, j, r1.int_inv, r2.int_inv, q.here sr (repI W _)⟩
  · rename_i i j
    by_cases c : i.length + j.length ≤ big
    · rw [if_pos c] at q
      exact op_add_str pins s σ H x y v u Q I rx ry ⟨i, j, r1.str_inv, r2.str_inv, by rw [← big_eq]; exact c, q.here sr (repS W _)⟩
    · rw [if_neg c] at q; exact q.elim
  · rename_i l m
    by_cases c : l.length + m.length ≤ big
    · rw [if_pos c] at q
      obtain ⟨a1, vs, rfl, h1, k1⟩ := r1.tup_inv
      obtain ⟨a2, us, rfl, h2, k2⟩ := r2.tup_inv
      rw [hK] at h1 h2
      refine op_catA pins s σ H _ _ v u Q I rx ry ⟨a1, a2, vs, us, rfl, rfl, sr.sqT h1, sr.sqT h2, by rw [← k1.length, ← k2.length, ← big_eq]; exact c, fun e => ?_, fun e e2 => ?_, fun _ _ p hp => q.newT sr (k1.append k2) hp⟩
      · subst e
        have : l = [] := List.length_eq_zero_iff.mp (by rw [k1.length]; rfl)
        subst this
        exact q.here sr r2
      · subst e2
        have : m = [] := List.length_eq_zero_iff.mp (by rw [k2.length]; rfl)
        subst this
        rw [List.append_nil] at q
        exact q.here sr r1
    · rw [if_neg c] at q; exact q.elim
  · exact q.elim

/-! list + list, the answer a new list -/
def catM (f g : M Da) : M (List Da) := fun ρ S => (f ρ S).bind fun a S1 => (g ρ S1).bind fun b S2 => match asL S2 a, asL S2 b with
  | some l, some m => if l.length + m.length ≤ big then .ok (l ++ m) S2 else .bad
  | _, _ => .bad
/-- what a list of either sort is in the heap -/
theorem SR.isL {W : Wd} {H : Hp} {S : Store} {d : Da} {v : V} {l : List Da} (s : SR G W H S) (r : Rep G W d v) (h : asL S d = some l) : ∃ a vs, v = .ref a ∧ SqL G.K H a vs ∧ Reps G W l vs := by
  unfold asL at h
  split at h
  · cases h
    obtain ⟨a, vs, rfl, h1, h2⟩ := r.lst_inv
    exact ⟨a, vs, rfl, s.sqL h1, h2⟩
  · cases h
    obtain ⟨a, vs, rfl, h1, h2⟩ := r.src_inv
    exact ⟨a, vs, rfl, s.sqL h1, h2⟩
  · rename_i j
    split at h
    · rename_i l' e
      cases h
      obtain ⟨a, ha, rfl⟩ := r.cell_inv
      obtain ⟨b, hb, vs, h1, h2⟩ := s.cell j _ e
      rw [ha] at hb; cases hb
      exact ⟨a, vs, rfl, .of h1, h2⟩
    · cases h
  · cases h

/-! comparisons with None -/
def isND : Da → Da → Store → Option Da
  | .non, .non, _ => some (.bl true)
  | _, .non, _ => some (.bl false)
  | _, _, _ => none
def notND : Da → Da → Store → Option Da
  | .non, .non, _ => some (.bl false)
  | _, .non, _ => some (.bl true)
  | _, _, _ => none
theorem Rep.isN {W : Wd} {d : Da} {v : V} (r : Rep G W d v) : (v = .non) ↔ d = .non := by
  cases d with
  | non => simp [r.non_inv]
  | bl b => rw [r.bl_inv]; simp
  | int b => rw [r.int_inv]; simp
  | str b => rw [r.str_inv]; simp
  | tup l => obtain ⟨a, vs, rfl, _⟩ := r.tup_inv; simp
  | lst l => obtain ⟨a, vs, rfl, _⟩ := r.lst_inv; simp
  | cell j => obtain ⟨a, _, rfl⟩ := r.cell_inv; simp
  | exc a dx c d => rw [Rep] at r; rw [r.1]; simp
  | src l => obtain ⟨a, vs, rfl, _⟩ := r.src_inv; simp
  | fn k f c => rw [Rep] at r; rw [r.1]; simp
theorem or_isN : OpR X (compareOp .Is) (rd2 G isND) := op_isN.imp fun x y H Q ⟨W, S, a, b, sr, r1, r2, q⟩ => by
  have e := r1.isN
  cases b with
  | non =>
    refine ⟨r2.non_inv, ?_⟩
    cases a with
    | non => have e2 : x = V.non := e.mpr rfl; rw [decide_eq_true e2]; exact q.here sr (repB W _)
    | _ => have e2 : ¬ x = V.non := fun z => Da.noConfusion (e.mp z); rw [decide_eq_false e2]; exact q.here sr (repB W _)
  | _ => cases a <;> exact q.elim
theorem or_notN : OpR X (compareOp .IsNot) (rd2 G notND) := op_notN.imp fun x y H Q ⟨W, S, a, b, sr, r1, r2, q⟩ => by
  have e := r1.isN
  cases b with
  | non =>
    refine ⟨r2.non_inv, ?_⟩
    cases a with
    | non => have e2 : x = V.non := e.mpr rfl; rw [decide_eq_true e2]; exact q.here sr (repB W _)
    | _ => have e2 : ¬ x = V.non := fun z => Da.noConfusion (e.mp z); rw [decide_eq_false e2]; exact q.here sr (repB W _)
  | _ => cases a <;> exact q.elim

/-! items -/
def ixD : Da → Da → Store → Option Da := fun a b S => match b with
  | .int i => match a with
    | .tup l => atI l i
    | .str x => if x.length ≤ big then (atI x.cps.toList i).map fun c => .str ⟨#[c]⟩ else none
    | _ => match asL S a with
      | some l => atI l i
      | none => none
  | _ => none
theorem Reps.atI {W : Wd} {l : List Da} {vs : List V} {i : Int} {d : Da} (r : Reps G W l vs) (h : L2.atI l i = some d) : ∃ v, L2.atI vs i = some v ∧ Rep G W d v := by
  have e := r.length
  unfold L2.atI at h ⊢
  rw [← e]
  cases q : ixN l.length i with
  | none => rw [q] at h; cases h
  | some j =>
    rw [q] at h
    exact r.get (i := j) h
theorem ir_ix (hK : G.K = X.K := by rfl) : IxR X (rd2 G ixD) := ix_seq.imp fun x y H Q ⟨W, S, a, b, sr, r1, r2, q⟩ => by
  unfold ixD at q
  split at q
  · rename_i i
    have ey := r2.int_inv
    split at q
    · rename_i l
      obtain ⟨p, vs, rfl, h1, k1⟩ := r1.tup_inv
      rw [hK] at h1
      cases e : L2.atI l i with
      | none => rw [e] at q; exact q.elim
      | some d =>
        rw [e] at q
        obtain ⟨v, hv, rv⟩ := k1.atI e
        exact .inr (.inl ⟨p, vs, i, v, rfl, ey, sr.sqT h1, hv, q.here sr rv⟩)
    · rename_i z
      by_cases c : z.length ≤ big
      · rw [if_pos c] at q
        cases e : L2.atI z.cps.toList i with
        | none => rw [e] at q; exact q.elim
        | some d =>
          rw [e] at q
          exact .inr (.inr ⟨z, i, d, r1.str_inv, ey, by rw [← big_eq]; exact c, e, q.here sr (repS W _)⟩)
      · rw [if_neg c] at q; exact q.elim
    · split at q
      · rename_i l hl
        obtain ⟨p, vs, rfl, h1, k1⟩ := sr.isL r1 hl
        rw [hK] at h1
        cases e : L2.atI l i with
        | none => rw [e] at q; exact q.elim
        | some d =>
          rw [e] at q
          obtain ⟨v, hv, rv⟩ := k1.atI e
          exact .inl ⟨p, vs, i, v, rfl, ey, h1, hv, q.here sr rv⟩
      · exact q.elim
  · exact q.elim

/-! slices -/
def cutD {α : Type} (xs : List α) (lo hi : Option Int) : List α := (xs.drop (HT.sIx xs.length 0 lo)).take (HT.sIx xs.length xs.length hi - HT.sIx xs.length 0 lo)
theorem Reps.cut {W : Wd} {l : List Da} {vs : List V} (r : Reps G W l vs) (lo hi : Option Int) : Reps G W (cutD l lo hi) (cutV vs lo hi) := by
  unfold cutD cutV
  rw [← r.length]
  exact (r.drop _).take _
def partM (f : M Da) : M (Option Int) := fun ρ S => (f ρ S).bind fun d S1 => match d with
  | .int i => .ok (some i) S1
  | _ => .bad
def noPartM : M (Option Int) := fun _ S => .ok none S
def sliceM (op : Da → Option Int → Option Int → Store → Option Da) (f : M Da) (lo hi : M (Option Int)) : M Da := fun ρ S => (f ρ S).bind fun d S1 => (lo ρ S1).bind fun l S2 => (hi ρ S2).bind fun h S3 => ofO (op d l h S3) S3
abbrev ROI : Wd → Option Int → Option Int → Prop := fun _ a b => a = b
abbrev tMo (G : Gc) (Wx : WX) (f : M (Option Int)) : TO := tR ROI G Wx f
theorem _root_.L2.PO.imp {e : Option Expr} {t t' : TO} (h : PO X e t) (k : ∀ σ H Q, t' σ H Q → t σ H Q) : PO X e t' := ⟨fun pins s σ H Q I q => h.run pins s σ H Q I (k σ H Q q)⟩
theorem pod_none : PO X none (tMo G Wx noPartM) := po_none.imp fun σ H Q h => tR_c (R := ROI) (G := G) (Wx := Wx) h fun W => rfl
theorem pod_some {e : Expr} {f : M Da} (he : PE X e (tM G Wx f)) : PO X (some e) (tMo G Wx (partM f)) :=
  (po_some he).imp fun σ H Q ⟨W, S, ρ, s, r, q⟩ => ⟨W, S, ρ, s, r, q.bind fun d S1 v W1 H1 x1 s1 q1 k1 => by
    cases d with
    | int i => exact ⟨i, q1.int_inv, k1.here s1 rfl⟩
    | _ => exact k1.elim⟩
def rdSl (G : Gc) (op : Da → Option Int → Option Int → Store → Option Da) : V → Option Int → Option Int → Hp → VK → Prop := fun x lo hi H Q => ∃ W S a, SR G W H S ∧ Rep G W a x ∧ AftO G W H S (op a lo hi S) Q
theorem pd_slice {e : Expr} {lo hi : Option Expr} {p2 pos : Pos} {op : Da → Option Int → Option Int → Store → Option Da} {f : M Da} {l h : M (Option Int)} (hs : SlR X (rdSl G op)) (he : PE X e (tM G Wx f)) (hl : PO X lo (tMo G Wx l)) (hh : PO X hi (tMo G Wx h)) :
    PE X (.Subscript e (.Slice lo hi none p2) pos) (tM G Wx (sliceM op f l h)) :=
  (pe_slice hs he hl hh).imp fun σ H Q ⟨W, S, ρ, s, r, q⟩ => ⟨W, S, ρ, s, r, q.bind fun d S1 v W1 H1 x1 s1 q1 k1 => ⟨W1, S1, ρ, s1, r.mono x1.le, k1.bind fun a S2 a' W2 H2 x2 s2 q2 k2 => by
    have q2 : a = a' := q2
    subst q2
    exact ⟨W2, S2, ρ, s2, r.mono (x1.le.trans x2.le), k2.bind fun b S3 b' W3 H3 x3 s3 q3 k3 => by
      have q3 : b = b' := q3
      subst q3
      exact ⟨W3, S3, d, s3, q1.mono (x2.le.trans x3.le), k3.toO⟩⟩⟩⟩
def slTD : Da → Option Int → Option Int → Store → Option Da
  | .tup l, lo, hi, _ => some (.tup (cutD l lo hi))
  | _, _, _, _ => none
theorem sr_tup (hK : G.K = X.K := by rfl) : SlR X (rdSl G slTD) := sl_tupA.imp fun x lo hi H Q ⟨W, S, a, sr, r1, q⟩ => by
  cases a with
  | tup l =>
    obtain ⟨p, vs, rfl, h1, k1⟩ := r1.tup_inv
    rw [hK] at h1
    refine ⟨p, vs, rfl, sr.sqT h1, fun e => ?_, fun _ p hp => AftO.newT q sr (k1.cut lo hi) hp⟩
    have el := k1.length
    have e2 : cutD l lo hi = l := by
      unfold cutD
      rw [← el] at e
      rw [e.1, e.2]; simp
    have q : AftO G W H S (some (.tup (cutD l lo hi))) Q := q
    rw [e2] at q
    exact q.here sr r1
  | _ => exact q.elim
def slLD : Da → Option Int → Option Int → Store → Option Da := fun d lo hi S => (asL S d).map fun l => .lst (cutD l lo hi)
theorem sr_lst (hK : G.K = X.K := by rfl) : SlR X (rdSl G slLD) := sl_list.imp fun x lo hi H Q ⟨W, S, a, sr, r1, q⟩ => by
  unfold slLD at q
  cases e : asL S a with
  | none => rw [e] at q; exact q.elim
  | some l =>
    rw [e] at q
    obtain ⟨p, vs, rfl, h1, k1⟩ := sr.isL r1 e
    rw [hK] at h1
    exact ⟨p, vs, rfl, h1, fun p hp => AftO.newL q sr (k1.cut lo hi) hp⟩

/-! built-ins -/
def lenD : List Da → Store → Option Da
  | [.tup l], _ => some (.int l.length)
  | [.str x], _ => if x.length ≤ big then some (.int x.length) else none
  | [d], S => (asL S d).map fun l => .int l.length
  | _, _ => none
theorem Reps.one {W : Wd} {d : Da} {vs : List V} (r : Reps G W [d] vs) : ∃ v, vs = [v] ∧ Rep G W d v := by
  obtain ⟨v, t, rfl, h, k⟩ := r.inv_cons
  rw [k.inv_nil]
  exact ⟨v, rfl, h⟩
theorem Reps.two {W : Wd} {d e : Da} {vs : List V} (r : Reps G W [d, e] vs) : ∃ v u, vs = [v, u] ∧ Rep G W d v ∧ Rep G W e u := by
  obtain ⟨v, t, rfl, h, k⟩ := r.inv_cons
  obtain ⟨u, rfl, h2⟩ := k.one
  exact ⟨v, u, rfl, h, h2⟩
theorem cr_len (hK : G.K = X.K := by rfl) : CallR X (.builtin "len") (rdn G lenD) := (call_len_seq.or call_len_str).imp fun xs H Q ⟨W, S, l, sr, r, q⟩ => by
  unfold lenD at q
  split at q
  · rename_i l
    obtain ⟨v, rfl, r1⟩ := r.one
    obtain ⟨p, vs, rfl, h1, k1⟩ := r1.tup_inv
    rw [hK] at h1
    refine .inl ⟨p, vs, rfl, .inr (sr.sqT h1), ?_⟩
    rw [← k1.length]; exact q.here sr (repI W _)
  · rename_i x
    obtain ⟨v, rfl, r1⟩ := r.one
    by_cases c : x.length ≤ big
    · rw [if_pos c] at q
      exact .inr ⟨x, by rw [r1.str_inv], by rw [← big_eq]; exact c, q.here sr (repI W _)⟩
    · rw [if_neg c] at q; exact q.elim
  · rename_i d _ _
    obtain ⟨v, rfl, r1⟩ := r.one
    cases e : asL S d with
    | none => rw [e] at q; exact q.elim
    | some l =>
      rw [e] at q
      obtain ⟨p, vs, rfl, h1, k1⟩ := sr.isL r1 e
      rw [hK] at h1
      refine .inl ⟨p, vs, rfl, .inl h1, ?_⟩
      rw [← k1.length]; exact q.here sr (repI W _)
  · exact q.elim
def tupleD : List Da → Store → Option Da
  | [.tup l], _ => some (.tup l)
  | [d], S => (asL S d).map fun l => .tup l
  | _, _ => none
theorem cr_tuple (hK : G.K = X.K := by rfl) : CallR X (.type "tuple") (rdn G tupleD) := call_tuple_of.imp fun xs H Q ⟨W, S, l, sr, r, q⟩ => by
  unfold tupleD at q
  split at q
  · rename_i l
    obtain ⟨v, rfl, r1⟩ := r.one
    obtain ⟨p, vs, rfl, h1, k1⟩ := id r1.tup_inv
    rw [hK] at h1
    exact ⟨p, vs, rfl, .inr ⟨sr.sqT h1, q.here sr r1⟩⟩
  · rename_i d _
    obtain ⟨v, rfl, r1⟩ := r.one
    cases e : asL S d with
    | none => rw [e] at q; exact q.elim
    | some l =>
      rw [e] at q
      obtain ⟨p, vs, rfl, h1, k1⟩ := sr.isL r1 e
      rw [hK] at h1
      exact ⟨p, vs, rfl, .inl ⟨h1, fun p hp => AftO.newT q sr k1 hp⟩⟩
  · exact q.elim
def absD : List Da → Store → Option Da
  | [.int i], _ => some (.int (if i < 0 then -i else i))
  | _, _ => none
theorem cr_abs : CallR X (.builtin "abs") (rdn G absD) := call_abs.imp fun xs H Q ⟨W, S, l, sr, r, q⟩ => by
  unfold absD at q
  split at q
  · obtain ⟨v, rfl, r1⟩ := r.one
    exact ⟨_, by rw [r1.int_inv], q.here sr (repI W _)⟩
  · exact q.elim
def intD : List Da → Store → Option Da
  | [.int i], _ => some (.int i)
  | [.bl b], _ => some (.int (if b then 1 else 0))
  | _, _ => none
theorem cr_int : CallR X (.type "int") (rdn G intD) := call_int1.imp fun xs H Q ⟨W, S, l, sr, r, q⟩ => by
  unfold intD at q
  split at q
  · obtain ⟨v, rfl, r1⟩ := r.one
    exact .inl ⟨_, by rw [r1.int_inv], q.here sr (repI W _)⟩
  · obtain ⟨v, rfl, r1⟩ := r.one
    exact .inr ⟨_, by rw [r1.bl_inv], q.here sr (repI W _)⟩
  · exact q.elim
def divmodD : List Da → Store → Option Da
  | [.int i, .int j], _ => if 0 < j ∧ j < 1073741824 then some (.tup [.int (i / j), .int (i % j)]) else none
  | _, _ => none
theorem cr_divmod' : CallR X (.builtin "divmod") (rdn G divmodD) := call_divmod.imp fun xs H Q ⟨W, S, l, sr, r, q⟩ => by
  unfold divmodD at q
  split at q
  · rename_i i j
    obtain ⟨v, u, rfl, r1, r2⟩ := r.two
    by_cases c : 0 < j ∧ j < 1073741824
    · rw [if_pos c] at q
      exact ⟨i, j, by rw [r1.int_inv, r2.int_inv], c, fun p hp => q.newT sr (.cons (repI W _) (.cons (repI W _) .nil)) hp⟩
    · rw [if_neg c] at q; exact q.elim
  · exact q.elim
/-- a list of truths -/
def truths : List Da → Option (List Bool)
  | [] => some []
  | .bl b :: r => (truths r).map (b :: ·)
  | _ :: _ => none
theorem truths_reps {W : Wd} : ∀ {l : List Da} {bs : List Bool} {vs : List V}, truths l = some bs → Reps G W l vs → vs = bs.map V.bl
  | [], bs, vs, h, r => by cases h; exact r.inv_nil
  | d :: l, bs, vs, h, r => by
    obtain ⟨v, t, rfl, h1, h2⟩ := r.inv_cons
    cases d with
    | bl b =>
      unfold truths at h
      cases e : truths l with
      | none => simp [e] at h
      | some cs =>
        rw [e] at h; cases h
        rw [h1.bl_inv, truths_reps e h2]; rfl
    | _ => cases h
def anyD : List Da → Store → Option Da
  | [d], S => (asL S d).bind fun l => (truths l).map fun bs => .bl (bs.any id)
  | _, _ => none
def allD : List Da → Store → Option Da
  | [d], S => (asL S d).bind fun l => (truths l).map fun bs => .bl (bs.all id)
  | _, _ => none
theorem cr_anyD (hc : X.calm = true) (hK : G.K = X.K := by rfl) : CallR X (.builtin "any") (rdn G anyD) := (cr_any hc).imp fun xs H Q ⟨W, S, l, sr, r, q⟩ => by
  unfold anyD at q
  split at q
  · rename_i d
    obtain ⟨v, rfl, r1⟩ := r.one
    cases e : asL S d with
    | none => rw [e] at q; exact q.elim
    | some l =>
      rw [e] at q
      obtain ⟨p, vs, rfl, h1, k1⟩ := sr.isL r1 e
      rw [hK] at h1
      cases e2 : truths l with
      | none => simp only [e2, Option.bind] at q; exact q.elim
      | some bs =>
        simp only [e2, Option.bind] at q
        rw [truths_reps e2 k1] at h1
        exact ⟨p, bs, rfl, h1, q.here sr (repB W _)⟩
  · exact q.elim
theorem cr_allD (hc : X.calm = true) (hK : G.K = X.K := by rfl) : CallR X (.builtin "all") (rdn G allD) := (cr_all hc).imp fun xs H Q ⟨W, S, l, sr, r, q⟩ => by
  unfold allD at q
  split at q
  · rename_i d
    obtain ⟨v, rfl, r1⟩ := r.one
    cases e : asL S d with
    | none => rw [e] at q; exact q.elim
    | some l =>
      rw [e] at q
      obtain ⟨p, vs, rfl, h1, k1⟩ := sr.isL r1 e
      rw [hK] at h1
      cases e2 : truths l with
      | none => simp only [e2, Option.bind] at q; exact q.elim
      | some bs =>
        simp only [e2, Option.bind] at q
        rw [truths_reps e2 k1] at h1
        exact ⟨p, bs, rfl, h1, q.here sr (repB W _)⟩
  · exact q.elim
end
end NL

set_option Elab.async false
set_option linter.all false
set_option maxRecDepth 100000
set_option maxHeartbeats 4100000
namespace NL
open PySem PySem.Spec PyProof.Rows L2
section
variable {X : Cx} {G : Gc} {Wx : WX}
/-! ### == -/
mutual
def pyP : Da → Option PyData
  | .non => some .none
  | .bl b => some (.bool b)
  | .int i => some (.int i)
  | .str x => some (.str x)
  | .tup l => (pyPs l).map .tuple
  | .lst l => (pyPs l).map .list
  | .cell _ => none
  | .exc _ _ _ _ => none
  | .src l => (pyPs l).map .list
  | .fn _ _ _ => none
def pyPs : List Da → Option (List PyData)
  | [] => some []
  | d :: r => match pyP d, pyPs r with
    | some x, some xs => some (x :: xs)
    | _, _ => none
end
def pyD (S : Store) : Da → Option PyData
  | .cell j => match S[j]? with
    | some (.lst l) => (pyPs l).map .list
    | _ => none
  | d => pyP d
mutual
theorem pyP_dp {W : Wd} {H : Hp} {S : Store} (s : SR G W H S) : ∀ {d : Da} {v : V} {x : PyData}, pyP d = some x → Rep G W d v → Dp G.K H v x
  | .non, v, x, h, r => by cases h; rw [r.non_inv]; exact .non
  | .bl b, v, x, h, r => by cases h; rw [r.bl_inv]; exact .bl b
  | .int b, v, x, h, r => by cases h; rw [r.int_inv]; exact .int b
  | .str b, v, x, h, r => by cases h; rw [r.str_inv]; exact .str b
  | .tup l, v, x, h, r => by
    obtain ⟨a, vs, rfl, h1, h2⟩ := r.tup_inv
    unfold pyP at h
    cases e : pyPs l with
    | none => simp [e] at h
    | some xs => rw [e] at h; cases h; exact .tup (s.sqT h1) (pyPs_dp s e h2)
  | .lst l, v, x, h, r => by
    obtain ⟨a, vs, rfl, h1, h2⟩ := r.lst_inv
    unfold pyP at h
    cases e : pyPs l with
    | none => simp [e] at h
    | some xs => rw [e] at h; cases h; exact .lst (s.sqL h1) (pyPs_dp s e h2)
  | .cell j, v, x, h, r => by cases h
  | .exc _ _ _ _, v, x, h, r => by cases h
  | .src l, v, x, h, r => by
    obtain ⟨a, vs, rfl, h1, h2⟩ := r.src_inv
    unfold pyP at h
    cases e : pyPs l with
    | none => simp [e] at h
    | some xs => rw [e] at h; cases h; exact .lst (s.sqL h1) (pyPs_dp s e h2)
  | .fn _ _ _, v, x, h, r => by cases h
theorem pyPs_dp {W : Wd} {H : Hp} {S : Store} (s : SR G W H S) : ∀ {l : List Da} {vs : List V} {xs : List PyData}, pyPs l = some xs → Reps G W l vs → DpAll G.K H vs xs
  | [], vs, xs, h, r => by cases h; rw [r.inv_nil]; exact .nil
  | d :: l, vs, xs, h, r => by
    obtain ⟨v, t, rfl, h1, h2⟩ := r.inv_cons
    unfold pyPs at h
    cases e : pyP d with
    | none => simp [e] at h
    | some x =>
      cases e2 : pyPs l with
      | none => rw [e, e2] at h; cases h
      | some ys => rw [e, e2] at h; cases h; exact .cons (pyP_dp s e h1) (pyPs_dp s e2 h2)
end
theorem pyD_dp {W : Wd} {H : Hp} {S : Store} (s : SR G W H S) {d : Da} {v : V} {x : PyData} (h : pyD S d = some x) (r : Rep G W d v) : Dp G.K H v x := by
  cases d with
  | cell j =>
    obtain ⟨a, ha, rfl⟩ := r.cell_inv
    unfold pyD at h
    dsimp only at h
    split at h
    · rename_i l e
      obtain ⟨b, hb, vs, h1, h2⟩ := s.cell j _ e
      rw [ha] at hb; cases hb
      cases e2 : pyPs l with
      | none => rw [e2] at h; cases h
      | some xs => rw [e2] at h; cases h; exact .lst (.of h1) (pyPs_dp s e2 h2)
    · cases h
  | _ => exact pyP_dp s h r
def strPair : Da → Da → Option (Str × Str)
  | .str x, .str y => some (x, y)
  | _, _ => none
theorem strPair_some {a b : Da} {x y : Str} (h : strPair a b = some (x, y)) : a = .str x ∧ b = .str y := by
  unfold strPair at h
  split at h
  · cases h; exact ⟨rfl, rfl⟩
  · cases h
def eqvP (S : Store) (a b : Da) : Option Bool := match pyD S a, pyD S b with
  | some x, some y => if SeqAt.shaped x = true ∧ SeqAt.shaped y = true then some (PyData.eqv x y) else none
  | _, _ => none
def eqvD (S : Store) (a b : Da) : Option Bool := match strPair a b with
  | some (x, y) => some (decide (x = y))
  | none => eqvP S a b
def eqD : Da → Da → Store → Option Da := fun a b S => (eqvD S a b).map .bl
def neD : Da → Da → Store → Option Da := fun a b S => (eqvD S a b).map fun t => .bl (!t)
theorem eqv_dp {W : Wd} {H : Hp} {S : Store} (s : SR G W H S) {a b : Da} {x y : V} {t : Bool} (h : eqvP S a b = some t) (r1 : Rep G W a x) (r2 : Rep G W b y) :
    ∃ d e, Dp G.K H x d ∧ Dp G.K H y e ∧ SeqAt.shaped d = true ∧ SeqAt.shaped e = true ∧ t = PyData.eqv d e := by
  unfold eqvP at h
  cases e1 : pyD S a with
  | none => rw [e1] at h; cases h
  | some d =>
    cases e2 : pyD S b with
    | none => rw [e1, e2] at h; cases h
    | some e =>
      rw [e1, e2] at h
      dsimp only at h
      by_cases c : SeqAt.shaped d = true ∧ SeqAt.shaped e = true
      · rw [if_pos c] at h; cases h
        exact ⟨d, e, pyD_dp s e1 r1, pyD_dp s e2 r2, c.1, c.2, rfl⟩
      · rw [if_neg c] at h; cases h
theorem dec_strV (x y : Str) : decide (V.str x = V.str y) = decide (x = y) := by
  by_cases h : x = y
  · subst h; simp
  · have : ¬ V.str x = V.str y := fun z => h (V.str.inj z)
    rw [decide_eq_false this, decide_eq_false h]
theorem or_eq (hu : X.A.units + 64 < cLine) (hK : G.K = X.K := by rfl) : OpR X (compareOp .Eq) (rd2 G eqD) := by
  rintro pins s σ H x y v u Q I rx ry ⟨W, S, a, b, sr, r1, r2, q⟩
  unfold eqD eqvD at q
  cases e : strPair a b with
  | some xy =>
    obtain ⟨z1, z2⟩ := xy
    obtain ⟨rfl, rfl⟩ := strPair_some e
    rw [e] at q
    have q : AftO G W H S (some (.bl (decide (z1 = z2)))) Q := q
    have e1 := r1.str_inv
    have e2 := r2.str_inv
    subst e1 e2
    exact op_eq pins s σ H _ _ v u Q I rx ry ⟨rfl, by rw [dec_strV]; exact q.here sr (repB W _)⟩
  | none =>
    rw [e] at q
    dsimp only at q
    cases e2 : eqvP S a b with
    | none => rw [e2] at q; exact q.elim
    | some t =>
      rw [e2] at q
      obtain ⟨d1, d2, h1, h2, h3, h4, rfl⟩ := eqv_dp sr e2 r1 r2
      rw [hK] at h1 h2
      exact op_eqD hu pins s σ H x y v u Q I rx ry ⟨d1, d2, h1, h2, h3, h4, AftO.here q sr (repB W _)⟩
theorem or_ne (hu : X.A.units + 64 < cLine) (hK : G.K = X.K := by rfl) : OpR X (compareOp .NotEq) (rd2 G neD) := by
  rintro pins s σ H x y v u Q I rx ry ⟨W, S, a, b, sr, r1, r2, q⟩
  unfold neD eqvD at q
  cases e : strPair a b with
  | some xy =>
    obtain ⟨z1, z2⟩ := xy
    obtain ⟨rfl, rfl⟩ := strPair_some e
    rw [e] at q
    have q : AftO G W H S (some (.bl (!decide (z1 = z2)))) Q := q
    have e1 := r1.str_inv
    have e2 := r2.str_inv
    subst e1 e2
    exact op_ne pins s σ H _ _ v u Q I rx ry ⟨rfl, by rw [dec_strV]; exact q.here sr (repB W _)⟩
  | none =>
    rw [e] at q
    dsimp only at q
    cases e2 : eqvP S a b with
    | none => rw [e2] at q; exact q.elim
    | some t =>
      rw [e2] at q
      obtain ⟨d1, d2, h1, h2, h3, h4, rfl⟩ := eqv_dp sr e2 r1 r2
      rw [hK] at h1 h2
      exact op_neD hu pins s σ H x y v u Q I rx ry ⟨d1, d2, h1, h2, h3, h4, AftO.here q sr (repB W _)⟩

/-! ### membership among flat items -/
def flatD : Da → Bool
  | .non | .bl _ | .int _ | .str _ => true
  | _ => false
def eqF (d e : Da) : Bool := match d, e with
  | .non, .non => true | .bl a, .bl b => a == b | .bl a, .int b => (if a then 1 else 0) == b | .int a, .bl b => a == (if b then 1 else 0) | .int a, .int b => a == b | .str a, .str b => a == b | _, _ => false
def seqOf (S : Store) : Da → Option (List Da)
  | .tup l => some l
  | d => asL S d
def inB (S : Store) (a b : Da) : Option Bool := match seqOf S b with
  | some l => if flatD a = true ∧ l.all flatD = true then some (l.any fun y => eqF y a) else none
  | none => none
def inD : Da → Da → Store → Option Da := fun a b S => (inB S a b).map .bl
def notInD : Da → Da → Store → Option Da := fun a b S => (inB S a b).map fun t => .bl (!t)
theorem Rep.flat {W : Wd} {d : Da} {v : V} (r : Rep G W d v) (f : flatD d = true) : flatV v = true := by
  cases d with
  | non => rw [r.non_inv]; rfl
  | bl b => rw [r.bl_inv]; rfl
  | int b => rw [r.int_inv]; rfl
  | str b => rw [r.str_inv]; rfl
  | _ => cases f
theorem Rep.eqF {W : Wd} {d e : Da} {v u : V} (r : Rep G W d v) (f : flatD d = true) (r2 : Rep G W e u) (f2 : flatD e = true) : eqV v u = NL.eqF d e := by
  cases d with
  | non => rw [r.non_inv]; cases e with
    | non => rw [r2.non_inv]; rfl
    | bl b => rw [r2.bl_inv]; rfl
    | int b => rw [r2.int_inv]; rfl
    | str b => rw [r2.str_inv]; rfl
    | _ => cases f2
  | bl a => rw [r.bl_inv]; cases e with
    | non => rw [r2.non_inv]; rfl
    | bl b => rw [r2.bl_inv]; rfl
    | int b => rw [r2.int_inv]; rfl
    | str b => rw [r2.str_inv]; rfl
    | _ => cases f2
  | int a => rw [r.int_inv]; cases e with
    | non => rw [r2.non_inv]; rfl
    | bl b => rw [r2.bl_inv]; rfl
    | int b => rw [r2.int_inv]; rfl
    | str b => rw [r2.str_inv]; rfl
    | _ => cases f2
  | str a => rw [r.str_inv]; cases e with
    | non => rw [r2.non_inv]; rfl
    | bl b => rw [r2.bl_inv]; rfl
    | int b => rw [r2.int_inv]; rfl
    | str b => rw [r2.str_inv]; rfl
    | _ => cases f2
  | _ => cases f
theorem Reps.inV {W : Wd} {a : Da} {x : V} (r1 : Rep G W a x) (f1 : flatD a = true) : ∀ {l : List Da} {vs : List V}, Reps G W l vs → l.all flatD = true → vs.all flatV = true ∧ L2.inV x vs = l.any fun y => NL.eqF y a
  | [], vs, h, _ => by rw [h.inv_nil]; exact ⟨rfl, rfl⟩
  | d :: l, vs, h, f => by
    obtain ⟨v, t, rfl, h1, h2⟩ := h.inv_cons
    simp only [List.all_cons, Bool.and_eq_true] at f
    obtain ⟨i1, i2⟩ := Reps.inV r1 f1 h2 f.2
    refine ⟨by rw [List.all_cons, h1.flat f.1, i1]; rfl, ?_⟩
    unfold L2.inV at i2 ⊢
    rw [List.any_cons, List.any_cons, i2, h1.eqF f.1 r1 f1]
theorem in_imp {W : Wd} {H : Hp} {S : Store} {a b : Da} {x y : V} {t : Bool} (s : SR G W H S) (r1 : Rep G W a x) (r2 : Rep G W b y) (h : inB S a b = some t) :
    ∃ p xs, y = .ref p ∧ (SqL G.K H p xs ∨ SqT G.K H p xs) ∧ flatV x = true ∧ xs.all flatV = true ∧ L2.inV x xs = t := by
  unfold inB at h
  cases e : seqOf S b with
  | none => simp [e] at h
  | some l =>
    rw [e] at h
    dsimp only at h
    by_cases c : flatD a = true ∧ l.all flatD = true
    · rw [if_pos c] at h; cases h
      cases b with
      | tup l' =>
        cases e
        obtain ⟨p, vs, rfl, h1, h2⟩ := r2.tup_inv
        obtain ⟨i1, i2⟩ := h2.inV r1 c.1 c.2
        exact ⟨p, vs, rfl, .inr (s.sqT h1), r1.flat c.1, i1, i2⟩
      | _ =>
        obtain ⟨p, vs, rfl, h1, h2⟩ := s.isL r2 e
        obtain ⟨i1, i2⟩ := h2.inV r1 c.1 c.2
        exact ⟨p, vs, rfl, .inl h1, r1.flat c.1, i1, i2⟩
    · rw [if_neg c] at h; cases h
theorem or_in (hK : G.K = X.K := by rfl) : OpR X (compareOp .In) (rd2 G inD) := op_in_seq.imp fun x y H Q ⟨W, S, a, b, s, r1, r2, q⟩ => by
  unfold inD at q
  cases e : inB S a b with
  | none => rw [e] at q; exact q.elim
  | some t =>
    rw [e] at q
    obtain ⟨p, xs, h1, h2, h3, h4, h5⟩ := in_imp s r1 r2 e
    rw [hK] at h2
    refine ⟨p, xs, h1, h2, h3, h4, ?_⟩
    rw [h5]
    exact AftO.here q s (repB W _)
theorem or_notin (hK : G.K = X.K := by rfl) : OpR X (compareOp .NotIn) (rd2 G notInD) := op_notIn_seq.imp fun x y H Q ⟨W, S, a, b, s, r1, r2, q⟩ => by
  unfold notInD at q
  cases e : inB S a b with
  | none => rw [e] at q; exact q.elim
  | some t =>
    rw [e] at q
    obtain ⟨p, xs, h1, h2, h3, h4, h5⟩ := in_imp s r1 r2 e
    rw [hK] at h2
    refine ⟨p, xs, h1, h2, h3, h4, ?_⟩
    rw [h5]
    exact AftO.here q s (repB W _)

/-! ### isinstance with a built-in class -/
inductive Ty where
  | non | bl | int | str | tup | lst
  deriving DecidableEq
def Ty.name : Ty → String
  | .non => "NoneType" | .bl => "bool" | .int => "int" | .str => "str" | .tup => "tuple" | .lst => "list"
def tyD (S : Store) : Da → Option Ty
  | .non => some .non
  | .bl _ => some .bl
  | .int _ => some .int
  | .str _ => some .str
  | .tup _ => some .tup
  | .lst _ => some .lst
  | .cell j => match S[j]? with
    | some (.lst _) => some .lst
    | _ => none
  | .exc _ _ _ _ => none
  | .src _ => some .lst
  | .fn _ _ _ => none
def isTy : Ty → Ty → Bool
  | .int, .int => true | .int, .bl => true
  | .bl, .bl => true
  | .str, .str => true
  | .tup, .tup => true
  | .lst, .lst => true
  | .non, .non => true
  | _, _ => false
theorem isTy_kit : ∀ T t : Ty, kitB t.name T.name = some (isTy T t) := by
  intro T t
  cases T <;> cases t <;> decide +kernel
theorem Rep.tyX {W : Wd} {H : Hp} {S : Store} {d : Da} {v : V} {t : Ty} (s : SR G W H S) (r : Rep G W d v) (h : tyD S d = some t) : TyX G.K H v (.type t.name) := by
  have lst : ∀ {a : Addr} {vs : List V}, SqL G.K H a vs → TyX G.K H (.ref a) (.type "list") := fun {a vs} q => by
    rcases q with (q | ⟨o, q⟩) | ⟨o, its, n, h1, h2, _⟩
    · exact .base (.lst q)
    · exact .base (.frz q)
    · exact .kList h1 h2
  cases d with
  | non => cases h; rw [r.non_inv]; exact .base .non
  | bl b => cases h; rw [r.bl_inv]; exact .base (.bl b)
  | int b => cases h; rw [r.int_inv]; exact .base (.int b)
  | str b => cases h; rw [r.str_inv]; exact .base (.str b)
  | tup l =>
    cases h
    obtain ⟨a, vs, rfl, h1, _⟩ := r.tup_inv
    rcases s.sqT h1 with (q | ⟨o, q⟩) | ⟨o, its, n, h1, h2, _⟩
    · exact .base (.tup q)
    · exact .fTuple q
    · exact .kTuple h1 h2
  | lst l =>
    cases h
    obtain ⟨a, vs, rfl, h1, _⟩ := r.lst_inv
    exact lst (s.sqL h1)
  | cell j =>
    unfold tyD at h
    dsimp only at h
    split at h
    · rename_i l e
      cases h
      obtain ⟨a, ha, rfl⟩ := r.cell_inv
      obtain ⟨b, hb, vs, h1, h2⟩ := s.cell j _ e
      rw [ha] at hb; cases hb
      exact .base (.lst h1)
    · cases h
  | exc _ _ _ _ => cases h
  | fn _ _ _ => cases h
  | src l =>
    cases h
    obtain ⟨a, vs, rfl, h1, _⟩ := r.src_inv
    exact lst (s.sqL h1)
def isiM (T : Ty) (f : M Da) : M Da := fun ρ S => (f ρ S).bind fun d S1 => match tyD S1 d with
  | some t => .ok (.bl (isTy T t)) S1
  | none => .bad
theorem pd_isi {e : Expr} {T : Ty} {f : M Da} {y : Str} {p p2 pos : Pos} (hm : X.mg "isinstance" = none) (he : PE X e (tM G Wx f)) (hm2 : X.mg y = none) (hv2 : bootBuiltins y = some (.type T.name) := by decide +kernel) (hg : Gl X "isinstance" := by rfl) (hg2 : Gl X y := by rfl)
    (hn2 : y ≠ "__name__" := by decide) (hdb2 : (y == ("__debug__" : Str)) = false := by decide) (hs : starEach [e, .Name y p2] X.env = (false, eval e X.env) :: starEach [.Name y p2] X.env := by rfl) (hpl : (backTo pos (starEach [.Name y p2] X.env)).any (·.1) = false := by rfl) (hs2 : starEach [.Name y p2] X.env = (false, eval (.Name y p2) X.env) :: starEach [] X.env := by rfl) (hK : G.K = X.K := by rfl) :
    PE X (.Call (.Name "isinstance" p) [e, .Name y p2] [] pos) (tM G Wx (isiM T f)) :=
  (pe_callB call_isi hg hm (by decide +kernel) (pa_cons he (pa_cons (pe_bltn (v := .ty T.name) hg2 hm2 hv2 rfl hn2 hdb2) pa_nil hs2) hs) (by decide) (by decide) hs hpl).imp fun σ H Q ⟨W, S, ρ, s, r, q⟩ => ⟨W, S, ρ, s, r, q.bind fun d S1 v W1 H1 x1 s1 q1 k1 => by
    cases e : tyD S1 d with
    | none => simp only [e] at k1; exact k1.elim
    | some t =>
      simp only [e] at k1
      have ty := q1.tyX s1 e
      rw [hK] at ty
      exact ⟨v, .ty T.name, .type t.name, .type T.name, isTy T t, rfl, .ty _, ty, kit_ty (isTy_kit T t), k1.here s1 (repB W1 _)⟩⟩
end
end NL

set_option Elab.async false
set_option linter.all false
set_option maxRecDepth 100000
set_option maxHeartbeats 4100000
namespace NL
open PySem PySem.Spec PyProof.Rows L2

/-! ### targets that may write into the store -/
abbrev TMr := Da → MS
def gM (G : Gc) (Wx : WX) (t : TMr) : TG := fun v σ H Q => ∃ W S ρ d, SR G W H S ∧ RepE G W σ ρ ∧ Rep G W d v ∧ AftS G Wx W H (t d ρ S) { nx := Q, rt := fun _ _ => False }
def gMs (G : Gc) (Wx : WX) (n : Nat) (t : List Da → MS) : TGs := fun vs σ H Q => ∃ W S ρ ds, SR G W H S ∧ RepE G W σ ρ ∧ Reps G W ds vs ∧ ds.length = n ∧ AftS G Wx W H (t ds ρ S) { nx := Q, rt := fun _ _ => False }
def nameT (i : Nat) : TMr := fun d ρ S => .nx (ρ.set i (some d)) S
def subT (fo fi : M Da) : TMr := fun d ρ S => (fo ρ S).thenS ρ fun o S1 => (fi ρ S1).thenS ρ fun i S2 => match o with
  | .cell j => match i with
    | .int k => match S2[j]? with
      | some (.lst l) => match ixN l.length k with
        | some n => .nx ρ (S2.set j (.lst (l.set n d)))
        | none => .bad
      | _ => .bad
    | _ => .bad
  | _ => .bad
def nilT : List Da → MS := fun _ ρ S => .nx ρ S
def consT (t : TMr) (ts : List Da → MS) : List Da → MS := fun ds ρ S => match ds with
  | d :: r => (t d ρ S).seq (ts r)
  | [] => .bad
def tupT (n : Nat) (ts : List Da → MS) : TMr := fun d ρ S => match d with
  | .tup l => if l.length = n then ts l ρ S else .bad
  | _ => .bad
def asgS (t : TMr) (m : M Da) : MS := fun ρ S => (m ρ S).thenS ρ fun d S1 => t d ρ S1
section
variable {X : Cx} {G : Gc} {Wx : WX} {e o i tg : Expr} {es : List Expr} {pos p2 : Pos} {m fo fi : M Da} {t : TMr} {ts : List Da → MS}
theorem pgm_name {i : Nat} {x : Str} (hN : X.N.Nodup) (hi : X.N[i]? = some x := by rfl) (hx : Loc X.env.scope x := by first | exact Or.inl rfl | exact Or.inr rfl) (hf : X.fn x = true ∨ X.env.scope.names.lookup x = some .local := by first | exact .inl rfl | exact .inr rfl | assumption) : PG X (.Name x pos) (gM G Wx (nameT i)) :=
  (pg_name hN hi hx hf).imp fun v σ H Q ⟨W, S, ρ, d, s, r, q, k⟩ => k _ W H (.refl W H) s (r.set q)
theorem pgm_sub (ho : PE X o (tM G Wx fo)) (hi : PE X i (tM G Wx fi))
    (ha : ∀ v, assign (.Subscript o i pos) X.env v = (do let ov ← holding [v] (eval o X.env); let iv ← holding [v, ov] (eval i X.env); standAt pos; holding [v, ov, iv] (setItem ov iv v); release [v, ov, iv] []) := by intro _; rfl) : PG X (.Subscript o i pos) (gM G Wx (subT fo fi)) :=
  (pg_sub ho hi set_list ha).imp fun v σ H Q ⟨W, S, ρ, d, s, r, q, k⟩ => ⟨W, S, ρ, s, r, k.bind r fun y S1 u W1 H1 x1 s1 q1 k1 => ⟨W1, S1, ρ, s1, r.mono x1.le, k1.bind (r.mono x1.le) fun z S2 u2 W2 H2 x2 s2 q2 k2 => by
    cases y with
    | cell j =>
      cases z with
      | int kk =>
        dsimp only at k2
        cases e : S2[j]? with
        | none => rw [e] at k2; exact k2.elim
        | some c =>
          rw [e] at k2
          cases c with
          | lst l =>
            dsimp only at k2
            cases en : ixN l.length kk with
            | none => rw [en] at k2; exact k2.elim
            | some n =>
              rw [en] at k2
              obtain ⟨a, ha1, rfl⟩ := (q1.mono x2.le).cell_inv
              obtain ⟨b, hb, vs, h1, h2⟩ := s2.cell j _ e
              rw [ha1] at hb; cases hb
              obtain ⟨s3, x3⟩ := s2.write (c := .lst (l.set n d)) ha1 ⟨_, upd_same, h2.set (q.mono (x1.le.trans x2.le)) n⟩
              exact ⟨a, vs, kk, n, rfl, q2.int_inv, h1, by rw [← h2.length]; exact en, k2 σ _ _ x3 s3 (r.mono (x1.le.trans x2.le))⟩
          | obj c fs => exact k2.elim
          | tab k => exact k2.elim
          | dK l => exact k2.elim
          | dN l => exact k2.elim
      | _ => exact k2.elim
    | _ => exact k2.elim⟩⟩
theorem pgm_nil : PGs X [] (gMs G Wx 0 nilT) := pgs_nil.imp fun vs σ H Q ⟨W, S, ρ, ds, s, r, q, e, k⟩ => by
  have e0 : ds = [] := List.length_eq_zero_iff.mp e
  subst e0
  exact ⟨q.inv_nil, k.nx s r⟩
theorem AftS.seqT {W : Wd} {H : Hp} {r : RS} {ds : List Da} {n : Nat} {vs : List V} {Q : L2.St → Hp → Prop} {k : List Da → MS} (h : AftS G Wx W H (r.seq (k ds)) { nx := Q, rt := fun _ _ => False }) (q : Reps G W ds vs) (hn : ds.length = n) :
    AftS G Wx W H r { nx := fun σ H1 => gMs G Wx n k vs σ H1 Q, rt := fun _ _ => False } := by
  cases r with
  | nx ρ S => exact fun σ W' H' x s e => ⟨W', S, ρ, ds, s, e, q.mono x.le, hn, h.later x⟩
  | rt d S => exact h
  | bk ρ S => exact h
  | ct ρ S => exact h
  | exc c d ρ S => exact h
  | bad => exact h
theorem pgm_cons {n : Nat} (h1 : PG X e (gM G Wx t)) (h2 : PGs X es (gMs G Wx n ts)) (hs : (assignEach (e :: es) X.env).map (·.2) = assign e X.env :: (assignEach es X.env).map (·.2) := by rfl) : PGs X (e :: es) (gMs G Wx (n + 1) (consT t ts)) :=
  (pgs_cons h1 h2 hs).imp fun vs σ H Q ⟨W, S, ρ, ds, s, r, q, e, k⟩ => by
    cases ds with
    | nil => simp at e
    | cons d ds =>
      obtain ⟨v, vr, rfl, q1, q2⟩ := q.inv_cons
      exact ⟨v, vr, rfl, W, S, ρ, d, s, r, q1, AftS.seqT (ds := ds) k q2 (by simpa using e)⟩
theorem pgm_tup {k n : Nat} (hc : X.calm = true) (h : PGs X es (gMs G Wx n ts)) (hn : (assignEach es X.env).length = n := by rfl) (hst : (assignEach es X.env).findIdx? (·.1) = none := by rfl) (hK : G.K = X.K := by rfl) :
    PG X (.Tuple es k pos) (gM G Wx (tupT n ts)) :=
  (pg_tup hc h hn hst).imp fun v σ H Q ⟨W, S, ρ, d, s, r, q, kk⟩ => by
    cases d with
    | tup l =>
      by_cases hl : l.length = n
      · have kk : AftS G Wx W H (if l.length = n then ts l ρ S else .bad) { nx := Q, rt := fun _ _ => False } := kk
        rw [if_pos hl] at kk
        obtain ⟨a, vs, rfl, ht, rs⟩ := q.tup_inv
        exact ⟨a, vs, rfl, by rw [← hK]; exact s.sqT ht, by rw [← rs.length, hl], W, S, ρ, l, s, r, rs, hl, kk⟩
      · have kk : AftS G Wx W H (if l.length = n then ts l ρ S else .bad) { nx := Q, rt := fun _ _ => False } := kk
        rw [if_neg hl] at kk; exact kk.elim
    | _ => exact kk.elim
theorem AftS.only {W : Wd} {H : Hp} {r : RS} {D : Ends} (h : AftS G Wx W H r D) (hr : ∀ d S, r ≠ .rt d S) (hb : ∀ ρ S, r ≠ .bk ρ S) (hct : ∀ ρ S, r ≠ .ct ρ S) : AftS G Wx W H r { nx := D.nx, rt := fun _ _ => False } := by
  cases r with
  | nx ρ S => exact h
  | rt d S => exact absurd rfl (hr d S)
  | bk ρ S => exact absurd rfl (hb ρ S)
  | ct ρ S => exact absurd rfl (hct ρ S)
  | exc c d ρ S => exact h
  | bad => exact h
/-- a target leaves by going on alone -/
def onlyNx (r : RS) : RS := match r with
  | .nx ρ S => .nx ρ S
  | .exc c d ρ S => .exc c d ρ S
  | _ => .bad
theorem AftS.onlyNx {W : Wd} {H : Hp} {r : RS} {D : Ends} (h : AftS G Wx W H (NL.onlyNx r) D) : AftS G Wx W H r { nx := D.nx, rt := fun _ _ => False } := by
  cases r with
  | nx ρ S => exact h
  | exc c d ρ S => exact h
  | _ => exact h.elim
def asgGS (t : TMr) (m : M Da) : MS := fun ρ S => (m ρ S).thenS ρ fun d S1 => onlyNx (t d ρ S1)
theorem psm_asg (he : PE X e (tM G Wx m)) (hg : PG X tg (gM G Wx t)) (hs : swapsWithSole [tg] e pos.line X.env = pure false := by rfl) (hw : swappedStores [tg] e X.env = pure none := by rfl)
    (h1 : (assignEach [tg] X.env).map (·.2) = [assign tg X.env] := by rfl) : PS X (.Assign [tg] e pos) (tS G Wx (asgGS t m)) :=
  (ps_asg he hg hs hw h1).imp fun D σ H ⟨W, S, ρ, s, r, q⟩ => ⟨W, S, ρ, s, r, q.bind r fun d S1 v W1 H1 x1 s1 q1 k1 => ⟨W1, S1, ρ, d, s1, r.mono x1.le, q1, k1.onlyNx⟩⟩

/-! a, b = x, y; a, b, c = x, y, z: names alone -/
def parS (is : List Nat) (t : M (List Da)) : MS := fun ρ S => (t ρ S).thenS ρ fun ds S1 => if ds.length = is.length then .nx (setAll ρ (is.zip ds)) S1 else .bad
theorem psd_par {i j : Nat} {x y : Str} {a b : Expr} {ta : M (List Da)} {px py pt : Pos} {kt k2 pt2} (hN : X.N.Nodup) (ha : PA X [a, b] (tMs G Wx ta)) (hc : X.calm = true := by rfl) (hi : X.N[i]? = some x := by rfl) (hj : X.N[j]? = some y := by rfl) (hij : i ≠ j := by decide)
    (hx : X.env.scope.names.lookup x = some .local := by rfl) (hy : X.env.scope.names.lookup y = some .local := by rfl)
    (hw : swappedStores [.Tuple [.Name x px, .Name y py] kt pt] (.Tuple [a, b] k2 pt2) X.env = pure (some [x, y]) := by rfl)
    (hs : swapsWithSole [.Tuple [.Name x px, .Name y py] kt pt] (.Tuple [a, b] k2 pt2) pos.line X.env = pure false := by rfl) : PS X (.Assign [.Tuple [.Name x px, .Name y py] kt pt] (.Tuple [a, b] k2 pt2) pos) (tS G Wx (parS [i, j] ta)) :=
  (ps_par hc hN hi hj hij hx hy ha hw hs).imp fun D σ H ⟨W, S, ρ, s, r, q⟩ => ⟨W, S, ρ, s, r, q.bind r fun ds S1 vs W1 H1 x1 s1 q1 k1 => by
    by_cases hl : ds.length = [i, j].length
    · rw [if_pos hl] at k1
      obtain ⟨d, ds, rfl⟩ : ∃ d r, ds = d :: r := by cases ds with | nil => cases hl | cons d r => exact ⟨d, r, rfl⟩
      obtain ⟨e, ds, rfl⟩ : ∃ d r, ds = d :: r := by cases ds with | nil => cases hl | cons d r => exact ⟨d, r, rfl⟩
      obtain rfl : ds = [] := by cases ds with | nil => rfl | cons => simp at hl
      obtain ⟨v, u, rfl, rv, ru⟩ := q1.two
      exact ⟨v, u, rfl, k1.nx s1 (((r.mono x1.le).set rv).set ru)⟩
    · rw [if_neg hl] at k1; exact k1.elim⟩
theorem Reps.three {W : Wd} {d e f : Da} {vs : List V} (r : Reps G W [d, e, f] vs) : ∃ v u w, vs = [v, u, w] ∧ Rep G W d v ∧ Rep G W e u ∧ Rep G W f w := by
  obtain ⟨v, t, rfl, h, k⟩ := r.inv_cons
  obtain ⟨u, w, rfl, h2, h3⟩ := k.two
  exact ⟨v, u, w, rfl, h, h2, h3⟩
theorem psd_par3 {i j l : Nat} {x y z : Str} {a b c : Expr} {ta : M (List Da)} {px py pz pt : Pos} {kt k2 pt2} (hN : X.N.Nodup) (ha : PA X [a, b, c] (tMs G Wx ta)) (hc : X.calm = true := by rfl) (hi : X.N[i]? = some x := by rfl) (hj : X.N[j]? = some y := by rfl) (hl : X.N[l]? = some z := by rfl) (hij : i ≠ j := by decide) (hil : i ≠ l := by decide) (hjl : j ≠ l := by decide)
    (hx : X.env.scope.names.lookup x = some .local := by rfl) (hy : X.env.scope.names.lookup y = some .local := by rfl) (hz : X.env.scope.names.lookup z = some .local := by rfl)
    (hw : swappedStores [.Tuple [.Name x px, .Name y py, .Name z pz] kt pt] (.Tuple [a, b, c] k2 pt2) X.env = pure (some [x, y, z]) := by rfl)
    (hs : swapsWithSole [.Tuple [.Name x px, .Name y py, .Name z pz] kt pt] (.Tuple [a, b, c] k2 pt2) pos.line X.env = pure false := by rfl) : PS X (.Assign [.Tuple [.Name x px, .Name y py, .Name z pz] kt pt] (.Tuple [a, b, c] k2 pt2) pos) (tS G Wx (parS [i, j, l] ta)) :=
  (ps_par3 hc hN hi hj hl hij hil hjl hx hy hz ha hw hs).imp fun D σ H ⟨W, S, ρ, s, r, q⟩ => ⟨W, S, ρ, s, r, q.bind r fun ds S1 vs W1 H1 x1 s1 q1 k1 => by
    by_cases hl : ds.length = [i, j, l].length
    · rw [if_pos hl] at k1
      obtain ⟨d, ds, rfl⟩ : ∃ d r, ds = d :: r := by cases ds with | nil => cases hl | cons d r => exact ⟨d, r, rfl⟩
      obtain ⟨e, ds, rfl⟩ : ∃ d r, ds = d :: r := by cases ds with | nil => cases hl | cons d r => exact ⟨d, r, rfl⟩
      obtain ⟨f, ds, rfl⟩ : ∃ d r, ds = d :: r := by cases ds with | nil => cases hl | cons d r => exact ⟨d, r, rfl⟩
      obtain rfl : ds = [] := by cases ds with | nil => rfl | cons => simp at hl
      obtain ⟨v, u, w, rfl, rv, ru, rw'⟩ := q1.three
      exact ⟨v, u, w, rfl, k1.nx s1 ((((r.mono x1.le).set rv).set ru).set rw')⟩
    · rw [if_neg hl] at k1; exact k1.elim⟩

/-! ### a list that is a cell: append, pop -/
def cellL (S : Store) : Da → Option (Nat × List Da)
  | .cell j => match S[j]? with
    | some (.lst l) => some (j, l)
    | _ => none
  | _ => none
theorem cellL_some {S : Store} {d : Da} {j : Nat} {l : List Da} (h : cellL S d = some (j, l)) : d = .cell j ∧ S[j]? = some (.lst l) := by
  unfold cellL at h
  split at h
  · rename_i i
    split at h
    · rename_i l' e
      cases h
      exact ⟨rfl, e⟩
    · cases h
  · cases h
theorem SR.cellL {W : Wd} {H : Hp} {S : Store} {d : Da} {v : V} {j : Nat} {l : List Da} (s : SR G W H S) (r : Rep G W d v) (h : NL.cellL S d = some (j, l)) : ∃ a vs, v = .ref a ∧ W.ι[j]? = some a ∧ H a = some (.lst vs) ∧ Reps G W l vs := by
  obtain ⟨rfl, e⟩ := cellL_some h
  obtain ⟨a, ha, rfl⟩ := r.cell_inv
  obtain ⟨b, hb, vs, h1, h2⟩ := s.cell j _ e
  rw [ha] at hb; cases hb
  exact ⟨a, vs, rfl, ha, h1, h2⟩
def appM (fo fe : M Da) : M Da := fun ρ S => (fo ρ S).bind fun d S1 => match cellL S1 d with
  | some _ => (fe ρ S1).bind fun y S2 => match cellL S2 d with
    | some (j, l) => if l.length < big then .ok .non (S2.set j (.lst (l ++ [y]))) else .bad
    | none => .bad
  | none => .bad
theorem pd_app {apos cpos : Pos} {fe : M Da} (ho : PE X o (tM G Wx fo)) (he : PE X e (tM G Wx fe))
    (hbase : attributeBase o "append" X.env (eval o X.env) = eval o X.env := by rfl)
(hfew : ((backTo cpos (starEach [e] X.env)).all (fun x => !x.1) && (backToKw cpos (keywordEach [] X.env)).all (fun x => x.1.isSome) && decide ([e].length + ([] : List Keyword).length + (if ([] : List Keyword).isEmpty then 0 else 1) < 30)) = true := by rfl) (hline : (apos.endLine == cpos.line) = true := by rfl) (hs : starEach [e] X.env = (false, eval e X.env) :: starEach [] X.env := by rfl) (hplain : (backTo cpos (starEach [] X.env)).any (·.1) = false := by rfl) : PE X (.Call (.Attribute o "append" apos) [e] [] cpos) (tM G Wx (appM fo fe)) :=
  (pe_bm PySem.F.plainAttrs_list PySem.F.slot_list_append PySem.F.type_list_append mt_append ho (pa_cons he pa_nil hs) hbase hfew hline hs hplain).imp fun σ H Q ⟨W, S, ρ, s, r, q⟩ => ⟨W, S, ρ, s, r, q.bind fun d S1 v W1 H1 x1 s1 q1 k1 => by
    cases e1 : cellL S1 d with
    | none => simp only [e1] at k1; exact k1.elim
    | some jl =>
      obtain ⟨j, l⟩ := jl
      simp only [e1] at k1
      obtain ⟨a, vs, rfl, _, h1, _⟩ := s1.cellL q1 e1
      refine ⟨.inl ⟨rfl, vs, .of h1⟩, W1, S1, ρ, s1, r.mono x1.le, k1.bind fun y S2 u W2 H2 x2 s2 q2 k2 => ?_⟩
      cases e2 : cellL S2 d with
      | none => simp only [e2] at k2; exact k2.elim
      | some jl2 =>
        obtain ⟨j2, l2⟩ := jl2
        simp only [e2] at k2
        by_cases hl : l2.length < big
        · rw [if_pos hl] at k2
          obtain ⟨a2, vs2, ea, ha2, h2, h3⟩ := s2.cellL (q1.mono x2.le) e2
          cases ea
          obtain ⟨s3, x3⟩ := s2.write (c := .lst (l2 ++ [y])) ha2 ⟨_, upd_same, h3.append (.cons q2 .nil)⟩
          exact ⟨a, vs2, u, rfl, rfl, h2, by rw [← h3.length, ← big_eq]; exact hl, k2 _ _ _ x3 s3 (repN _)⟩
        · rw [if_neg hl] at k2; exact k2.elim⟩
def popM (fo : M Da) : M Da := fun ρ S => (fo ρ S).bind fun d S1 => match cellL S1 d with
  | some (j, l) => match l[l.length - 1]? with
    | some y => .ok y (S1.set j (.lst l.dropLast))
    | none => .bad
  | none => .bad
theorem Reps.dropLast {W : Wd} {l : List Da} {vs : List V} (r : Reps G W l vs) : Reps G W l.dropLast vs.dropLast := by
  rw [List.dropLast_eq_take, List.dropLast_eq_take, r.length]
  exact r.take _
theorem pd_pop {apos cpos : Pos} (ho : PE X o (tM G Wx fo))
    (hbase : attributeBase o "pop" X.env (eval o X.env) = eval o X.env := by rfl) (hline : (apos.endLine == cpos.line) = true := by rfl) :
    PE X (.Call (.Attribute o "pop" apos) [] [] cpos) (tM G Wx (popM fo)) :=
  (pe_bm0 PySem.F.plainAttrs_list PySem.F.slot_list_pop PySem.F.type_list_pop mt_pop ho hbase hline).imp fun σ H Q ⟨W, S, ρ, s, r, q⟩ => ⟨W, S, ρ, s, r, q.bind fun d S1 v W1 H1 x1 s1 q1 k1 => by
    cases e1 : cellL S1 d with
    | none => simp only [e1] at k1; exact k1.elim
    | some jl =>
      obtain ⟨j, l⟩ := jl
      simp only [e1] at k1
      obtain ⟨a, vs, rfl, ha, h1, h2⟩ := s1.cellL q1 e1
      cases el : l[l.length - 1]? with
      | none => rw [el] at k1; exact k1.elim
      | some y =>
        rw [el] at k1
        obtain ⟨v, hv, rv⟩ := h2.get el
        obtain ⟨s3, x3⟩ := s1.write (c := .lst l.dropLast) ha ⟨_, upd_same, h2.dropLast⟩
        exact ⟨.inl ⟨rfl, vs, .of h1⟩, a, vs, v, rfl, rfl, h1, by rw [← h2.length]; exact hv, k1 _ _ _ x3 s3 rv⟩⟩
end
end NL

set_option Elab.async false
set_option linter.all false
set_option maxRecDepth 100000
set_option maxHeartbeats 4100000
namespace NL
open PySem PySem.Spec PyProof.Rows L2

/-! ### new lists: list + list, list(range(n)), sorted(set(t)) -/
/-- a list that stands in the heap by itself -/
def tryL (S : Store) : Da → Option (List Da)
  | .lst l => some l
  | .cell j => match S[j]? with
    | some (.lst l) => some l
    | _ => none
  | _ => none
section
variable {X : Cx} {G : Gc} {Wx : WX} {a b e : Expr} {f g m : M Da} {pos : Pos}
theorem SR.tryL {W : Wd} {H : Hp} {S : Store} {d : Da} {v : V} {l : List Da} (s : SR G W H S) (r : Rep G W d v) (h : NL.tryL S d = some l) : ∃ a vs, v = .ref a ∧ H a = some (.lst vs) ∧ Reps G W l vs := by
  unfold NL.tryL at h
  split at h
  · cases h
    obtain ⟨a, vs, rfl, h1, h2⟩ := r.lst_at
    exact ⟨a, vs, rfl, s.sub _ _ h1, h2⟩
  · rename_i j
    split at h
    · rename_i l' e
      cases h
      obtain ⟨a, ha, rfl⟩ := r.cell_inv
      obtain ⟨b, hb, vs, h1, h2⟩ := s.cell j _ e
      rw [ha] at hb; cases hb
      exact ⟨a, vs, rfl, h1, h2⟩
    · cases h
  · cases h
/-- a new list, untold as yet -/
theorem AftF.new {σ : L2.St} {W : Wd} {H : Hp} {S : Store} {l : List Da} {vs : List V} {Q : VK} (h : AftF G Wx σ W H (.ok l S) Q) (s : SR G W H S) (r : Reps G W l vs) {p : Addr} (hp : H p = none) : Q (.ref p) (upd H p (.lst vs)) := by
  obtain ⟨x, s'⟩ := Ext.add s (o := .lst vs) hp
  exact h p vs W _ x s' r upd_same (s.notin hp) (s.Fnone hp) hp
theorem AftF.bind {α β : Type} {R' : Wd → α → β → Prop} {σ : L2.St} {W : Wd} {H : Hp} {r : Res α} {k : α → Store → Res (List Da)} {Q : VK} {Q' : β → Hp → Prop} (h : AftF G Wx σ W H (r.bind k) Q)
    (step : ∀ a S b W' H', Ext W H W' H' → SR G W' H' S → R' W' a b → AftF G Wx σ W' H' (k a S) Q → Q' b H') : Aft R' G Wx σ W H r Q' := by
  cases r with
  | ok a S => exact fun b W' H' x s q => step a S b W' H' x s q (h.later x)
  | exc c d S => exact h
  | bad => exact h
def catF (f g : M Da) : M (List Da) := fun ρ S => (f ρ S).bind fun a S1 => (g ρ S1).bind fun b S2 => match tryL S2 a, tryL S2 b with
  | some l, some m => if l.length + m.length ≤ big then .ok (l ++ m) S2 else .bad
  | _, _ => .bad
theorem pdf_cat (ha : PE X a (tM G Wx f)) (hb : PE X b (tM G Wx g)) : PE X (.BinOp a .Add b pos) (tF G Wx (catF f g)) :=
  (pe_op op_cat ha hb).imp fun σ H Q ⟨W, S, ρ, s, r, q⟩ => ⟨W, S, ρ, s, r, AftF.bind q fun d S1 v W1 H1 x1 s1 q1 k1 => ⟨W1, S1, ρ, s1, r.mono x1.le, AftF.bind k1 fun d2 S2 u W2 H2 x2 s2 q2 k2 => by
    cases e1 : tryL S2 d with
    | none => simp only [e1] at k2; exact k2.elim
    | some l =>
      cases e2 : tryL S2 d2 with
      | none => simp only [e1, e2] at k2; exact k2.elim
      | some m =>
        simp only [e1, e2] at k2
        by_cases hl : l.length + m.length ≤ big
        · rw [if_pos hl] at k2
          obtain ⟨p1, vs, rfl, h1, r1⟩ := s2.tryL (q1.mono x2.le) e1
          obtain ⟨p2, us, rfl, h2, r2⟩ := s2.tryL q2 e2
          exact ⟨p1, p2, vs, us, rfl, rfl, h1, h2, by rw [← r1.length, ← r2.length, ← big_eq]; exact hl, fun p hp => k2.new s2 (r1.append r2) hp⟩
        · rw [if_neg hl] at k2; exact k2.elim⟩⟩
/-! list(range(n)), list(range(a, b)) -/
theorem rgV_reps {W : Wd} (a b : Int) : Reps G W (rngL a (b - a).toNat) (rgV a b) := by
  unfold rngL rgV
  induction (List.range (b - a).toNat) with
  | nil => exact .nil
  | cons x l ih => exact .cons (repI _ _) ih
def lrgF (m : M Da) : M (List Da) := fun ρ S => (m ρ S).bind fun d S1 => match d with
  | .int n => if 0 ≤ n ∧ n ≤ 16777216 then .ok (rngL 0 n.toNat) S1 else .bad
  | _ => .bad
theorem pdf_listRange {p p2 pos2 : Pos} (hm : X.mg "list" = none) (hm2 : X.mg "range" = none) (he : PE X e (tM G Wx m)) (hc : X.calm = true := by rfl) (hg : Gl X "list" := by rfl) (hg2 : Gl X "range" := by rfl)
    (na : starEach [e] X.env = (false, eval e X.env) :: starEach [] X.env := by rfl) (nb : starEach [Expr.Call (.Name "range" p2) [e] [] pos2] X.env = (false, eval (Expr.Call (.Name "range" p2) [e] [] pos2) X.env) :: starEach [] X.env := by rfl) :
    PE X (.Call (.Name "list" p) [.Call (.Name "range" p2) [e] [] pos2] [] pos) (tF G Wx (lrgF m)) :=
  (pe_listRg hc hg hm (prg_1 hg2 hm2 he na) nb).imp fun σ H Q ⟨W, S, ρ, s, r, q⟩ => ⟨W, S, ρ, s, r, AftF.bind q fun d S1 v W1 H1 x1 s1 q1 k1 => by
    cases d with
    | int n =>
      have k1 : AftF G Wx σ W1 H1 (if 0 ≤ n ∧ n ≤ 16777216 then .ok (rngL 0 n.toNat) S1 else .bad) Q := k1
      by_cases h : 0 ≤ n ∧ n ≤ 16777216
      · rw [if_pos h] at k1
        refine ⟨n, q1.int_inv, RgOk.of_le (by omega) h.2 (by omega) h.1, fun p hp => ?_⟩
        have rr := rgV_reps (G := G) (W := W1) 0 n
        rw [Int.sub_zero] at rr
        exact k1.new s1 rr hp
      · rw [if_neg h] at k1; exact k1.elim
    | _ => exact k1.elim⟩
/-! sorted(set(t)), t a tuple of ints -/
def insU (x : Int) : List Int → List Int
  | [] => [x]
  | y :: r => if x < y then x :: y :: r else if x = y then y :: r else y :: insU x r
def sortU (l : List Int) : List Int := l.foldr insU []
theorem mem_insU {x k : Int} : ∀ {l : List Int}, k ∈ insU x l ↔ k = x ∨ k ∈ l
  | [] => by simp [insU]
  | y :: r => by
    unfold insU
    by_cases h : x < y
    · rw [if_pos h]; simp
    · rw [if_neg h]
      by_cases e : x = y
      · rw [if_pos e]; subst e; simp
      · rw [if_neg e, List.mem_cons, mem_insU, List.mem_cons]
        constructor
        · rintro (h | h | h) <;> simp [h]
        · rintro (h | h | h) <;> simp [h]
theorem insU_sorted {x : Int} : ∀ {l : List Int}, l.Pairwise (· < ·) → (insU x l).Pairwise (· < ·)
  | [], _ => by simp [insU]
  | y :: r, h => by
    unfold insU
    rw [List.pairwise_cons] at h
    by_cases c : x < y
    · rw [if_pos c, List.pairwise_cons, List.pairwise_cons]
      refine ⟨fun z hz => ?_, h⟩
      rcases List.mem_cons.mp hz with e | e
      · rw [e]; exact c
      · have := h.1 z e; omega
    · rw [if_neg c]
      by_cases e : x = y
      · rw [if_pos e, List.pairwise_cons]; exact h
      · rw [if_neg e, List.pairwise_cons]
        refine ⟨fun z hz => ?_, insU_sorted h.2⟩
        rcases mem_insU.mp hz with e2 | e2
        · omega
        · exact h.1 z e2
theorem mem_sortU {k : Int} {l : List Int} : k ∈ sortU l ↔ k ∈ l := by
  induction l with
  | nil => simp [sortU]
  | cons x l ih =>
    show k ∈ insU x (sortU l) ↔ _
    rw [mem_insU, ih, List.mem_cons]
theorem sortU_sorted (l : List Int) : (sortU l).Pairwise (· < ·) := by
  induction l with
  | nil => simp [sortU]
  | cons x l ih => exact insU_sorted ih
theorem sorted_eq : ∀ {l m : List Int}, l.Pairwise (· < ·) → m.Pairwise (· < ·) → (∀ k, k ∈ l ↔ k ∈ m) → l = m
  | [], [], _, _, _ => rfl
  | [], y :: m, _, _, h => absurd ((h y).mpr List.mem_cons_self) (by simp)
  | x :: l, [], _, _, h => absurd ((h x).mp List.mem_cons_self) (by simp)
  | x :: l, y :: m, h1, h2, h => by
    rw [List.pairwise_cons] at h1 h2
    have e : x = y := by
      rcases List.mem_cons.mp ((h x).mp List.mem_cons_self) with e | e
      · exact e
      · rcases List.mem_cons.mp ((h y).mpr List.mem_cons_self) with e2 | e2
        · exact e2.symm
        · have := h2.1 x e; have := h1.1 y e2; omega
    subst e
    have := sorted_eq h1.2 h2.2 fun k => by
      constructor
      · intro hk
        rcases List.mem_cons.mp ((h k).mp (List.mem_cons_of_mem _ hk)) with e | e
        · subst e; have := h1.1 k hk; omega
        · exact e
      · intro hk
        rcases List.mem_cons.mp ((h k).mpr (List.mem_cons_of_mem _ hk)) with e | e
        · subst e; have := h2.1 k hk; omega
        · exact e
    rw [this]
/-- the ints of a list of ints -/
def intsOf : List Da → Option (List Int)
  | [] => some []
  | .int i :: r => (intsOf r).map (i :: ·)
  | _ => none
theorem intsOf_eq : ∀ {l : List Da} {ns : List Int}, intsOf l = some ns → l = ns.map Da.int
  | [], ns, h => by cases h; rfl
  | .int i :: r, ns, h => by
    unfold intsOf at h
    cases e : intsOf r with
    | none => simp [e] at h
    | some ms => rw [e] at h; cases h; rw [intsOf_eq e]; rfl
theorem Reps.ints {W : Wd} : ∀ {ns : List Int} {vs : List V}, Reps G W (ns.map Da.int) vs → vs = ns.map V.int
  | [], vs, h => h.inv_nil
  | n :: ns, vs, h => by
    obtain ⟨v, t, rfl, h1, h2⟩ := h.inv_cons
    rw [h1.int_inv, Reps.ints h2]; rfl
theorem reps_ints {W : Wd} : ∀ ns : List Int, Reps G W (ns.map Da.int) (ns.map V.int)
  | [] => .nil
  | n :: ns => .cons (repI _ _) (reps_ints ns)
theorem ints_of : ∀ {ns : List Int} {us : List Value}, Vals (ns.map V.int) us → IntsAre us ns
  | [], us, h => by cases h; exact .nil
  | n :: ns, us, h => by
    cases h with
    | cons r q =>
      obtain ⟨t, rfl⟩ := r
      exact .cons n t (ints_of q)
def rSetT (K : PySem.W.Frag) (w : World) : List V → Hp → VK → Prop := fun vs H Q => ∃ (l : Addr) (ns : List Int), vs = [.ref l] ∧ SqT K H l (ns.map V.int) ∧ ns.length < 64 ∧
  ∀ p c, H p = none → c ≤ ns.length → Q (.ref p) (upd H p (SetO w p (fun j => decide (j ∈ ns)) c))
theorem cr_setT (hc : X.calm = true) : CallR X (.type "set") (rSetT X.K X.w) := by
  intro pins s σ H vs us Q J r h
  have I := J
  obtain ⟨l, ns, rfl, hq, h64, q⟩ := h
  rw [Vals.ref1 r]
  obtain ⟨its, rv, pl, hz⟩ := I.tuple hq
  refine call_set_tupI ns (I.ok.hd hc) pl (by simpa using ints_of rv) (by unfold scanBound; omega) fun h' tk c hS hle hk => ?_
  exact ⟨.ref s.heap.objs.size, upd H s.heap.objs.size (SetO X.w s.heap.objs.size (fun j => decide (j ∈ ns)) c), I.laid (t' := tk) hk (Nat.le_refl _) (setO_new hS), rfl, q _ c (I.hok.fresh (Nat.le_refl _)) hle⟩
def ssF (m : M Da) : M (List Da) := fun ρ S => (m ρ S).bind fun d S1 => match d with
  | .tup l => match intsOf l with
    | some ns => if ns.length < 64 then .ok ((sortU ns).map Da.int) S1 else .bad
    | none => .bad
  | _ => .bad
theorem pdf_sortedSet {p p2 pos2 : Pos} (hm : X.mg "sorted" = none) (hm2 : X.mg "set" = none) (he : PE X e (tM G Wx m)) (hc : X.calm = true := by rfl) (hK : G.K = X.K := by rfl) (hg : Gl X "sorted" := by rfl) (hg2 : Gl X "set" := by rfl)
    (na : starEach [e] X.env = (false, eval e X.env) :: starEach [] X.env := by rfl) (nb : starEach [Expr.Call (.Name "set" p2) [e] [] pos2] X.env = (false, eval (Expr.Call (.Name "set" p2) [e] [] pos2) X.env) :: starEach [] X.env := by rfl) :
    PE X (.Call (.Name "sorted" p) [.Call (.Name "set" p2) [e] [] pos2] [] pos) (tF G Wx (ssF m)) :=
  (pe_callB (cr_sortedSet hc) hg hm (by decide +kernel) (pa_cons (pe_callTy (cr_setT hc) hg2 hm2 (by decide +kernel) (pa_cons he pa_nil na) (by decide) (by decide) na (by rfl)) pa_nil nb) (by decide) (by decide) nb (by rfl)).imp fun σ H Q ⟨W, S, ρ, s, r, q⟩ => ⟨W, S, ρ, s, r, AftF.bind q fun d S1 v W1 H1 x1 s1 q1 k1 => by
    cases d with
    | tup l =>
      dsimp only at k1
      cases e : intsOf l with
      | none => rw [e] at k1; exact k1.elim
      | some ns =>
        rw [e] at k1
        dsimp only at k1
        by_cases h64 : ns.length < 64
        · rw [if_pos h64] at k1
          have el := intsOf_eq e
          subst el
          obtain ⟨a, vs, rfl, h1, h2⟩ := q1.tup_inv
          have ev := h2.ints
          subst ev
          rw [hK] at h1
          refine ⟨a, ns, rfl, s1.sqT h1, h64, fun p c hp hcl => ⟨p, _, c, rfl, upd_same, by omega, fun ms p2 hsort hmem hlen hp2 => ?_⟩⟩
          obtain ⟨x2, s2⟩ := Ext.add s1 (o := SetO X.w p (fun j => decide (j ∈ ns)) c) hp
          have em : ms = sortU ns := sorted_eq hsort (sortU_sorted ns) fun k => by rw [hmem k, mem_sortU]; simp
          subst em
          exact (k1.later x2).new s2 (reps_ints _) hp2
        · rw [if_neg h64] at k1; exact k1.elim
    | _ => exact k1.elim⟩
end
end NL

set_option Elab.async false
set_option linter.all false
set_option maxRecDepth 100000
set_option maxHeartbeats 4100000
namespace NL
open PySem PySem.Spec PyProof.Rows L2

/-! ### a caught exception: isinstance, its field -/
/-- isinstance(e, c), e the exception that the suite holds, with a dict or without -/
def rIsX (K : PySem.W.Frag) (D a : Addr) (dx : Option Addr) : List V → Hp → VK → Prop := fun xs H Q => ∃ (c : V) (cv : Value) (b : Bool), xs = [.ref a, c] ∧ ClsV c cv ∧ PySem.W.kitOne K (.ref D) cv = some b ∧
  (dx = none ∨ ∃ dd fs, dx = some dd ∧ H dd = some (.xd fs)) ∧ Q (.bl b) H
theorem call_isX {X : Cx} {a D : Addr} {dx : Option Addr} {oe : Obj} {pn : List (Addr × Obj)} (C : ExcC X.K D) (hz : Zc (.ref D) dx oe) (hf : ∃ vs, oe.data = .fields vs) : CallR (X.suite a ((a, oe) :: pn)) (.builtin "isinstance") (rIsX X.K D a dx) := by
  rintro pins s σ H xs us Q I r ⟨c, cv, b, rfl, hcv, e, hd, q⟩
  obtain ⟨u1, u2, rfl, rx, rc⟩ := vals2 r
  cases rx
  rw [hcv.eq rc]
  have here : s.heap.get? a = some oe := (I.pin (a, oe) (by simp)).1
  have J : ∃ od, PySem.W.InstAt s.heap a oe D od := by
    obtain ⟨vs, hv⟩ := hf
    have hn : PySem.W.notCls oe := by unfold PySem.W.notCls; rw [hv] <;> rfl
    rcases hd with rfl | ⟨dd, fs, rfl, ea⟩
    · exact ⟨none, here, hz.1, hn, by rw [hz.2]; trivial⟩
    · obtain ⟨mA, ⟨o, _, _, ho, _⟩, _⟩ := (show ObjOk X.prog X.w H s.heap dd (.xd fs) from I.hok dd _ ea)
      exact ⟨some o, here, hz.1, hn, by rw [hz.2]; exact ho⟩
  obtain ⟨od, J⟩ := J
  have hc : (PySem.W.clsIn X.K D).isSome = true := by obtain ⟨cd, hc, _⟩ := PySem.W.any_some C.hd; rw [hc]; rfl
  exact PySem.W.kia_one (PySem.W.kitx_exc hc C.hg C.hk C.hs C.ha C.hn C.ht C.hm) I.kIn J e (fun z => nomatch z) fun tk => ⟨.bl b, H, I.kept (t' := tk) fun _ _ z => z, rfl, q⟩
end NL

set_option Elab.async false
set_option linter.all false
set_option maxRecDepth 100000
set_option maxHeartbeats 4100000
namespace NL
open PySem PySem.Spec PyProof.Rows L2

/-! ### an own exception's __init__ : self.f = given -/
def spIni (K : PySem.W.Frag) (f : Str) : Sp := fun vs H Q E => ∃ (a C : Addr) (y : V), vs = [.ref a, y] ∧ OexC K C ∧ PySem.W.findIn K (.ref C) f = some none ∧ H a = some (exo a C none) ∧
  ∀ dx, H dx = none → dx ≠ a → Q .non (upd (upd H dx (exd dx [(f, y)])) a (exo a C (some dx)))
/-- what is known of a class whose instances are raised, made with one value -/
structure OwnX (P : Program) (w : World) (K : PySem.W.Frag) (mg : Str → Option Value) (base : Heap) (G : Gc) (c f : Str) : Prop where
  T : OexC K (G.cls c)
  nf : PySem.W.findIn K (.ref (G.cls c)) f = some none
  ini : ∃ fI fd ps, PySem.W.findIn K (.ref (G.cls c)) "__init__" = some (some (.ref fI)) ∧ PySem.W.typeIn K (.ref fI) = some (.type "function") ∧ FnOk P w K mg base (L2.CX P w) 1 fI fd ps (spIni K f) ∧ Binds K fd ps []
  mg : mg c = some (.ref (G.cls c))
  xf : G.xf c = some f
def raiseS (c : Str) (fe : M Da) : MS := fun ρ S => (fe ρ S).thenS ρ fun d S1 => .exc c d ρ S1
section
variable {X : Cx} {G : Gc} {Wx : WX} {e : Expr} {p pos pos2 : Pos} {fe : M Da} {c f : Str}
theorem psd_raise (O : OwnX X.prog X.w X.K X.mg X.base G c f) (hr : RoomG 2 X.A) (tk : Takes X Wx) (he : PE X e (tM G Wx fe)) (hc : X.calm = true := by rfl) (hg : Gl X c := by rfl) (hdb : (c == ("__debug__" : Str)) = false := by decide)
    (hpx : Passes (L2.CX X.prog X.w) X (fun _ _ _ => False)) (na : starEach [e] X.env = (false, eval e X.env) :: starEach [] X.env := by rfl) : PS X (.Raise (some (.Call (.Name c p) [e] [] pos)) none pos2) (tS G Wx (raiseS c fe)) := by
  obtain ⟨fI, fd, ps, h1, h2, h3, h4⟩ := O.ini
  refine (ps_raise hc tk (pmk_oex (ds := []) (dvs := []) O.T h1 h2 h3 hr.rm h4 .nil hpx hg O.mg (pa_cons he pa_nil na) hdb na (by rfl))).imp fun D σ H ⟨W, S, ρ, s, r, q⟩ => ⟨W, S, ρ, s, r, q.bind r fun d S1 v W1 H1 x1 s1 q1 k1 => ⟨by show 1 ≤ 1000; decide, fun a ha => ?_⟩⟩
  refine ⟨a, G.cls c, v, rfl, O.T, O.nf, upd_same, fun dx hdx hne => ⟨rfl, dx, _, upd_same, by rw [upd_ne hne, upd_same], by rw [upd_ne hne] at hdx; exact hdx, ?_⟩⟩
  have hdx1 : H1 dx = none := by rw [upd_ne hne] at hdx; exact hdx
  have eH : upd (del (upd (upd (upd H1 a (exo a (G.cls c) none)) dx (exd dx [(f, v)])) a (exo a (G.cls c) (some dx))) a) dx (.xd [(f, v)]) = upd H1 dx (.xd [(f, v)]) := by
    funext b
    by_cases e1 : b = dx
    · subst e1; rw [upd_same, upd_same]
    · rw [upd_ne e1, upd_ne e1]
      by_cases e2 : b = a
      · subst e2; rw [del_same, ha]
      · rw [del_ne e2, upd_ne e2, upd_ne e1, upd_ne e2]
  rw [eH]
  obtain ⟨x2, s2⟩ := Ext.frz s1 (o := .xd [(f, v)]) hdx1
  refine k1 (.ref (G.cls c)) (some dx) σ _ _ x2 s2 (r.mono (x1.le.trans x2.le)) ⟨rfl, v, ?_, q1.mono x2.le⟩
  unfold XDict
  rw [O.xf]
  exact ⟨dx, rfl, frz_same⟩
end

/-! ### try .. except X as n -/
def wipeRS (i : Nat) : RS → RS
  | .nx ρ S => .nx (ρ.set i none) S
  | .bk ρ S => .bk (ρ.set i none) S
  | .ct ρ S => .ct (ρ.set i none) S
  | .rt d S => .rt d S
  | _ => .bad
abbrev Hd := Addr → Option Addr → Str → MS
def tryAsS (mat : Str → Option Bool) (i : Nat) (f : MS) (g : Hd) : MS := fun ρ S => match f ρ S with
  | .exc c d ρ1 S1 => match mat c with
    | some true => wipeRS i (g 0 none c (ρ1.set i (some (.exc 0 none c d))) S1)
    | some false => .exc c d ρ1 S1
    | none => .bad
  | .nx ρ S => .nx ρ S
  | .bk ρ S => .bk ρ S
  | .ct ρ S => .ct ρ S
  | .rt d S => .rt d S
  | .bad => .bad
/-- .. and without a name -/
def tryS (mat : Str → Option Bool) (f : MS) (g : MS) : MS := fun ρ S => match f ρ S with
  | .exc c d ρ1 S1 => match mat c with
    | some true => g ρ1 S1
    | some false => .exc c d ρ1 S1
    | none => .bad
  | .nx ρ S => .nx ρ S
  | .bk ρ S => .bk ρ S
  | .ct ρ S => .ct ρ S
  | .rt d S => .rt d S
  | .bad => .bad
section
variable {X : Cx} {G : Gc} {Wx : WX} {x n : Str} {C : Str} {i : Nat} {body suite : List Stmt} {b₀ : Stmt} {np pos pos' : Pos} {f : MS} {g : Hd} {mat : Str → Option Bool}
theorem AftS.wipe {W : Wd} {H : Hp} {r : RS} {D : Ends} (h : AftS G Wx W H (wipeRS i r) D) : AftS G WN W H r { nx := fun σ' H' => D.nx (σ'.set i none) H', rt := D.rt, bk := fun σ' H' => D.bk (σ'.set i none) H', ct := fun σ' H' => D.ct (σ'.set i none) H' } := by
  cases r with
  | nx ρ S => exact fun σ W' H' x s e => h _ W' H' x s (e.none i)
  | rt d S => exact h
  | bk ρ S => exact fun σ W' H' x s e => h _ W' H' x s (e.none i)
  | ct ρ S => exact fun σ W' H' x s e => h _ W' H' x s (e.none i)
  | exc c d ρ S => exact h.elim
  | bad => exact h
theorem PSs.ex {X : Cx} {sts : List Stmt} {α : Sort _} {t : α → TS} (h : ∀ a, PSs X sts (t a)) : PSs X sts (fun D σ H => ∃ a, t a D σ H) := ⟨fun pins s σ H D I ⟨a, q⟩ => (h a).run pins s σ H D I q⟩
theorem PSs.and {X : Cx} {sts : List Stmt} {p : Prop} {t : TS} (h : p → PSs X sts t) : PSs X sts (fun D σ H => p ∧ t D σ H) := ⟨fun pins s σ H D I ⟨a, q⟩ => (h a).run pins s σ H D I q⟩
theorem psd_try_as (hN : X.N.Nodup) (hc : Names X x (.ref (G.cls C))) (hm : ∀ c b, mat c = some b → PySem.W.exmOne X.K (.ref (G.cls c)) (.ref (G.cls C)) = some b) (tk : Takes X Wx)
    (hb : ∀ (W : WX) (pn : List (Addr × Obj)) (xe : Value → Shared → Prop), Takes (X.tr pn xe) W → PassesOwn (model X.prog X.w) X.A X.env xe → PSs (X.tr pn xe) body (tS G W f))
    (hsu : ∀ (a : Addr) (oe : Obj) (c : Str) (dx : Option Addr) (pn : List (Addr × Obj)), mat c = some true → Zc (.ref (G.cls c)) dx oe → (∃ vs, oe.data = .fields vs) → PSs (X.suite a ((a, oe) :: pn)) (b₀ :: suite) (tS G WN (g a dx c)))
    (hind : ∀ (a : Addr) (dx : Option Addr) (c : Str) (d : Da) (ρ : En) (S : Store), wipeRS i (g a dx c (ρ.set i (some (.exc a dx c d))) S) = wipeRS i (g 0 none c (ρ.set i (some (.exc 0 none c d))) S))
    (hs : X.stack = X.env :: X.outer := by rfl) (hf : X.env.frame = some X.env.locals := by rfl) (hi : X.N[i]? = some n := by rfl) (hln : X.env.kindOf n = some .local := by rfl) :
    PS X (.Try body [.ExceptHandler (some (.Name x np)) (some n) (b₀ :: suite) pos'] [] [] pos) (tS G Wx (tryAsS mat i f g)) := by
  refine (ps_try_as (ts := fun a cls dx D σ H => ∃ c : Str, (mat c = some true ∧ cls = .ref (G.cls c)) ∧ tS G WN (g a dx c) D σ H) (tb := fun W => tS G W f) hs hf hN hi hln hc tk hb ?_).imp ?_
  · intro a oe cls dx pn hz hfl
    refine PSs.ex fun c => PSs.and fun ⟨h1, h2⟩ => ?_
    subst h2
    exact hsu a oe c dx pn h1 hz hfl
  · rintro D σ H ⟨W, S, ρ, s, r, q⟩
    refine ⟨W, S, ρ, s, r, ?_⟩
    unfold tryAsS at q
    revert q
    cases f ρ S with
    | nx ρ1 S1 => exact fun q => q
    | rt d S1 => exact fun q => q
    | bk ρ1 S1 => exact fun q => q
    | ct ρ1 S1 => exact fun q => q
    | bad => exact fun q => q
    | exc c d ρ1 S1 =>
      intro q cls dx σ1 W1 H1 x1 s1 r1 xr
      obtain ⟨ec, u, xd, rd⟩ := xr
      subst ec
      have q := q.later x1
      dsimp only at q
      cases em : mat c with
      | none => rw [em] at q; exact q.elim
      | some b =>
        rw [em] at q
        refine ⟨b, hm c b em, fun eb a ha => ?_, fun eb => ?_⟩
        · subst eb
          refine ⟨c, ⟨em, rfl⟩, W1, S1, ρ1.set i (some (.exc a dx c d)), s1, r1.set (by rw [Rep]; exact ⟨rfl, u, xd, rd⟩), ?_⟩
          refine AftS.wipe (Wx := Wx) ?_
          rw [hind]
          exact q
        · subst eb
          exact q _ _ σ1 W1 H1 (.refl _ _) s1 r1 ⟨rfl, u, xd, rd⟩
end

/-! ### in the suite -/
def isXM (a : Addr) (dx : Option Addr) (c : Str) (i : Nat) (t : Option Bool) : M Da := fun ρ S => match ρ[i]? with
  | some (some (.exc a' dx' c' _)) => if a' = a ∧ dx' = dx ∧ c' = c then ofO (t.map Da.bl) S else .bad
  | _ => .bad
def xfM (a : Addr) (dx : Option Addr) (c : Str) (i : Nat) (t : Bool) : M Da := fun ρ S => match ρ[i]? with
  | some (some (.exc a' dx' c' d)) => if a' = a ∧ dx' = dx ∧ c' = c ∧ t = true then .ok d S else .bad
  | _ => .bad
section
variable {X : Cx} {G : Gc} {Wx : WX} {a : Addr} {dx : Option Addr} {c : Str} {i : Nat} {oe : Obj} {pn : List (Addr × Obj)} {n f : Str} {p p1 p2 pos : Pos}
theorem rep_exc {W : Wd} {d : Da} {v : V} (r : Rep G W (.exc a dx c d) v) : v = .ref a ∧ ∃ u, XDict G W dx c d u ∧ Rep G W d u := by rw [Rep] at r; exact r
theorem pe_varX (hN : X.N[i]? = some n) (hv : Vis X.env.scope n) (hd : (n == ("__debug__" : Str)) = false) (hcd : (n == ("__classdict__" : Str)) = false) : PE X (.Name n pos) (tM G Wx (varM i)) := pd_var i hN hv hd hcd
theorem pd_isX {y : Str} {cv : Value} {yv : V} {t : Option Bool} (hcE : ExcC X.K (G.cls c)) (hz : Zc (.ref (G.cls c)) dx oe) (hf : ∃ vs, oe.data = .fields vs)
    (hy : PE (X.suite a ((a, oe) :: pn)) (.Name y p2) (tC yv)) (hyv : ClsV yv cv) (ht : ∀ b, t = some b → PySem.W.kitOne X.K (.ref (G.cls c)) cv = some b) (hm : X.mg "isinstance" = none)
    (hN : X.N[i]? = some n := by rfl) (hv : Vis X.env.scope n := by first | exact Or.inl rfl | exact Or.inr (Or.inl rfl) | exact Or.inr (Or.inr rfl)) (hd : (n == ("__debug__" : Str)) = false := by decide)
    (hcd : (n == ("__classdict__" : Str)) = false := by decide) (hg : Gl X "isinstance" := by rfl)
    (hs : starEach [.Name n p1, .Name y p2] X.env = (false, eval (.Name n p1) X.env) :: starEach [.Name y p2] X.env := by rfl) (hpl : (backTo pos (starEach [.Name y p2] X.env)).any (·.1) = false := by rfl) (hs2 : starEach [.Name y p2] X.env = (false, eval (.Name y p2) X.env) :: starEach [] X.env := by rfl) :
    PE (X.suite a ((a, oe) :: pn)) (.Call (.Name "isinstance" p) [.Name n p1, .Name y p2] [] pos) (tM G Wx (isXM a dx c i t)) :=
  (pe_callB (call_isX hcE hz hf) hg hm (by decide +kernel) (pa_cons (pe_var (X := X.suite a ((a, oe) :: pn)) hN hv hd hcd) (pa_cons hy pa_nil hs2) hs) (by decide) (by decide) hs hpl).imp fun σ H Q ⟨W, S, ρ, s, r, q⟩ => by
    unfold isXM at q
    cases z : ρ[i]? with
    | none => rw [z] at q; exact q.elim
    | some o =>
      rw [z] at q
      cases o with
      | none => exact q.elim
      | some d =>
        cases d with
        | exc a' dx' c' d =>
          replace q : Aft (RV G) G Wx σ W H (if a' = a ∧ dx' = dx ∧ c' = c then ofO (t.map Da.bl) S else .bad) Q := q
          by_cases hh : a' = a ∧ dx' = dx ∧ c' = c
          · rw [if_pos hh] at q
            obtain ⟨rfl, rfl, rfl⟩ := hh
            obtain ⟨v, hv, rv⟩ := r.at' i _ z
            obtain ⟨rfl, u, xd, _⟩ := rep_exc rv
            cases t with
            | none => exact q.elim
            | some b =>
              refine ⟨_, hv, yv, cv, b, rfl, hyv, ht b rfl, ?_, q.here s (repB W _)⟩
              unfold XDict at xd
              split at xd
              · exact .inl xd.1
              · obtain ⟨dd, e1, e2⟩ := xd
                exact .inr ⟨dd, _, e1, s.sub _ _ e2⟩
          · rw [if_neg hh] at q; exact q.elim
        | _ => exact q.elim
theorem pd_xf {t : Bool} (hX : XfC X.K (G.cls c)) (hz : Zc (.ref (G.cls c)) dx oe) (hf : ∃ vs, oe.data = .fields vs) (ht : t = true → G.xf c = some f ∧ PySem.W.findIn X.K (.ref (G.cls c)) f = some none)
    (hno : PySem.W.findIn X.K (.ref (G.cls c)) f = some none)
    (hN : X.N[i]? = some n := by rfl) (hv : Vis X.env.scope n := by first | exact Or.inl rfl | exact Or.inr (Or.inl rfl) | exact Or.inr (Or.inr rfl)) (hd : (n == ("__debug__" : Str)) = false := by decide)
    (hcd : (n == ("__classdict__" : Str)) = false := by decide) (hb : attributeBase (.Name n p1) f X.env (eval (.Name n p1) X.env) = eval (.Name n p1) X.env := by rfl) :
    PE (X.suite a ((a, oe) :: pn)) (.Attribute (.Name n p1) f pos) (tM G Wx (xfM a dx c i t)) :=
  (pe_xf (d := dx) hX hno hz hf (pe_var (X := X.suite a ((a, oe) :: pn)) hN hv hd hcd) hb).imp fun σ H Q ⟨W, S, ρ, s, r, q⟩ => by
    unfold xfM at q
    cases z : ρ[i]? with
    | none => rw [z] at q; exact q.elim
    | some o =>
      rw [z] at q
      cases o with
      | none => exact q.elim
      | some d =>
        cases d with
        | exc a' dx' c' d =>
          replace q : Aft (RV G) G Wx σ W H (if a' = a ∧ dx' = dx ∧ c' = c ∧ t = true then .ok d S else .bad) Q := q
          by_cases hh : a' = a ∧ dx' = dx ∧ c' = c ∧ t = true
          · rw [if_pos hh] at q
            obtain ⟨rfl, rfl, rfl, et⟩ := hh
            obtain ⟨v, hv, rv⟩ := r.at' i _ z
            obtain ⟨rfl, u, xd, rd⟩ := rep_exc rv
            unfold XDict at xd
            rw [(ht et).1] at xd
            obtain ⟨dd, e1, e2⟩ := xd
            exact ⟨_, hv, rfl, rfl, dd, _, u, e1, s.sub _ _ e2, by simp [List.lookup], q.here s rd⟩
          · rw [if_neg hh] at q; exact q.elim
        | _ => exact q.elim
end
end NL

set_option Elab.async false
set_option linter.all false
set_option maxRecDepth 100000
set_option maxHeartbeats 4100000
namespace NL
open PySem PySem.Spec PyProof.Rows L2

/-! ### a written dict of the module, text keys, int values -/
def entOk (P : Params) : List DictEntry → List (Str × Int) → Prop
  | [], [] => True
  | e :: r, kv :: s => ((∃ t, e.key = .str kv.1 t) ∧ (∃ u, e.val = .int kv.2 u) ∧ e.hash = PyData.keyHash P kv.1) ∧ entOk P r s
  | _, _ => False
structure DctOk (K : PySem.W.Frag) (w : World) (mg : Str → Option Value) (x : Str) (kvs : List (Str × Int)) : Prop where
  ex : ∃ d es n, mg x = some (.ref d) ∧ KDict K w d es n ∧ entOk w.params es.toList kvs
theorem entOk.lit {P : Params} : ∀ {l : List DictEntry} {kvs : List (Str × Int)}, entOk P l kvs → PySem.W.KeysLit P l
  | [], [], _ => trivial
  | e :: r, (k, v) :: s, h => by
    obtain ⟨⟨⟨t, h1⟩, _, h2⟩, h3⟩ := h
    exact ⟨⟨k, t, h1, h2⟩, h3.lit⟩
theorem DctOk.of {K : PySem.W.Frag} {w : World} {mg : Str → Option Value} {x : Str} {d : Addr} {es : Array DictEntry} {n : Nat} {kvs : List (Str × Int)} (hm : mg x = some (.ref d)) (hl : K.lookup d = some ⟨.type "dict", none, .dict es n, #[]⟩) (hn : (d == sysModules) = false) (h : entOk w.params es.toList kvs) : DctOk K w mg x kvs :=
  ⟨d, es, n, hm, ⟨hl, h.lit, hn⟩, h⟩
theorem ent_find {P : Params} {z : Str} : ∀ {l : List DictEntry} {kvs : List (Str × Int)}, entOk P l kvs → ∃ r, (match l.find? (·.key.isStr z) with
      | some e => some (some e.val)
      | none => if l.any (·.refKey) then none else some none) = some r ∧ match kvs.lookup z with | some i => ∃ t, r = some (.int i t) | none => r = none
  | [], [], _ => ⟨none, rfl, rfl⟩
  | e :: r, (k, v) :: s, h => by
    obtain ⟨⟨⟨t, h1⟩, ⟨u, h2⟩, _⟩, h3⟩ := h
    obtain ⟨o, e1, e2⟩ := ent_find (z := z) h3
    have ek : e.key.isStr z = (k == z) := by rw [h1]; rfl
    have er : e.refKey = false := by unfold DictEntry.refKey; rw [h1]
    rw [List.find?_cons, List.any_cons, List.lookup_cons, ek, er]
    by_cases c : k = z
    · subst c
      simp only [beq_self_eq_true]
      exact ⟨_, rfl, u, by rw [h2]⟩
    · have c1 : (k == z) = false := by simpa using c
      have c2 : (z == k) = false := by simpa using Ne.symm c
      rw [c1, c2]
      simp only [Bool.false_or]
      exact ⟨o, e1, e2⟩
theorem dct_at {K : PySem.W.Frag} {w : World} {d : Addr} {es : Array DictEntry} {n : Nat} {kvs : List (Str × Int)} (D : KDict K w d es n) (h : entOk w.params es.toList kvs) (z : Str) :
    ∃ r, PySem.W.nsIn K d z = some r ∧ match kvs.lookup z with | some i => ∃ t, r = some (.int i t) | none => r = none := by
  unfold PySem.W.nsIn
  rw [D.at_]
  exact ent_find h
section
variable {X : Cx} {G : Gc} {Wx : WX} {e : Expr} {f : M Da} {x : Str} {kvs : List (Str × Int)} {p pos : Pos}
def inDctM (kvs : List (Str × Int)) (f : M Da) : M Da := fun ρ S => (f ρ S).bind fun d S1 => match d with
  | .str z => .ok (.bl (kvs.lookup z).isSome) S1
  | _ => .bad
def ixDctM (kvs : List (Str × Int)) (f : M Da) : M Da := fun ρ S => (f ρ S).bind fun d S1 => match d with
  | .str z => ofO ((kvs.lookup z).map Da.int) S1
  | _ => .bad
theorem pd_inDct (D : DctOk X.K X.w X.mg x kvs) (he : PE X e (tM G Wx f)) (hg : Gl X x := by rfl) (hd : (x == ("__debug__" : Str)) = false := by decide) (hm : behindInMarks .In (.Name x p) = false := by first | exact nobehind _ (by decide) (by decide) | rfl) :
    PE X (.Compare e [.In] [.Name x p] pos) (tM G Wx (inDctM kvs f)) := by
  obtain ⟨d, es, n, h1, h2, h3⟩ := D.ex
  refine (pe_cmpR (op_in_kd h2) he (pe_glob (v := .ref d) hg h1 rfl hd) hm).imp fun σ H Q ⟨W, S, ρ, s, r, q⟩ => ⟨W, S, ρ, s, r, q.bind fun a S1 v W1 H1 x1 s1 q1 k1 => ?_⟩
  cases a with
  | str z =>
    obtain ⟨r, e1, e2⟩ := dct_at h2 h3 z
    refine ⟨z, r, q1.str_inv, rfl, e1, ?_⟩
    have k1 : Aft (RV G) G Wx σ W1 H1 (.ok (.bl (kvs.lookup z).isSome) S1) Q := k1
    have eb : r.isSome = (kvs.lookup z).isSome := by
      cases hz : kvs.lookup z with
      | none => rw [hz] at e2; rw [e2]; rfl
      | some i => rw [hz] at e2; obtain ⟨t, e2⟩ := e2; rw [e2]; rfl
    rw [eb]
    exact k1.here s1 (repB W1 _)
  | _ => exact k1.elim
theorem pd_ixDct (D : DctOk X.K X.w X.mg x kvs) (he : PE X e (tM G Wx f)) (hg : Gl X x := by rfl) (hd : (x == ("__debug__" : Str)) = false := by decide) (hs : PlainIx e := by exact fun _ _ => rfl) :
    PE X (.Subscript (.Name x p) e pos) (tM G Wx (ixDctM kvs f)) := by
  obtain ⟨d, es, n, h1, h2, h3⟩ := D.ex
  refine (pe_ix ix_kdict (pe_glob (v := .ref d) hg h1 rfl hd) he hs).imp fun σ H Q ⟨W, S, ρ, s, r, q⟩ => ?_
  refine ⟨W, S, ρ, s, r, q.bind fun a S1 v W1 H1 x1 s1 q1 k1 => ?_⟩
  cases a with
  | str z =>
    have k1 : Aft (RV G) G Wx σ W1 H1 (ofO ((kvs.lookup z).map Da.int) S1) Q := k1
    obtain ⟨r, e1, e2⟩ := dct_at h2 h3 z
    cases hz : kvs.lookup z with
    | none => rw [hz] at k1; exact k1.elim
    | some i =>
      rw [hz] at e2 k1
      obtain ⟨t, e2⟩ := e2
      subst e2
      exact ⟨d, z, .int i, rfl, q1.str_inv, ⟨es, n, _, h2.at_, h2.lit, e1, t, rfl⟩, k1.here s1 (repI W1 _)⟩
  | _ => exact k1.elim

/-! ### a constant of the module: text or int -/
theorem pd_gstr {z : Str} {t : Tok} (hm : X.mg x = some (.str z t)) (hg : Gl X x := by rfl) (hd : (x == ("__debug__" : Str)) = false := by decide) : PE X (.Name x pos) (tM G Wx (cM (.str z))) :=
  (pe_glob (v := .str z) hg hm ⟨t, rfl⟩ hd).imp fun σ H Q h => tR_c (R := RV G) h fun W => repS W z
theorem pd_gint {z : Int} {t : Tok} (hm : X.mg x = some (.int z t)) (hg : Gl X x := by rfl) (hd : (x == ("__debug__" : Str)) = false := by decide) : PE X (.Name x pos) (tM G Wx (cM (.int z))) :=
  (pe_glob (v := .int z) hg hm ⟨t, rfl⟩ hd).imp fun σ H Q h => tR_c (R := RV G) h fun W => repI W z

/-! ### repr of an int -/
def reprID : List Da → Store → Option Da := fun l _ => match l with
  | [.int i] => if i.natAbs < 340282366920938463463374607431768211456 then some (.str (toString i)) else none
  | _ => none
theorem log2_small {n : Nat} (h : n < 340282366920938463463374607431768211456) : n.log2 < 1920 := by
  by_cases z : n = 0
  · subst z; decide
  · have h2 : n.log2 < 128 := (Nat.log2_lt z).mpr (by omega)
    omega
theorem cr_reprI : CallR X (.builtin "repr") (rdn G reprID) := L2.CallR.imp SkE.call_repr_int fun xs H Q ⟨W, S, l, s, r, q⟩ => by
  unfold reprID at q
  split at q
  · rename_i i
    obtain ⟨v, rfl, rv⟩ := r.one
    by_cases h : i.natAbs < 340282366920938463463374607431768211456
    · rw [if_pos h] at q
      exact ⟨i, by rw [rv.int_inv], log2_small h, q.here s (repS W _)⟩
    · rw [if_neg h] at q; exact q.elim
  · exact q.elim
end
end NL

set_option Elab.async false
set_option linter.all false
set_option maxRecDepth 100000
set_option maxHeartbeats 4100000
namespace NL
open PySem PySem.Spec PyProof.Rows L2

/-! ### what is known of a def, a method, a class, a field, all in one -/
section
variable (P : Program) (w : World) (K : PySem.W.Frag) (mg : Str → Option Value) (base : Heap) (G : Gc)
structure CallOk (x : Str) (k n : Nat) (mf : Mf) : Prop where
  ex : ∃ f fd ps, FnG P w K mg base k f fd ps (spM G n mf) ∧ mg x = some (.ref f) ∧ PySem.W.keepIn K (.ref f) = true ∧ Binds K fd ps []
structure MethOk (c m : Str) (k n : Nat) (mf : Mf) : Prop where
  ex : ∃ f fd ps, FnG P w K mg base k f fd ps (spM G n mf) ∧ Cls K (G.cls c) ∧ Meth K (G.cls c) m f ∧ Binds K fd ps []
structure MakeOk (c : Str) (k n : Nat) (mf : Mf) : Prop where
  ex : ∃ f fd ps, FnG P w K mg base k f fd ps (spM G n mf) ∧ Mk K (G.cls c) f ∧ mg c = some (.ref (G.cls c)) ∧ Binds K fd ps []
end
structure FldOk (K : PySem.W.Frag) (G : Gc) (c f : Str) : Prop where
  cl : Cls K (G.cls c)
  na : NoAttr K (G.cls c) f
theorem hu64 {A : Around} {k : Nat} (hr : RoomG k A) : A.units + 64 < cLine := hr.rm.units
theorem passX0 {X : Cx} : Passes (L2.CX X.prog X.w) X (fun _ _ _ => False) := passes_call takes0 fun _ _ _ _ h => h
section
variable {X : Cx} {G : Gc} {Wx : WX} {k n : Nat} {x m c f : Str} {p pos apos : Pos} {e o : Expr} {es : List Expr} {fo fe : M Da} {t : M (List Da)} {mf : Mf}
theorem pdc_call (C : CallOk X.prog X.w X.K X.mg X.base G x k n mf) (hr : RoomG k X.A) (tk : Takes X Wx) (ha : PA X (e :: es) (tMs G Wx t)) (hg : Gl X x := by rfl) (hdb : (x == ("__debug__" : Str)) = false := by decide)
    (he : Arg1 X e es := by rfl) (hpl : NoSt X pos es := by rfl) :
    PE X (.Call (.Name x p) (e :: es) [] pos) (tM G Wx (callF n mf t)) := by
  obtain ⟨f, fd, ps, F, hm, hk, hb⟩ := C.ex
  exact pd_call F hr tk hm hk hb ha hg hdb he hpl
theorem pdc_meth {pl : Sem Bool} (C : MethOk X.prog X.w X.K X.mg X.base G c m k n mf) (hr : RoomG k X.A) (tk : Takes X Wx) (he : PE X o (tM G Wx fo)) (ha : PA X (e :: es) (tMs G Wx t))
    (hst : Arg1 X e es := by rfl) (hpl : NoSt X pos es := by rfl)
    (ht : MethEq X o m apos pos (e :: es) pl := by rfl) :
    PE X (.Call (.Attribute o m apos) (e :: es) [] pos) (tM G Wx (methF c m n mf fo t)) := by
  obtain ⟨f, fd, ps, F, cl, hm, hb⟩ := C.ex
  exact pd_meth he cl hm F hr tk hb ha hst hpl ht
theorem pdc_meth0 {pl : Sem Bool} (C : MethOk X.prog X.w X.K X.mg X.base G c m k n mf) (hr : RoomG k X.A) (tk : Takes X Wx) (he : PE X o (tM G Wx fo))
    (ht : MethEq X o m apos pos [] pl := by rfl) :
    PE X (.Call (.Attribute o m apos) [] [] pos) (tM G Wx (methF c m n mf fo nilM)) := by
  obtain ⟨f, fd, ps, F, cl, hm, hb⟩ := C.ex
  exact pd_meth0 he cl hm F hr tk hb ht
theorem pdc_make (C : MakeOk X.prog X.w X.K X.mg X.base G c k n mf) (hr : RoomG (k + 1) X.A) (tk : Takes X Wx) (ha : PA X (e :: es) (tMs G Wx t)) (hg : Gl X c := by rfl) (hdb : (c == ("__debug__" : Str)) = false := by decide)
    (he : Arg1 X e es := by rfl) (hpl : NoSt X pos es := by rfl) :
    PE X (.Call (.Name c p) (e :: es) [] pos) (tM G Wx (makeF c n mf t)) := by
  obtain ⟨f, fd, ps, F, mk, hm, hb⟩ := C.ex
  exact pd_make mk F hr tk hm hb ha hg hdb he hpl
theorem pdc_fld (C : FldOk X.K G c f) (he : PE X e (tM G Wx fo)) (hb : attributeBase e f X.env (eval e X.env) = eval e X.env := by rfl) : PE X (.Attribute e f pos) (tM G Wx (fldM c f fo)) := pd_fld he C.cl C.na hb
theorem psdc_fld {value : Expr} {pos' : Pos} (C : FldOk X.K G c f) (he : PE X o (tM G Wx fo)) (hv : PE X value (tM G Wx fe)) (hs : swapsWith value (some (.Attribute o f pos')) pos.line X.env = pure false := by rfl) :
    PS X (.Assign [.Attribute o f pos'] value pos) (tS G Wx (setFS c f fo fe)) := psd_fld he hv C.cl C.na hs
end
/-- a def keeps its promise: its mirror by name -/
theorem defk {P : Program} {w : World} {mg : Str → Option Value} {base : Heap} {G : Gc} {x qual : Str} {st : Stmt} {f : Addr} {fd : FuncData} {N ps : List Str} (k n nn : Nat) (m : Mf) (body : MS) (hm : m = defM nn body) (hN : N.length = nn) (hn : ps.length = n) (F : Fun G.K x qual st f fd) (S : FnScope N ps (defScope st))
    (hb : ∀ (cdv : Value) (A : Around) (outer : List Env) (s : Shared) (H : Hp) (E : XK), RoomG k (A.deeper (envOfC qual (defScope st) s.heap.objs.size f cdv)) →
      PSs (cxOf (L2.CX P w) P w G.K mg base N qual (defScope st) f cdv A outer s H E) (defBody st) (tS G (fun cls dx _ H => E cls dx H) body)) : FnG P w G.K mg base (k + 1) f fd ps (spM G n m) := by
  subst hm hN hn
  exact def_ok F S rfl hb
/-! ### classes by name -/
def matOf (yes no : List Str) : Str → Option Bool := fun c => if yes.contains c = true then some true else if no.contains c = true then some false else none
theorem matOf_ok {R : Str → Bool → Prop} {yes no : List Str} (hy : ∀ c ∈ yes, R c true) (hn : ∀ c ∈ no, R c false) : ∀ c b, matOf yes no c = some b → R c b := fun c b h => by
  unfold matOf at h
  split at h
  · rename_i q; cases h; exact hy c (by simpa using q)
  · split at h
    · rename_i q; cases h; exact hn c (by simpa using q)
    · cases h
theorem matOf_yes {R : Str → Prop} {yes no : List Str} (hy : ∀ c ∈ yes, R c) : ∀ c, matOf yes no c = some true → R c := fun c h => by
  unfold matOf at h
  split at h
  · rename_i q; exact hy c (by simpa using q)
  · split at h <;> cases h
theorem allIn_nil {R : Str → Prop} : ∀ c ∈ ([] : List Str), R c := fun c h => by cases h
theorem allIn_cons {R : Str → Prop} {x : Str} {l : List Str} (h : R x) (t : ∀ c ∈ l, R c) : ∀ c ∈ x :: l, R c := fun c m => by
  rcases List.mem_cons.1 m with e | e
  · rw [e]; exact h
  · exact t c e
theorem pd_gstrE {X : Cx} {G : Gc} {Wx : WX} {x z : Str} {pos : Pos} (hm : ∃ t, X.mg x = some (.str z t)) (hg : Gl X x := by rfl) (hd : (x == ("__debug__" : Str)) = false := by decide) : PE X (.Name x pos) (tM G Wx (cM (.str z))) := by
  obtain ⟨t, hm⟩ := hm
  exact pd_gstr hm hg hd
theorem pd_gintE {X : Cx} {G : Gc} {Wx : WX} {x : Str} {z : Int} {pos : Pos} (hm : ∃ t, X.mg x = some (.int z t)) (hg : Gl X x := by rfl) (hd : (x == ("__debug__" : Str)) = false := by decide) : PE X (.Name x pos) (tM G Wx (cM (.int z))) := by
  obtain ⟨t, hm⟩ := hm
  exact pd_gint hm hg hd
theorem hasIn {R : Str → Prop} {l : List Str} (h : ∀ c ∈ l, R c) : ∀ c, l.contains c = true → R c := fun c q => h c (by simpa using q)
theorem kit_ref {K : PySem.W.Frag} {C D : Addr} {b : Bool} (hd : PySem.W.hasDictIn K C = true) (ht : PySem.W.typeIn K (.ref C) = some (.type "type")) (hs : PySem.W.subIn K (.ref C) (.ref C) = some true) (h : PySem.W.subIn K (.ref D) (.ref C) = some b) :
    PySem.W.kitOne K (.ref D) (.ref C) = some b := by
  unfold PySem.W.kitOne
  by_cases e : (Value.ref D == Value.ref C) = true
  · rw [if_pos e]
    have e2 : Value.ref D = Value.ref C := beq_iff_eq.mp e
    rw [e2, hs] at h
    exact h
  · rw [if_neg e]
    obtain ⟨cd, hc, _⟩ := PySem.W.any_some hd
    have e2 : ((PySem.W.clsIn K C).isSome && PySem.W.typeIn K (.ref C) == some (.type "type")) = true := by rw [hc, ht] <;> rfl
    show (if ((PySem.W.clsIn K C).isSome && PySem.W.typeIn K (.ref C) == some (.type "type")) = true then PySem.W.subIn K (.ref D) (.ref C) else none) = some b
    rw [if_pos e2]
    exact h
theorem kit_type {K : PySem.W.Frag} {D : Addr} {T : String} {b : Bool} (hT : PySem.W.kitMeta T = true) (h : PySem.W.subIn K (.ref D) (.type T) = some b) : PySem.W.kitOne K (.ref D) (.type T) = some b := by
  have e : (Value.ref D == Value.type T) = false := by rfl
  unfold PySem.W.kitOne
  rw [if_neg (by rw [e]; decide)]
  show (if PySem.W.kitMeta T = true then PySem.W.subIn K (.ref D) (.type T) else none) = some b
  rw [if_pos hT]
  exact h
/-! ### the suite's answers hang on no address -/
theorem isXM_at {a : Addr} {dx : Option Addr} {c : Str} {d : Da} {i : Nat} {t : Option Bool} {ρ : En} {S : Store} : isXM a dx c i t (ρ.set i (some (.exc a dx c d))) S = if i < ρ.length then ofO (t.map Da.bl) S else .bad := by
  unfold isXM
  by_cases h : i < ρ.length
  · rw [List.getElem?_set_self h, if_pos h]
    simp
  · rw [List.getElem?_eq_none (by simpa using h), if_neg h]
theorem xfM_at {a : Addr} {dx : Option Addr} {c : Str} {d : Da} {i : Nat} {t : Bool} {ρ : En} {S : Store} : xfM a dx c i t (ρ.set i (some (.exc a dx c d))) S = if i < ρ.length then (if t = true then .ok d S else .bad) else .bad := by
  unfold xfM
  by_cases h : i < ρ.length
  · rw [List.getElem?_set_self h, if_pos h]
    simp
  · rw [List.getElem?_eq_none (by simpa using h), if_neg h]
/-! ### - -/
def negD : Da → Store → Option Da
  | .int i, _ => some (.int (-i))
  | _, _ => none
theorem ur_neg {X : Cx} {G : Gc} : UnR X (unaryOp .USub) (rd1 G negD) := fun pins s σ H x v Q I rx h => by
  obtain ⟨W, S, a, sr, r1, q⟩ := h
  unfold negD at q
  split at q
  · exact un_neg pins s σ H x v Q I rx ⟨_, r1.int_inv, q.here sr (repI W _)⟩
  · exact q.elim
/-- the law's end -/
theorem start_src {G : Gc} {H : Hp} {a : Addr} {ns : List Int} (h : SqL G.K H a (ns.map V.int)) (h0 : G.W0 = ⟨[], fun _ => none⟩) : SR G ⟨[], H⟩ H [] ∧ Reps G ⟨[], H⟩ [.src (ns.map Da.int)] [.ref a] := by
  refine ⟨⟨fun _ _ h => h, List.nodup_nil, rfl, fun j c h => by simp at h, (fun a h => by cases h), (by rw [h0]; exact ⟨fun j a h => by simp at h, fun a o h => nomatch h⟩)⟩, .cons ?_ .nil⟩
  rw [Rep]
  exact ⟨a, _, rfl, h, reps_ints ns⟩
theorem law_sp {G : Gc} {m : Mf} (hm : ∀ ns : List Int, ns.length ≤ 63 → ∃ S, m [.src (ns.map Da.int)] [] = .ok (.bl true) S) {H : Hp} {a : Addr} {ns : List Int} (hl : ns.length ≤ 63) (h : SqL G.K H a (ns.map V.int)) (h0 : G.W0 = ⟨[], fun _ => none⟩) :
    spM G 1 m [.ref a] H (fun v _ => v = .bl true) fun _ _ _ => False := by
  obtain ⟨s, r⟩ := start_src h h0
  refine ⟨rfl, _, _, _, s, r, ?_⟩
  obtain ⟨S, e⟩ := hm ns hl
  rw [e]
  exact fun b W' H' x s' r' => r'.bl_inv
end NL

set_option Elab.async false
set_option linter.all false
set_option maxRecDepth 100000
set_option maxHeartbeats 4100000
namespace NL
open PySem PySem.Spec PyProof.Rows L2

/-! ### the law's call, from a promise that is kept where no repr is under way -/
section
variable {P : Program} {w : World} {K : PySem.W.Frag} {mg mb : Str → Option Value} {k : Nat} {fa a : Addr} {fd : FuncData} {x : Str} {sp : Sp} {s₁ : Shared} {vs : List Value} {ns : List Int}
/-- the script alone is told, where it is none of the module's own objects -/
def onlyScript (K : PySem.W.Frag) (a : Addr) (o : Obj) (xs : List V) : Hp := fun b => if b = a ∧ (K.lookup a).isNone = true then some (.frz o (.lst xs)) else none
theorem onlyScript_some {o : Obj} {xs : List V} {b : Addr} {u : HO} (h : onlyScript K a o xs b = some u) : b = a ∧ K.lookup a = none ∧ u = .frz o (.lst xs) := by
  unfold onlyScript at h
  split at h
  · rename_i c
    cases h
    exact ⟨c.1, by simpa using c.2, rfl⟩
  · cases h
theorem call_law (KX : K.In s₁.heap) (hns : s₁.heap.Ns mainGlobals mg) (hb : s₁.heap.Ns builtinsNs mb) (hbb : ∀ x : Str, x ≠ "__name__" → mb x = bootBuiltins x) (hlim : s₁.heap.NoLimit) (hg : s₁.gens = #[])
    (ha : s₁.heap.get? a = some { cls := .type "list", data := .seq vs.toArray }) (hi : IntsAre vs ns) (hl : ns.length ≤ 63) (hr : RoomG k callerA)
    (F : ∀ base : Heap, K.In base → base.Ns mainGlobals mg → FnG P w K mg base k fa fd [x] sp) (hbind : ∀ (s : Shared) (u : Value), BindsTo s fd ⟨[u], []⟩ [(x, u)])
    (hsp : ∀ H : Hp, SqL K H a (ns.map V.int) → sp [.ref a] H (fun v _ => v = .bl true) fun _ _ _ => False) :
    codeAny (model P w) callerA (.call (.ref fa) ⟨[.ref a], []⟩) (fun r s2 => r = .ok (.ret (.bool true)) ∧ OldK s₁.heap s2.heap ∧ s2.os = s₁.os ∧ AllBare s2.gens) s₁ := by
  have rv := vals_ints hi
  have small : ns.length ≤ sizeLine := by rw [sizeLine_eq]; omega
  generalize ho : ({ cls := .type "list", data := .seq vs.toArray } : Obj) = o at ha
  generalize hH : onlyScript K a o (ns.map V.int) = H
  have told : ∀ {b u}, H b = some u → b = a ∧ K.lookup a = none ∧ u = .frz o (.lst (ns.map V.int)) := fun {b u} z => onlyScript_some (by rw [hH]; exact z)
  have script : SqL K H a (ns.map V.int) := by
    cases e : K.lookup a with
    | none => exact .inl (.inr ⟨o, by rw [← hH]; unfold onlyScript; rw [if_pos ⟨rfl, by rw [e]; rfl⟩]⟩)
    | some ob =>
      have z := (KX a ob e).symm.trans ha
      cases z
      subst ho
      exact .inr ⟨_, vs.toArray, _, e, rfl, rfl, rfl, by rw [List.size_toArray, hi.length]; exact small, by simpa using rv⟩
  have good : HOk P w H s₁.heap := fun b u z => by
    obtain ⟨rfl, _, rfl⟩ := told z
    subst ho
    exact ⟨ha, by rw [List.length_map]; exact small, vs, _, rv, ha⟩
  -- what has no list's data is in the base
  have base : ∀ {b : Addr} {ob : Obj}, s₁.heap.get? b = some ob → (b = a → ob = o → K.lookup a ≠ none) → (hidT s₁.heap H).get? b = some ob := fun {b ob} z nz => hidT_get z (by
    cases e : H b with
    | none => rfl
    | some u =>
      obtain ⟨rfl, q, _⟩ := told e
      rw [ha] at z
      exact absurd q (nz rfl (Option.some.inj z).symm))
  have space : ∀ {b : Addr} {m : Str → Option Value}, s₁.heap.Ns b m → (hidT s₁.heap H).Ns b m := fun {b m} ⟨ob, es, ep, e, d, r⟩ => ⟨ob, es, ep, base e (fun _ z => by subst z; subst ho; cases d), d, r⟩
  have inK : K.In (hidT s₁.heap H) := fun b ob e => base (KX b ob e) fun z _ => by subst z; rw [e]; exact fun q => nomatch q
  have e0 : Env0 P w K mg (hidT s₁.heap H) callerA [] s₁ H :=
    ⟨rfl, ⟨inK, space hns, ⟨mb, space hb, hbb⟩, by obtain ⟨mc, h1, h2⟩ := hlim; exact ⟨mc, space h1, h2⟩⟩, fun b ob e => of_hidT e, Nat.le_of_eq (hidT_size _ _), trivial, fun b hm => (by cases hm), good, .of_eq hg⟩
  refine codeAny_mono ((F _ inK (space hns)).run (us := [.ref a]) hr e0 (hbind s₁ (.ref a)) (vs := [.ref a]) (.cons rfl .nil) (hsp H script)) ?_
  rintro (er | fl) s2 h
  · obtain ⟨_, _, _, _, _, _, _, _, _, _, _, _, z⟩ := h
    exact z.elim
  · cases fl with
    | ret u =>
      obtain ⟨v, H', os, bare, un, good2, rr, q⟩ := h
      have q : v = .bl true := q
      subst q
      obtain rfl : u = Value.bool true := rr
      refine ⟨rfl, OldK.of_keep fun b ob e => ?_, os, bare⟩
      cases z : H b with
      | none => exact un.keep b ob e z (fun m => by cases m) (fun m => by cases m)
      | some t =>
        obtain ⟨rfl, _, rfl⟩ := told z
        rw [ha] at e; cases e
        exact (good2 b _ (un.frzs b o _ z)).1
    | _ => exact h.elim
end
theorem walkG {l : PySem.W.OpenLaw} {k : Nat} {m : Mf} (hm : ∀ ns : List Int, ns.length ≤ 63 → ∃ S, m [.src (ns.map Da.int)] [] = .ok (.bl true) S) {qq : Program} {loose : List Str} {XP : (Str → Option Value) → Heap → Prop} {YP : World → Heap → Prop} {d : DefRec} {K : Params → PySem.W.Frag}
    (hn : l.most = some 63) (hdf : d.params.defaults = []) (hr : RoomG k callerA) (hY : ∀ (w : World) (h : Heap), YP w h → (K w.params).In h)
    (F : ∀ (w : World) (mg : Str → Option Value) (fa : Addr) (h : Heap), (K w.params).In h → h.Ns mainGlobals mg → mg d.name = some (.ref fa) →
      ∃ fd : FuncData, (∀ (s : Shared) (u : Value), BindsTo s fd ⟨[u], []⟩ [("script", u)]) ∧ ∀ base : Heap, (K w.params).In base → base.Ns mainGlobals mg → FnG l.prog w (K w.params) mg base k fa fd ["script"] (fun vs H Q E => ∀ G : Gc, G.K = K w.params → G.W0 = ⟨[], fun _ => none⟩ → spM G 1 m vs H Q E)) :
    PySem.W.WalkO qq loose XP YP l.row.toRowW d [] (fun f vs => PySem.call f vs) := by
  refine Att.attach_call hn hdf fun w s₀ s₁ mg mb fa o pm cd doc a vs ns gr Y _ _ _ hmg hobj hints hlen hg => ?_
  have KX := hY w _ Y
  obtain ⟨fd, hb, hF⟩ := F w mg fa _ KX gr.T.g hmg
  exact call_law KX gr.T.g gr.T.b gr.T.builtins gr.T.nolimit hg hobj hints hlen hr hF hb fun H hS G hG h0 => law_sp hm hlen (by rw [hG]; exact hS) h0
end NL

set_option Elab.async false
set_option linter.all false
set_option maxRecDepth 100000
set_option maxHeartbeats 4100000
namespace PySem
open Sem (wp)
/-- enumerate(v), v told by how its iterator begins: the enumerate object and the iterator are new -/
theorem nl_enum1 {v : Value} {o : Obj} {H : Heap → Prop} (B : Begins v o H) :
    Meets (Builtin.«enumerate.__new__» ⟨[.type "enumerate", v], []⟩) (fun _ R s => H s.heap ∧
      R (.ok (.ret (.ref (s.heap.push o).objs.size))) { s with heap := (s.heap.push o).push { cls := .type "enumerate", data := .fields #[.none, .bool false, .ref s.heap.objs.size, rawInt 0, .none, .none] } }) := .of_wp fun prog w A R s hs => by
  rcases s with ⟨hp, g, d, tk, os⟩
  have go : ∀ {A' : Around} {E Q : Value → Shared → Prop}, Q (.ref hp.objs.size) ⟨hp.push o, g, d, tk, os⟩ → wpAny (model prog w) A' (pyIter v) Q E ⟨hp, g, d, tk, os⟩ := fun z => B.iter prog w _ _ ⟨hp, g, d, tk, os⟩ _ hs.1 z
  have S := sub_enumerate
  wp_walk using go
  apply wpAny_stack_any
  intro st
  apply wpAny_pure
  split
  · rename_i c _ _ _ _ _
    generalize (c == Value.type "enumerate") = t
    cases t <;> (wp_walk using go; exact ⟨_, rfl, hs.2⟩)
  · wp_walk using go; exact ⟨_, rfl, hs.2⟩
theorem nl_enum_tuple {prog : Program} {w : World} {A : Around} {E Q : Value → Shared → Prop} {s : Shared} {l : Addr} {items : Array Value} (hL : s.heap.IsTuple l items)
    (h : ∀ h2, IsEnum h2 (s.heap.objs.size + 1) s.heap.objs.size 0 .none → h2.IsTupleIter s.heap.objs.size l 0 → (∀ b o, s.heap.get? b = some o → h2.get? b = some o) → Q (.ref (s.heap.objs.size + 1)) { s with heap := h2 }) : wpAny (model prog w) A (call (.type "enumerate") [.ref l]) Q E s := by
  have B := begins_tuple l items
  refine callType_new F.called_enumerate (by decide) (F.typeCall_enumerate_1 _) (F.newCall_enumerate_1 _) (fun obj => F.args_object_init_2 obj _) F.entry_enumerate_new (nl_enum1 B) ⟨hL, ?_⟩
  generalize ho : ({ cls := .type "tuple_iterator", data := .fields #[.ref l, .int 0 0] } : Obj) = o at B
  generalize hu : ({ cls := .type "enumerate", data := .fields #[.none, .bool false, .ref s.heap.objs.size, rawInt 0, .none, .none] } : Obj) = u
  have at0 : (s.heap.push o).get? s.heap.objs.size = some o := Heap.get?_push_size _ B.free
  have len1 : (s.heap.push o).objs.size = s.heap.objs.size + 1 := by simp [Heap.size_push]
  have at1 : ((s.heap.push o).push u).get? (s.heap.objs.size + 1) = some u := by rw [← len1]; exact Heap.get?_push_size _ (by rw [← hu]; rfl)
  have there : ∀ b z, s.heap.get? b = some z → ((s.heap.push o).push u).get? b = some z := fun b z q => Heap.get?_push_of_some _ (Heap.get?_push_of_some _ q)
  have isE : IsEnum ((s.heap.push o).push u) (s.heap.objs.size + 1) s.heap.objs.size 0 .none := by subst hu; exact at1
  constructor
  · rw [len1]; exact ⟨_, at1, by rw [← hu]⟩
  · rw [len1]; exact h _ isE ⟨o, Heap.get?_push_of_some _ at0, (by subst ho; rfl), (by subst ho; rfl)⟩ there
end PySem
namespace NL
open PySem PySem.Spec PyProof.Rows L2
/-- enumerate over a tuple at a, at its turn i: the enumerate object e over the iterator it -/
structure EnT (a e it : Addr) (i : Nat) (h : Heap) : Prop where
  en : ∃ old, IsEnum h e it ((i : Nat) : Int) old
  tu : h.IsTupleIter it a i
  ne : e ≠ it ∧ a ≠ it ∧ a ≠ e
theorem EnT.each {a e it : Addr} {i : Nat} {h : Heap} (t : EnT a e it i h) {p : Addr → Prop} (h1 : p e) (h2 : p it) : ∀ b ∈ [e, it], p b := fun b hb => by
  simp at hb
  rcases hb with rfl | rfl <;> assumption
theorem EnT.low {a e it : Addr} {i : Nat} {h : Heap} (t : EnT a e it i h) : ∀ b ∈ [e, it], b < h.objs.size :=
  t.each (by obtain ⟨_, q⟩ := t.en; exact Heap.lt_size q) (by obtain ⟨_, q, _⟩ := t.tu; exact Heap.lt_size q)
def IteT (K : PySem.W.Frag) (a : Addr) : It where
  go := fun i H => ∃ xs : List V, SqT K H a xs ∧ i < xs.length
  yld := fun i H v H' => ∃ T x, v = .ref T ∧ H T = none ∧ H' = upd H T (.tup [.int (i : Nat), x]) ∧ ∀ xs, SqT K H a xs → xs[i]? = some x
  stop := fun i H => ∃ xs : List V, SqT K H a xs ∧ xs.length = i
theorem enT_item {X : Cx} {elts : List Expr} {kk : Nat} {tpos : Pos} {a e it : Addr} (hc : X.calm = true) {i : Nat} {pins : List (Addr × Obj)} {s : Shared} {σ : L2.St} {H : Hp} {E : Value → Shared → Prop} (I : Inv X pins σ H s) (hf : ∀ b ∈ [e, it], FpOk X pins H b) (t : EnT a e it i s.heap)
    (hg : (IteT X.K a).go i H) : wpAny (model X.prog X.w) X.A (pyNext (.ref e)) (fun r s1 => ∃ u, r = some u ∧ wpAny (model X.prog X.w) X.A (letOwnedTupleGo (.Tuple elts kk tpos) (.ref e) u)
      (fun _ s2 => ∃ x H', Inv X pins σ H' s2 ∧ RelV x u ∧ (IteT X.K a).yld i H x H' ∧ EnT a e it (i + 1) s2.heap ∧ ∀ b ∈ [e, it], H' b = none) E s1) E s := by
  obtain ⟨xs, hq, hi⟩ := hg
  obtain ⟨its, rv, tup, _⟩ := I.tuple hq
  obtain ⟨u, hu, ru⟩ := rv.get (List.getElem?_eq_getElem hi)
  obtain ⟨⟨old, he⟩, hit, n1, n2, n3⟩ := id t
  have low := t.low
  have fresh : H s.heap.objs.size = none := I.hok.fresh (Nat.le_refl _)
  have room : i < its.toArray.size := by rw [List.size_toArray, ← rv.length]; exact hi
  refine wpAny_pyNext_enum_itemD (Draws.tuple (A := X.A.in1) (by simp [I.ok.hd hc]) it a n2 its.toArray) he ⟨hit, tup⟩ room n1 (by simp [n1, Ne.symm n3]) fun y h1 tk hy hout hst hT _ same => ⟨_, rfl, ?_⟩
  obtain rfl : y = u := Option.some.inj (hy.symm.trans (by simpa using hu))
  refine wpAny_letOwnedTupleGo_enum (s := { s with heap := h1, toks := tk + 1 }) hout fun h2 hen but => ?_
  have pair : h2.get? s.heap.objs.size = some { cls := .type "tuple", data := .seq #[.int i tk, y] } := (but.2 _ fun z => Nat.lt_irrefl _ (z ▸ low e (by simp))).trans hT
  have J := I.turnedNew (T := s.heap.objs.size) (ob := .tup [.int (i : Nat), xs[i]]) (t' := tk + 1) (h' := h2) (ch := [e, it])
    (fun b ob hb z => by
      have b1 : b ≠ e := fun q => hb (by simp [q])
      exact (but.2 b b1).trans (same b ob b1 (fun q => hb (by simp [q])) z)) hf (Nat.le_refl _) ⟨(by show 2 ≤ sizeLine; decide), [.int i tk, y], .cons ⟨_, rfl⟩ (.cons ru .nil), ⟨_, pair, rfl, _, rfl⟩⟩
  refine ⟨.ref s.heap.objs.size, _, J, rfl, ⟨_, _, rfl, fresh, rfl, fun ys hys => ?_⟩, ⟨⟨y, ?_⟩, hst.1.at fun ob z => (but.2 it (Ne.symm n1)).trans z, n1, n2, n3⟩, fun b hb => ?_⟩
  · rw [I.tuple_inj hys hq]; exact List.getElem?_eq_getElem hi
  · have : ((i + 1 : Nat) : Int) = (i : Int) + 1 := by simp
    rw [this]; exact hen
  · rw [upd_ne (Nat.ne_of_lt (low b hb))]; exact (hf b hb).1
theorem turn_enT {P : Program} {w : World} {K : PySem.W.Frag} {elts : List Expr} {kk : Nat} {tpos : Pos} (a e it : Addr) : Turn P w K (.Tuple elts kk tpos) (IteT K a) [e, it] e (EnT a e it) where
  mem := List.mem_cons_self
  obj := fun i h t => t.each (by obtain ⟨_, q⟩ := t.en; exact ⟨_, q, fun v z => nomatch z⟩) (by obtain ⟨o, q, _, z⟩ := t.tu; exact ⟨o, q, fun v y => by rw [z] at y; exact nomatch y⟩)
  keep := fun i h h2 t k => ⟨by obtain ⟨old, q⟩ := t.en; exact ⟨old, k e (by simp) _ q⟩, t.tu.at fun o z => k it (by simp) o z, t.ne⟩
  item := by rintro X rfl rfl rfl hc i pins s σ H E I hf t hg; exact enT_item hc I hf t hg
  done := by
    rintro X rfl rfl rfl hc i pins s σ H E I hf t ⟨xs, hq, rfl⟩
    obtain ⟨its, rv, tup, _⟩ := I.tuple hq
    obtain ⟨⟨old, he⟩, hit, n1, n2, n3⟩ := t
    have ff := hf it (by simp)
    have el : xs.length = its.toArray.size := by rw [List.size_toArray, rv.length]
    rw [el] at he hit
    exact wpAny_pyNext_enum_endD (Draws.tuple (A := X.A.in1) (by simp [I.ok.hd hc]) it a n2 its.toArray) he ⟨hit, tup⟩ fun h2 eb => ⟨rfl, I.turned (t' := s.toks) (fun b o hb z => eb b o hb z) ff.1 ff.2.1 ff.2.2.2.1 ff.2.2.2.2.1 ff.2.2.2.2.2⟩
  self := fun A i s Q E t h => by obtain ⟨_, q⟩ := t.en; exact wpAny_pyIter_enum q h
theorem walk_enT {K : PySem.W.Frag} {a : Addr} {xs : List V} : Walk (IteT K a) xs.length (fun H => SqT K H a xs) (YPair (fun i => some (.int (i : Nat))) (fun i => xs[i]?)) :=
  ⟨fun i _ hi q => ⟨xs, q, hi⟩, fun _ q => ⟨xs, q, rfl⟩, fun i H v H' _ q ⟨T, x, h1, h2, h3, h4⟩ => ⟨T, .int (i : Nat), x, h1, h2, h3, rfl, h4 xs q⟩⟩
def iEnumT (K : PySem.W.Frag) (ta : TA) : TI := fun σ H R => ta σ H fun vs H1 => ∃ a xs, vs = [.ref a] ∧ SqT K H1 a xs ∧ R (IteT K a) H1
theorem pi_enT {X : Cx} {e : Expr} {ta : TA} {p pos tpos : Pos} {elts : List Expr} {kk : Nat} (hg : Gl X "enumerate") (hm : X.mg "enumerate" = none) (ha : PA X [e] ta) (hs : starEach [e] X.env = [(false, eval e X.env)]) :
    PI X (.Tuple elts kk tpos) (.Call (.Name "enumerate" p) [e] [] pos) (iEnumT X.K ta) :=
  ⟨fun pins s σ H R I h => Call_ (ld_blt I hg hm boot_enumerate (PyProof.Rows.callWith_type1 (thn (ha.run pos pins s σ H _ I h) fun us s1 ⟨vs, H1, J, r, a, xs, ev, hq, q⟩ => by
    subst ev
    rw [Vals.ref1 r]
    obtain ⟨its, rv, tup, _⟩ := J.tuple hq
    have tup : s1.heap.IsTuple a its.toArray := tup
    have la : a < s1.heap.objs.size := by obtain ⟨o, z, _⟩ := tup; exact Heap.lt_size z
    refine nl_enum_tuple tup fun h2 he hit hk => wpAny_pyIter_enum he ?_
    have t : EnT a (s1.heap.objs.size + 1) s1.heap.objs.size 0 h2 := ⟨⟨.none, he⟩, hit, Nat.succ_ne_self _, Nat.ne_of_lt la, Nat.ne_of_lt (Nat.lt_succ_of_lt la)⟩
    have new : ∀ b, s1.heap.objs.size ≤ b → FpOk X pins H1 b := fun b hb => J.fpOk hb (J.hok.fresh hb)
    exact ⟨s1.heap.objs.size + 1, [s1.heap.objs.size + 1, s1.heap.objs.size], _, _, H1, rfl, J.kept (t' := s1.toks) hk, turn_enT a _ _, t, t.each (new _ (Nat.le_succ _)) (new _ (Nat.le_refl _)), q⟩) hs rfl))⟩
/-! ### enumerate, zip as data -/
section
variable {X : Cx} {G : Gc} {Wx : WX}
def enumL (l : List Da) : List Da := (List.range l.length).zipWith (fun i d => .tup [.int (i : Nat), d]) l
def zipL (l m : List Da) : List Da := l.zipWith (fun a b => .tup [a, b]) m
theorem itd_pair {W0 : Wd} {J : It} {n : Nat} {Gd : Hp → Prop} {l : List Da} {xs ys : Nat → Option V} (w : Walk J n Gd (YPair xs ys)) (hn : l.length = n) (hg : ∀ W H S, W0.le W → SR G W H S → Gd H)
    (hd : ∀ i x y, i < n → xs i = some x → ys i = some y → ∃ a b, l[i]? = some (.tup [a, b]) ∧ Rep G W0 a x ∧ Rep G W0 b y) : ItD G W0 J l := by
  refine ⟨fun i W H S hi le s => w.goes i H (by omega) (hg W H S le s), fun W H S le s => by rw [hn]; exact w.stops H (hg W H S le s), fun i W H S x H' hi le s y => ?_⟩
  obtain ⟨T, u, v, rfl, hT, rfl, e1, e2⟩ := w.yields i H x H' (by omega) (hg W H S le s) y
  obtain ⟨a, b, h1, h2, h3⟩ := hd i u v (by omega) e1 e2
  obtain ⟨x1, s1⟩ := Ext.frz s (o := .tup [u, v]) hT
  exact ⟨_, _, h1, x1, s1, RV.tup frz_same ((Reps.cons h2 (.cons h3 .nil)).mono (le.trans x1.le))⟩
theorem enumL_length (l : List Da) : (enumL l).length = l.length := by unfold enumL; simp
theorem enumL_get {W : Wd} {l : List Da} {vs : List V} (r : Reps G W l vs) {i : Nat} {x y : V} (hx : some (V.int (i : Nat)) = some x) (hy : vs[i]? = some y) : ∃ a b, (enumL l)[i]? = some (.tup [a, b]) ∧ Rep G W a x ∧ Rep G W b y := by
  obtain ⟨d, hd, rd⟩ := r.getV hy
  cases hx
  refine ⟨.int (i : Nat), d, ?_, repI W _, rd⟩
  unfold enumL
  have hi : i < l.length := (List.getElem?_eq_some_iff.mp hd).1
  rw [List.getElem?_zipWith, hd, List.getElem?_range hi]
def itET (f : M Da) : M (List Da) := fun ρ S => (f ρ S).bind fun d S1 => match d with
  | .tup l => .ok (enumL l) S1
  | _ => .bad
def itEL (f : M Da) : M (List Da) := fun ρ S => (f ρ S).bind fun d S1 => match d with
  | .lst l => .ok (enumL l) S1
  | _ => .bad
theorem pid_enumT {e : Expr} {f : M Da} {p pos tpos : Pos} {elts : List Expr} {kk : Nat} (hm : X.mg "enumerate" = none) (he : PE X e (tM G Wx f)) (hg : Gl X "enumerate" := by rfl) (hs : starEach [e] X.env = [(false, eval e X.env)] := by rfl) (hK : G.K = X.K := by rfl) :
    PI X (.Tuple elts kk tpos) (.Call (.Name "enumerate" p) [e] [] pos) (tI G Wx (itET f)) :=
  (pi_enT hg hm (pa_cons he pa_nil hs) hs).imp fun σ H R ⟨W, S, ρ, s, r, q⟩ => ⟨W, S, ρ, s, r, q.bind fun d S1 v W1 H1 x1 s1 q1 k1 => by
    cases d with
    | tup l =>
      obtain ⟨a, vs, rfl, hl, rs⟩ := q1.tup_inv
      rw [hK] at hl
      exact ⟨a, vs, rfl, s1.sqT hl, k1.here s1 (itd_pair (walk_enT (a := a) (xs := vs)) (by rw [enumL_length, rs.length]) (fun W2 H2 S2 le s2 => s2.sqT (SqT.mono hl le.F)) fun i x y _ h1 h2 => enumL_get rs h1 h2)⟩
    | _ => exact k1.elim⟩
theorem pid_enumL {e : Expr} {f : M Da} {p pos tpos : Pos} {elts : List Expr} {kk : Nat} (hm : X.mg "enumerate" = none) (he : PE X e (tM G Wx f)) (hg : Gl X "enumerate" := by rfl) (hs : starEach [e] X.env = [(false, eval e X.env)] := by rfl) (hK : G.K = X.K := by rfl) :
    PI X (.Tuple elts kk tpos) (.Call (.Name "enumerate" p) [e] [] pos) (tI G Wx (itEL f)) :=
  (pi_enum hg hm (pa_cons he pa_nil hs) hs).imp fun σ H R ⟨W, S, ρ, s, r, q⟩ => ⟨W, S, ρ, s, r, q.bind fun d S1 v W1 H1 x1 s1 q1 k1 => by
    cases d with
    | lst l =>
      obtain ⟨a, vs, rfl, hl, rs⟩ := q1.lst_inv
      rw [hK] at hl
      exact ⟨a, vs, rfl, s1.sqL hl, k1.here s1 (itd_pair (walk_enum (a := a) (xs := vs)) (by rw [enumL_length, rs.length]) (fun W2 H2 S2 le s2 => s2.sqL (SqL.mono hl le.F)) fun i x y _ h1 h2 => enumL_get rs h1 h2)⟩
    | _ => exact k1.elim⟩

end
end NL

set_option Elab.async false
set_option linter.all false
set_option maxRecDepth 100000
set_option maxHeartbeats 4100000
namespace NL
open PySem PySem.Spec PyProof.Rows L2

/-! ### repr of lists and tuples -/
def okP (x : PyData) : Bool := x.showable && (x.layable0 && (decide (x.depth ≤ 60) && x.intsShort 13))
def boxD : Da → Bool
  | .tup _ | .lst _ | .src _ | .cell _ => true
  | _ => false
def reprPD : List Da → Store → Option Da := fun l S => match l with
  | [d] => if boxD d = true then (match pyD S d with
    | some x => if okP x = true then some (.str x.shown) else none
    | none => none) else none
  | _ => none
section
variable {X : Cx} {G : Gc} {Wx : WX}
theorem Rep.box {W : Wd} {d : Da} {v : V} (r : Rep G W d v) (h : boxD d = true) : ∃ a, v = .ref a := by
  cases d with
  | tup l => obtain ⟨a, _, e, _⟩ := r.tup_inv; exact ⟨a, e⟩
  | lst l => obtain ⟨a, _, e, _⟩ := r.lst_inv; exact ⟨a, e⟩
  | src l => obtain ⟨a, _, e, _⟩ := r.src_inv; exact ⟨a, e⟩
  | cell j => obtain ⟨a, _, e⟩ := r.cell_inv; exact ⟨a, e⟩
  | _ => cases h
theorem cr_reprP (hu : X.A.units + 64 < cLine) (hgd : X.A.guards = some []) (hK : G.K = X.K := by rfl) : CallR X (.builtin "repr") (rdn G reprPD) := by
  rintro pins s σ H xs us Q I r ⟨W, S, l, sr, rs, q⟩
  unfold reprPD at q
  split at q
  · rename_i d
    by_cases hb : boxD d = true
    · rw [if_pos hb] at q
      cases e : pyD S d with
      | none => simp only [e] at q; exact q.elim
      | some x =>
        simp only [e] at q
        by_cases ho : okP x = true
        · rw [if_pos ho] at q
          obtain ⟨v, rfl, rv⟩ := rs.one
          obtain ⟨a, rfl⟩ := rv.box hb
          have eu : us = [.ref a] := Vals.ref1 r
          subst eu
          have dp := pyD_dp sr e rv
          rw [hK] at dp
          obtain ⟨as, rd⟩ := Dp.reads I x (.ref a) (.ref a) dp rfl
          unfold okP at ho
          simp only [Bool.and_eq_true, decide_eq_true_eq] at ho
          obtain ⟨h1, h2, h3, h4⟩ := ho
          exact repr_of_reads' rd h1 (PyData.noDict_hsm (PyData.hasDict_of_layable h2)) hgd (by omega) (fun _ _ z => z) (fun h' u tk hk => ⟨.str x.shown, H, I.kept (t' := tk) hk, ⟨u, rfl⟩, q.here sr (repS W _)⟩) (PyData.shown_fits_of_layable0 (by decide) (by decide) h2 h4)
        · rw [if_neg ho] at q; exact q.elim
    · rw [if_neg hb] at q; exact q.elim
  · exact q.elim
end
end NL

set_option Elab.async false
set_option linter.all false
set_option maxRecDepth 100000
set_option maxHeartbeats 4100000
namespace NL
open PySem PySem.Spec PyProof.Rows L2
section
variable {X : Cx} {G : Gc} {Wx : WX} {e : Expr} {m : M Da} {pos p : Pos}
/-! ### list(t), list(xs) -/
def listOfF (m : M Da) : M (List Da) := fun ρ S => (m ρ S).bind fun d S1 => match seqOf S1 d with
  | some l => .ok l S1
  | none => .bad
theorem pdf_listOf (hm : X.mg "list" = none) (he : PE X e (tM G Wx m)) (hg : Gl X "list" := by rfl) (na : starEach [e] X.env = (false, eval e X.env) :: starEach [] X.env := by rfl) (hK : G.K = X.K := by rfl) :
    PE X (.Call (.Name "list" p) [e] [] pos) (tF G Wx (listOfF m)) :=
  (pe_callTy call_list_of hg hm (by decide +kernel) (pa_cons he pa_nil na) (by decide) (by decide) na (by rfl)).imp fun σ H Q ⟨W, S, ρ, s, r, q⟩ => ⟨W, S, ρ, s, r, AftF.bind q fun d S1 v W1 H1 x1 s1 q1 k1 => by
    cases e1 : seqOf S1 d with
    | none => simp only [e1] at k1; exact k1.elim
    | some l =>
      simp only [e1] at k1
      cases d with
      | tup l' =>
        cases e1
        obtain ⟨a, vs, rfl, h1, h2⟩ := q1.tup_inv
        rw [hK] at h1
        exact ⟨a, vs, rfl, .inr (s1.sqT h1), fun p hp => k1.new s1 h2 hp⟩
      | _ =>
        obtain ⟨a, vs, rfl, h1, h2⟩ := s1.isL q1 e1
        rw [hK] at h1
        exact ⟨a, vs, rfl, .inl h1, fun p hp => k1.new s1 h2 hp⟩⟩
end
end NL

set_option Elab.async false
set_option linter.all false
set_option maxRecDepth 100000
set_option maxHeartbeats 4100000
namespace NL
open PySem PySem.Spec PyProof.Rows L2

/-! ### raise X(), X an own exception class without __init__ -/
structure OwnX0 (K : PySem.W.Frag) (mg : Str → Option Value) (G : Gc) (c : Str) : Prop where
  ex : PySem.W.excIn K (G.cls c) [.type "ValueError", .type "Exception", .type "BaseException", .type "object"] "ValueError.__new__" = true
  mg : mg c = some (.ref (G.cls c))
  kp : PySem.W.keepIn K (.ref (G.cls c)) = true
  sb : PySem.W.subIn K (.ref (G.cls c)) (.type "BaseException") = some true
  ty : PySem.W.typeIn K (.ref (G.cls c)) = some (.type "type")
  xf : G.xf c = none
def raise0S (c : Str) : MS := fun ρ S => .exc c .non ρ S
section
variable {X : Cx} {G : Gc} {Wx : WX} {p pos pos2 : Pos} {c : Str}
theorem pmk_bare (O : OwnX0 X.K X.mg G c) (hg : Gl X c) (hdb : (c == ("__debug__" : Str)) = false) : PMk X (.Call (.Name c p) [] [] pos) (fun _ H Q => Q (.ref (G.cls c)) none H) := fun pins s σ H Q I h =>
  wpAny_Call_Name_kw (ld_glob I hg O.mg (PySem.W.callWith_K0 I.kIn O.kp (by
    obtain ⟨hp, g, dr, tk, os⟩ := s
    obtain ⟨_, _, _, _, _, _, _, _, _, _, _, _, _, _, _, _, _, hC, hN, hni, T⟩ := exc_obj I.kIn O.ex
    exact wpAny_call_exc_subT PySem.F.excBase_ValueError T hC hN hni (fun h2 e hm => mk_of I hm (raises_own O.sb O.ty) h (I.hok.gone hm.new)) (Nat.zero_le _))) hdb)
theorem psd_raise0 (O : OwnX0 X.K X.mg G c) (tk : Takes X Wx) (hc : X.calm = true := by rfl) (hg : Gl X c := by rfl) (hdb : (c == ("__debug__" : Str)) = false := by decide) : PS X (.Raise (some (.Call (.Name c p) [] [] pos)) none pos2) (tS G Wx (raise0S c)) :=
  (ps_raise hc tk (pmk_bare O hg hdb)).imp fun D σ H ⟨W, S, ρ, s, r, q⟩ => q _ none σ W H (.refl _ _) s r ⟨rfl, .non, by unfold XDict; rw [O.xf]; exact ⟨rfl, rfl⟩, repN W⟩
end
end NL

set_option Elab.async false
set_option linter.all false
set_option autoImplicit false
set_option maxRecDepth 100000
set_option maxHeartbeats 4100000
namespace NL
open PySem PySem.Spec PyProof.Rows L2
section
variable {ρ ρ1 : En} {S S1 S2 S3 : Store} {a b d e : Da} {l m ds : List Da} {f g h : M Da} {t : M (List Da)} {p q : Bool} {c : M Bool} {R R1 R2 : RS}
theorem ev_var {i : Nat} (h : ρ[i]? = some (some d)) : varM i ρ S = .ok d S := by unfold varM; rw [h]
theorem ev_c : cM d ρ S = .ok d S := rfl
theorem ev_tup (h : t ρ S = .ok l S1) (hl : Nat.ble l.length 16777216 = true) : tupM t ρ S = .ok (.tup l) S1 := by
  unfold tupM dispM; rw [h]; simp only [Res.bind]; rw [if_pos (by have := Nat.le_of_ble_eq_true hl; unfold big; omega)]
theorem ev_frz (h : t ρ S = .ok l S1) : frzM t ρ S = .ok (.lst l) S1 := by unfold frzM; rw [h]; rfl
theorem ev_cel (h : t ρ S = .ok l S1) : celM t ρ S = .ok (.cell S1.length) (S1 ++ [.lst l]) := by unfold celM; rw [h]; rfl
theorem ev_list (h : t ρ S = .ok l S1) (hl : Nat.ble l.length 16777216 = true) : listM t ρ S = .ok l S1 := by
  unfold listM; rw [h]; simp only [Res.bind]; rw [if_pos (by have := Nat.le_of_ble_eq_true hl; unfold big; omega)]
theorem ev_nil : nilM ρ S = .ok [] S := rfl
theorem ev_cons (h : f ρ S = .ok a S1) (ht : t ρ S1 = .ok l S2) : consM f t ρ S = .ok (a :: l) S2 := by unfold consM; rw [h]; simp only [Res.bind]; rw [ht]
theorem ev_op {op : Da → Da → Store → Option Da} (hf : f ρ S = .ok a S1) (hg : g ρ S1 = .ok b S2) (ho : op a b S2 = some d) : opM op f g ρ S = .ok d S2 := by
  unfold opM; rw [hf]; simp only [Res.bind]; rw [hg]; simp only [ho, ofO]
theorem ev_un {op : Da → Store → Option Da} (hf : f ρ S = .ok a S1) (ho : op a S1 = some d) : unM op f ρ S = .ok d S1 := by unfold unM; rw [hf]; simp only [Res.bind, ho, ofO]
theorem ev_call {op : List Da → Store → Option Da} (h : t ρ S = .ok l S1) (ho : op l S1 = some d) : callM op t ρ S = .ok d S1 := by unfold callM; rw [h]; simp only [Res.bind, ho, ofO]
theorem ev_fun {n : Nat} {mf : Mf} (h : t ρ S = .ok l S1) (hn : l.length = n) (ho : mf l S1 = .ok d S2) : callF n mf t ρ S = .ok d S2 := by unfold callF; rw [h]; simp only [Res.bind, hn, if_true]; exact ho
theorem ev_tst (h : f ρ S = .ok (.bl p) S1) : tstM f ρ S = .ok p S1 := by unfold tstM; rw [h]; rfl
theorem ev_notT (h : c ρ S = .ok p S1) : notT c ρ S = .ok (!p) S1 := by unfold notT; rw [h]; rfl
theorem ev_notM (h : tstM f ρ S = .ok p S1) : notM f ρ S = .ok (.bl (!p)) S1 := by unfold notM; rw [h]; rfl
theorem ev_andT {c2 : M Bool} (h : c ρ S = .ok p S) (k : p = true → c2 ρ S = .ok q S) : andT c c2 ρ S = .ok (p && q) S := by
  unfold andT; rw [h]; simp only [Res.bind]; cases p with
  | true => rw [if_pos rfl, k rfl]; rfl
  | false => rfl
theorem ev_orT {c2 : M Bool} (h : c ρ S = .ok p S) (k : p = false → c2 ρ S = .ok q S) : orT c c2 ρ S = .ok (p || q) S := by
  unfold orT; rw [h]; simp only [Res.bind]; cases p with
  | true => rfl
  | false => rw [if_neg (by decide), k rfl]; rfl
theorem ev_andM (h : tstM f ρ S = .ok p S) (k : p = true → g ρ S = .ok (.bl q) S) : andM f g ρ S = .ok (.bl (p && q)) S := by
  unfold andM; rw [h]; simp only [Res.bind]; cases p with
  | true => rw [if_pos rfl, k rfl]; rfl
  | false => rfl
theorem ev_orM (h : tstM f ρ S = .ok p S) (k : p = false → g ρ S = .ok (.bl q) S) : orM f g ρ S = .ok (.bl (p || q)) S := by
  unfold orM; rw [h]; simp only [Res.bind]; cases p with
  | true => rfl
  | false => rw [if_neg (by decide), k rfl]; rfl
theorem ev_if (h : c ρ S = .ok p S) (k : p = true → f ρ S = .ok a S) (k2 : p = false → g ρ S = .ok b S) : ifM c f g ρ S = .ok (if p = true then a else b) S := by
  unfold ifM; rw [h]; simp only [Res.bind]; cases p with
  | true => rw [if_pos rfl, k rfl, if_pos rfl]
  | false => rw [if_neg (by decide), k2 rfl, if_neg (by decide)]
theorem ev_if_t (h : c ρ S = .ok true S1) (k : f ρ S1 = .ok a S2) : ifM c f g ρ S = .ok a S2 := by unfold ifM; rw [h]; exact k
theorem ev_if_f (h : c ρ S = .ok false S1) (k : g ρ S1 = .ok a S2) : ifM c f g ρ S = .ok a S2 := by unfold ifM; rw [h]; exact k
theorem ev_itL (h : f ρ S = .ok (.lst l) S1) : itL f ρ S = .ok l S1 := by unfold itL; rw [h]; rfl
theorem ev_itT (h : f ρ S = .ok (.tup l) S1) : itT f ρ S = .ok l S1 := by unfold itT; rw [h]; rfl
theorem ev_itET (h : f ρ S = .ok (.tup l) S1) : itET f ρ S = .ok (enumL l) S1 := by unfold itET; rw [h]; rfl
/-! statements -/
theorem ev_seq_set {i : Nat} {s : MS} (h : f ρ S = .ok d S1) (hρ : ρ.set i (some d) = ρ1) (k : s ρ1 S1 = R) : seqS (setS i f) s ρ S = R := by
  unfold seqS setS; rw [h]; simp only [Res.thenS, RS.seq]; rw [hρ]; exact k
theorem ev_seq_drop {s : MS} (h : f ρ S = .ok d S1) (k : s ρ S1 = R) : seqS (dropS f) s ρ S = R := by unfold seqS dropS; rw [h]; exact k
theorem ev_seq_par {is : List Nat} {s : MS} (h : t ρ S = .ok ds S1) (hl : ds.length = is.length) (hρ : setAll ρ (is.zip ds) = ρ1) (k : s ρ1 S1 = R) : seqS (parS is t) s ρ S = R := by
  unfold seqS parS; rw [h]; simp only [Res.thenS]; rw [if_pos hl]; simp only [RS.seq]; rw [hρ]; exact k
theorem ev_seq_nx {s s2 : MS} (h : s ρ S = .nx ρ1 S1) (k : s2 ρ1 S1 = R) : seqS s s2 ρ S = R := by unfold seqS; rw [h]; exact k
theorem ev_seq_rt {s s2 : MS} (h : s ρ S = .rt d S1) : seqS s s2 ρ S = .rt d S1 := by unfold seqS; rw [h]; rfl
theorem ev_ret (h : f ρ S = .ok d S1) : retS f ρ S = .rt d S1 := by unfold retS; rw [h]; rfl
theorem ev_set {i : Nat} (h : f ρ S = .ok d S1) (hρ : ρ.set i (some d) = ρ1) : setS i f ρ S = .nx ρ1 S1 := by unfold setS; rw [h]; simp only [Res.thenS]; rw [hρ]
theorem ev_drop (h : f ρ S = .ok d S1) : dropS f ρ S = .nx ρ S1 := by unfold dropS; rw [h]; rfl
theorem ev_ifs {s s2 : MS} (h : c ρ S = .ok p S1) (k : p = true → s ρ S1 = R) (k2 : p = false → s2 ρ S1 = R) : ifS c s s2 ρ S = R := by
  unfold ifS; rw [h]; simp only [Res.thenS]; cases p with
  | true => rw [if_pos rfl]; exact k rfl
  | false => rw [if_neg (by decide)]; exact k2 rfl
theorem ev_ifs_t {s s2 : MS} (h : c ρ S = .ok true S1) (k : s ρ S1 = R) : ifS c s s2 ρ S = R := by unfold ifS; rw [h]; exact k
theorem ev_ifs_f {s s2 : MS} (h : c ρ S = .ok false S1) (k : s2 ρ S1 = R) : ifS c s s2 ρ S = R := by unfold ifS; rw [h]; exact k
theorem ev_seq_if_t {s s2 s3 : MS} (h : c ρ S = .ok true S1) (k : seqS s s3 ρ S1 = R) : seqS (ifS c s s2) s3 ρ S = R := by
  have e : ifS c s s2 ρ S = s ρ S1 := ev_ifs_t h rfl
  unfold seqS at k ⊢; rw [e]; exact k
theorem ev_seq_if_f {s s2 s3 : MS} (h : c ρ S = .ok false S1) (k : seqS s2 s3 ρ S1 = R) : seqS (ifS c s s2) s3 ρ S = R := by
  have e : ifS c s s2 ρ S = s2 ρ S1 := ev_ifs_f h rfl
  unfold seqS at k ⊢; rw [e]; exact k
theorem ev_assoc {s1 s2 s3 : MS} (k : seqS s1 (seqS s2 s3) ρ S = R) : seqS (seqS s1 s2) s3 ρ S = R := by
  rw [← k]
  unfold seqS
  cases s1 ρ S <;> rfl
theorem ev_orT_f {c2 : M Bool} (h : c ρ S = .ok false S1) (k : c2 ρ S1 = .ok q S2) : orT c c2 ρ S = .ok q S2 := by unfold orT; rw [h]; exact k
theorem ev_andT_t {c2 : M Bool} (h : c ρ S = .ok true S1) (k : c2 ρ S1 = .ok q S2) : andT c c2 ρ S = .ok q S2 := by unfold andT; rw [h]; exact k
theorem ev_ret' (h : f ρ S = .ok a S1) (e : a = d) : retS f ρ S = .rt d S1 := e ▸ ev_ret h
theorem ev_seq_skip {s : MS} (k : s ρ S = R) : seqS skipS s ρ S = R := k
theorem ev_lc {α : Type} {xs : List α} {fx : α → Da} {own : List Nat} {tg : Tg} {src : M (List Da)} {cond : M Bool} {elt : M Da} {kc : α → Bool} {ke : α → Da} {kρ : α → En} (hs : src ρ S = .ok (xs.map fx) S) (hb : xs.length ≤ big)
    (hρ : ∀ x, bindT tg (fx x) (wipeD ρ own) = some (kρ x)) (hc : ∀ x ∈ xs, cond (kρ x) S = .ok (kc x) S) (he : ∀ x ∈ xs, kc x = true → elt (kρ x) S = .ok (ke x) S) : lcM own tg src cond elt ρ S = .ok ((xs.filter kc).map ke) S := by
  have aux : ∀ ys : List α, (∀ x ∈ ys, x ∈ xs) → lcL tg cond elt (wipeD ρ own) (ys.map fx) S = some ((ys.filter kc).map ke, S) := by
    intro ys
    induction ys with
    | nil => intro _; rfl
    | cons y ys ih =>
      intro hy
      have ih := ih fun x hx => hy x (List.mem_cons_of_mem _ hx)
      rw [List.map_cons]
      unfold lcL
      rw [hρ y]
      dsimp only
      rw [hc y (hy y List.mem_cons_self)]
      cases q : kc y with
      | false => dsimp only; rw [ih, List.filter_cons, q]; rfl
      | true => dsimp only; rw [he y (hy y List.mem_cons_self) q]; dsimp only; rw [ih, List.filter_cons, q]; rfl
  unfold lcM
  rw [hs]
  show (if (xs.map fx).length ≤ big then optR (lcL tg cond elt (wipeD ρ own) (xs.map fx) S) else .bad) = _
  rw [if_pos (by rw [List.length_map]; exact hb), aux xs fun _ h => h]
  rfl
theorem ev_yes : yesM ρ S = .ok true S := rfl
theorem ev_lc_yes {α : Type} {xs : List α} {fx : α → Da} {own : List Nat} {tg : Tg} {src : M (List Da)} {elt : M Da} {ke : α → Da} {kρ : α → En} (hs : src ρ S = .ok (xs.map fx) S) (hb : xs.length ≤ big)
    (hρ : ∀ x, bindT tg (fx x) (wipeD ρ own) = some (kρ x)) (he : ∀ x ∈ xs, elt (kρ x) S = .ok (ke x) S) : lcM own tg src yesM elt ρ S = .ok (xs.map ke) S := by
  have := ev_lc (cond := yesM) (kc := fun _ => true) (ke := ke) (kρ := kρ) hs hb hρ (fun x _ => rfl) fun x hx _ => he x hx
  rw [this]
  congr 2
  exact List.filter_eq_self.mpr fun _ _ => rfl
end
end NL

set_option Elab.async false
set_option linter.all false
set_option maxRecDepth 100000
set_option maxHeartbeats 4100000
namespace NL
open PySem PySem.Spec PyProof.Rows L2

/-! ### isinstance(x, C), C an own class of objects -/
structure IsoOk (K : PySem.W.Frag) (mg : Str → Option Value) (G : Gc) (c : Str) : Prop where
  cl : Cls K (G.cls c)
  hd : PySem.W.hasDictIn K (G.cls c) = true
  ty : PySem.W.typeIn K (.ref (G.cls c)) = some (.type "type")
  self : PySem.W.subIn K (.ref (G.cls c)) (.ref (G.cls c)) = some true
  sub : ∀ t : Ty, PySem.W.subIn K (.type t.name) (.ref (G.cls c)) = some false
  ha : PySem.W.findIn K (.ref (G.cls c)) "__class__" = some (some (.builtin "object.__class__"))
  hget : PySem.W.specialIn K (.builtin "object.__class__") "__get__" = some (some (.builtin "getset_descriptor.__get__"))
  htak : PySem.W.takesIn K (.builtin "object.__class__") = some true
  hm : PySem.W.mroIn K (G.cls c) (.type "object") = some true
  mg : mg c = some (.ref (G.cls c))
theorem iso_mk {K : PySem.W.Frag} {mg : Str → Option Value} {G : Gc} {c : Str} (cl : Cls K (G.cls c)) (hd : PySem.W.hasDictIn K (G.cls c) = true) (ty : PySem.W.typeIn K (.ref (G.cls c)) = some (.type "type")) (self : PySem.W.subIn K (.ref (G.cls c)) (.ref (G.cls c)) = some true)
    (s1 : PySem.W.subIn K (.type "NoneType") (.ref (G.cls c)) = some false) (s2 : PySem.W.subIn K (.type "bool") (.ref (G.cls c)) = some false) (s3 : PySem.W.subIn K (.type "int") (.ref (G.cls c)) = some false)
    (s4 : PySem.W.subIn K (.type "str") (.ref (G.cls c)) = some false) (s5 : PySem.W.subIn K (.type "tuple") (.ref (G.cls c)) = some false) (s6 : PySem.W.subIn K (.type "list") (.ref (G.cls c)) = some false)
    (ha : PySem.W.findIn K (.ref (G.cls c)) "__class__" = some (some (.builtin "object.__class__"))) (hn : PySem.W.specialIn K (.builtin "object.__class__") "__get__" = some (some (.builtin "getset_descriptor.__get__")))
    (ht : PySem.W.takesIn K (.builtin "object.__class__") = some true) (hm : PySem.W.mroIn K (G.cls c) (.type "object") = some true) (hmg : mg c = some (.ref (G.cls c))) : IsoOk K mg G c :=
  ⟨cl, hd, ty, self, fun t => by cases t <;> assumption, ha, hn, ht, hm, hmg⟩
theorem kit_own {K : PySem.W.Frag} {C : Addr} {t : Value} {b : Bool} (hd : PySem.W.hasDictIn K C = true) (ht : PySem.W.typeIn K (.ref C) = some (.type "type")) (hne : (t == Value.ref C) = false) (h : PySem.W.subIn K t (.ref C) = some b) :
    PySem.W.kitOne K t (.ref C) = some b := by
  unfold PySem.W.kitOne
  rw [if_neg (by rw [hne]; decide)]
  obtain ⟨cd, hc, _⟩ := PySem.W.any_some hd
  have e2 : ((PySem.W.clsIn K C).isSome && PySem.W.typeIn K (.ref C) == some (.type "type")) = true := by rw [hc, ht] <;> rfl
  show (if ((PySem.W.clsIn K C).isSome && PySem.W.typeIn K (.ref C) == some (.type "type")) = true then PySem.W.subIn K t (.ref C) else none) = some b
  rw [if_pos e2]
  exact h
/-- what a value is, beside the own class c: an object of it, or of a built-in class -/
inductive Kd where
  | own | ty (t : Ty)
def kdD (c : Str) (S : Store) (d : Da) : Option Kd := match objAt S c d with
  | some _ => some .own
  | none => (tyD S d).map .ty
def Kd.isOwn : Kd → Bool
  | .own => true
  | .ty _ => false
def isOM (c : Str) (f : M Da) : M Da := fun ρ S => (f ρ S).bind fun d S1 => match kdD c S1 d with
  | some k => .ok (.bl k.isOwn) S1
  | none => .bad
section
variable {X : Cx} {G : Gc} {Wx : WX} {c : Str}
def Kd.cls (G : Gc) (c : Str) : Kd → Value
  | .own => .ref (G.cls c)
  | .ty t => .type t.name
theorem Rep.kd {W : Wd} {H : Hp} {S : Store} {d : Da} {v : V} {k : Kd} {mg : Str → Option Value} (O : IsoOk G.K mg G c) (s : SR G W H S) (r : Rep G W d v) (h : kdD c S d = some k) : TyX G.K H v (k.cls G c) ∧ PySem.W.kitOne G.K (k.cls G c) (.ref (G.cls c)) = some k.isOwn := by
  unfold kdD at h
  split at h
  · rename_i jf e
    cases h
    obtain ⟨a, dx, vs, rfl, _, h1, _⟩ := s.obj r (j := jf.1) (fs := jf.2) e
    exact ⟨.base (.ins h1 O.cl O.ha O.hget O.htak O.hm), kit_ref O.hd O.ty O.self O.self⟩
  · cases q : tyD S d with
    | none => rw [q] at h; cases h
    | some t =>
      rw [q] at h
      cases h
      exact ⟨r.tyX s q, kit_own O.hd O.ty rfl (O.sub t)⟩
theorem pd_isO {e : Expr} {f : M Da} {p p2 pos : Pos} (O : IsoOk X.K X.mg G c) (hm : X.mg "isinstance" = none) (he : PE X e (tM G Wx f)) (hg : Gl X "isinstance" := by rfl) (hg2 : Gl X c := by rfl) (hdb2 : (c == ("__debug__" : Str)) = false := by decide)
    (hs : starEach [e, .Name c p2] X.env = (false, eval e X.env) :: starEach [.Name c p2] X.env := by rfl) (hpl : (backTo pos (starEach [.Name c p2] X.env)).any (·.1) = false := by rfl) (hs2 : starEach [.Name c p2] X.env = (false, eval (.Name c p2) X.env) :: starEach [] X.env := by rfl) (hK : G.K = X.K := by rfl) :
    PE X (.Call (.Name "isinstance" p) [e, .Name c p2] [] pos) (tM G Wx (isOM c f)) :=
  (pe_callB call_isi hg hm (by decide +kernel) (pa_cons he (pa_cons (pe_glob (v := .ref (G.cls c)) hg2 O.mg rfl hdb2) pa_nil hs2) hs) (by decide) (by decide) hs hpl).imp fun σ H Q ⟨W, S, ρ, s, r, q⟩ => ⟨W, S, ρ, s, r, q.bind fun d S1 v W1 H1 x1 s1 q1 k1 => by
    cases e : kdD c S1 d with
    | none => simp only [e] at k1; exact k1.elim
    | some k =>
      simp only [e] at k1
      have z := q1.kd (mg := X.mg) (by rw [hK]; exact O) s1 e
      rw [hK] at z
      exact ⟨v, .ref (G.cls c), k.cls G c, .ref (G.cls c), k.isOwn, rfl, .own _, z.1, z.2, k1.here s1 (repB W1 _)⟩⟩
end
/-! ### == and != of an object with its own == -/
end NL
namespace PySem.W
open PySem
section
variable {prog : Program} {w : World} {A : Around} {E : Value → Shared → Prop} {s : Shared} {K : Frag} {x C L f : Addr} {h₀ : Heap} {m : Str → Option Value} {ox : Obj} {od : Option Obj} {name : Str} {b tb : Value}
theorem nl_ifBound {M : Model} {id : String} {args : List Value} {Q : Option Value → Shared → Prop} (X : K.In s.heap) (I : InstAt s.heap x ox C od) (hs : findIn K (.ref C) name = some (some (.builtin id))) (S : Slot "object" name id)
    (h : wpAny M A (call (.builtin id) (.ref x :: args)) (fun v => Q (some v)) E s) : wpAny M A (callSpecialIfBound? (.ref x) name args) Q E s := by
  have fin : wpAny M A (call (.builtin id) ([.ref x] ++ args) >>= fun v => pure (some v)) Q E s := wpAny_bind (wpAny_mono h (fun _ _ q => wpAny_pure q) fun _ _ q => q)
  simp only [callSpecialIfBound?, bindSpecialIfBound?]; refine wpAny_holding ?_
  refine wpAny_bind (wpAny_bind (wpAny_bind (I.type.here ((looks_findIn X hs).here ?_)))); simp only [S.bind]
  refine wpAny_bind (wpAny_askSetting ?_); refine wpAny_ite ?_
  split
  · exact wpAny_bind (wpAny_pure (wpAny_pure (by exact fin)))
  · exact wpAny_tryCatch (wpAny_bind (wpAny_pure (wpAny_pure (by exact fin))))
theorem nl_check {M : Model} {id owner n : String} {rest : List Value} {Q : Unit → Shared → Prop} (X : K.In s.heap) (I : InstAt s.heap x ox C od) (hk : builtinKind id = some .slot) (hsp : splitId id = some (owner, n)) (ha : argsOk id ⟨.ref x :: rest, []⟩)
    (ho : subIn K (.ref C) (.type owner) = some true) (hq : Q () s) : wpAny M A (checkBuiltinCall id ⟨.ref x :: rest, []⟩) Q E s := by
  simp only [checkBuiltinCall, hk, hsp]; refine wpAny_bind ?_; unfold isInstance
  refine wpAny_bind (I.type.here ((looks_subIn X ho).here ?_)); simp only [Bool.not_true, Bool.false_eq_true, if_false]; unfold argsOk at ha
  cases z : Manifest.signature? id with
  | none => exact wpAny_pure hq
  | some g => rw [z] at ha; dsimp only at ha ⊢; rw [show Bind.checkArgs id g ⟨.ref x :: rest, []⟩ = pure () from ha]; exact wpAny_pure hq
/-- what an own == gives back, turned about -/
def NotBack (Q : Value → Shared → Prop) (v : Value) (s' : Shared) : Prop := ∃ r, v = .bool r ∧ Q (.bool (!r)) s'
theorem nl_ne {Q : Value → Shared → Prop} (hu : A.units + 1 < cLine) (X : K.In s.heap) (I : InstAt s.heap x ox C od) (hb : Looks (model prog w) s.heap (typeOf b) tb) (hn : notFirst K C tb = true)
    (hs : findIn K (.ref C) "__eq__" = some (some (.ref f))) (hf : isFn K (.ref f) = true) (hne : findIn K (.ref C) "__ne__" = some (some (.builtin "object.__ne__"))) (ho : subIn K (.ref C) (.type "object") = some true)
    (h : wpAny (model prog w) A.in1 (call (.ref f) [.ref x, b]) (NotBack Q) E s) : wpAny (model prog w) A (richCompare .NotEq (.ref x) b) Q E s := by
  have one : wpAny (model prog w) A (tryCompare (.ref x) "__ne__" b) (fun r s' => ∃ v, r = some v ∧ Q v s') E s := by
    unfold tryCompare
    refine wpAny_bind (nl_ifBound X I hne F.cmp_object.ne (wpAny_call (codeAny_call_builtin F.cmp_object.ne.plain F.cmpEntry_ne (nl_check X I F.cmpKind_ne F.cmpSplit_ne (F.cmpArgs_ne _ _) ho ?_))))
    unfold PySem.Builtin.«object.__ne__»
    repeat (first
      | (with_reducible refine wpAny_cRoomFor (by exact hu) ?_)
      | (refine wpAny_bind (m := callSpecialIfBound? (.ref x) (Str.ofString "__eq__") [b]) (ifBound_K X I hs hf (wpAny_mono h (fun r s' hr => by
          obtain ⟨t, rfl, hq⟩ := hr
          repeat (first | exact wpAny_pure ⟨_, rfl, hq⟩ | exact ⟨_, rfl, hq⟩ | exact wpAny_pure hq | (refine wpAny_bind (m := truthy (.bool _)) (wpAny_truthy_bool ?_)) | wp_step)) fun _ _ e => e)))
      | wp_step)
  unfold richCompare; simp only [oneThing_ref]
  refine wpAny_holding (wpAny_bind (wpAny_cRoomFor (Nat.lt_of_succ_lt hu) ?_))
  refine wpAny_bind (I.type.here ?_); refine wpAny_bind (hb.here ?_)
  have past : ∀ (r : Option Value) (s' : Shared), (∃ v, r = some v ∧ Q v s') → ∃ v, r = some v ∧ Q v s' := fun _ _ z => z
  split
  · rename_i q
    have e : PySem.W.subIn K tb (.ref C) = some false := by
      cases ht : (tb == .ref C) with
      | true => rw [beq_iff_eq.mp ht] at q; exact absurd q (by simp)
      | false => rw [notFirst, ht, Bool.false_or] at hn; exact beq_iff_eq.mp hn
    refine wpAny_bind (PySem.W.looks_subIn X e |>.here ?_); simp only [Bool.false_eq_true, if_false]
    refine wpAny_bind (wpAny_mono one (fun r s' z => by obtain ⟨v, rfl, hq⟩ := z; exact wpAny_pure hq) fun _ _ e => e)
  · refine wpAny_bind (wpAny_pure ?_); simp only [Bool.false_eq_true, if_false]
    refine wpAny_bind (wpAny_mono one (fun r s' z => by obtain ⟨v, rfl, hq⟩ := z; exact wpAny_pure hq) fun _ _ e => e)
end
end PySem.W
namespace NL
open PySem PySem.Spec PyProof.Rows L2
theorem RoomG.in1 {k : Nat} {A : Around} (r : RoomG (k + 1) A) : RoomG k A.in1 := ⟨r.rm.in1, r.gd⟩
/-- what == with an own def asks of the class -/
structure EqOk (P : Program) (w : World) (K : PySem.W.Frag) (mg : Str → Option Value) (base : Heap) (G : Gc) (c : Str) (k : Nat) (mf : Mf) : Prop where
  me : MethOk P w K mg base G c "__eq__" k 2 mf
  io : IsoOk K mg G c
  ne : PySem.W.findIn K (.ref (G.cls c)) "__ne__" = some (some (.builtin "object.__ne__"))
  so : PySem.W.subIn K (.ref (G.cls c)) (.type "object") = some true
def eqOR (c : Str) (mf : Mf) (neg : Bool) (a b : Da) (S : Store) : Res Da := match objAt S c a, kdD c S b with
  | some _, some _ => match mf [a, b] S with
    | .ok (.bl t) S' => .ok (.bl (t != neg)) S'
    | _ => .bad
  | _, _ => .bad
def eqOM (c : Str) (mf : Mf) (neg : Bool) (f g : M Da) : M Da := fun ρ S => (f ρ S).bind fun a S1 => (g ρ S1).bind fun b S2 => eqOR c mf neg a b S2
def AftR (G : Gc) (W : Wd) (H : Hp) (r : Res Da) (Q : VK) : Prop := match r with
  | .ok d S => ∀ v W' H', Ext W H W' H' → SR G W' H' S → Rep G W' d v → Q v H'
  | _ => False
def rEqO (G : Gc) (c : Str) (mf : Mf) (neg : Bool) : R2 := fun x y H Q => ∃ W S a b, SR G W H S ∧ Rep G W a x ∧ Rep G W b y ∧ AftR G W H (eqOR c mf neg a b S) Q
section
variable {X : Cx} {G : Gc} {Wx : WX} {c : Str} {k : Nat} {mf : Mf}
theorem ranAt {f : Addr} {fd : FuncData} {ps : List Str} {sp : Sp} {A : Around} {pins : List (Addr × Obj)} {σ : L2.St} {H : Hp} {s : Shared} {Q : VK} {us : List Value} {vs : List V} (F : FnG X.prog X.w X.K X.mg X.base k f fd ps sp) (hr : RoomG k A) (e0 : Env0 X.prog X.w X.K X.mg X.base A X.stack s H) (hb : Binds X.K fd ps [])
    (I : Inv X pins σ H s) (r : Vals vs us) (h : sp vs H Q fun _ _ _ => False) : wpAny (model X.prog X.w) A (call (.ref f) us) (EP X pins σ Q) X.xe s := by
  have b := hb s us I.kIn (by rw [List.append_nil, ← r.length]; exact F.len _ _ _ _ h)
  rw [List.append_nil] at b
  refine wpAny_call (codeAny_mono (F.run hr e0 b r h) ?_)
  rintro (er | fl) s2 hq
  · obtain ⟨_, _, _, _, _, _, _, _, _, _, _, _, z⟩ := hq
    exact z.elim
  · cases fl with
    | ret u => exact I.after hq
    | _ => exact hq.elim
theorem Kd.notFirst {K : PySem.W.Frag} {mg : Str → Option Value} (O : IsoOk K mg G c) (kd : Kd) : PySem.W.notFirst K (G.cls c) (kd.cls G c) = true := by
  unfold PySem.W.notFirst
  cases kd with
  | own => simp [Kd.cls]
  | ty t => simp [Kd.cls, O.sub t]
theorem or_eqO {neg : Bool} {op : CmpOp} (hop : op = if neg then .NotEq else .Eq) (C : EqOk X.prog X.w X.K X.mg X.base G c k mf) (hr : RoomG (k + 1) X.A) (hK : G.K = X.K := by rfl) : OpR X (compareOp op) (rEqO G c mf neg) := by
  intro pins s σ H x y v u Q I rx ry rd
  obtain ⟨W, S, a, b, sr, ra, rb, q⟩ := rd
  obtain ⟨f, fd, ps, F, cl, hm, hb⟩ := C.me.ex
  unfold eqOR at q
  cases ho : objAt S c a with
  | none => rw [ho] at q; exact q.elim
  | some jf =>
    cases hk : kdD c S b with
    | none => rw [ho, hk] at q; exact q.elim
    | some kd =>
      rw [ho, hk] at q
      dsimp only at q
      obtain ⟨ad, dx, vs, rfl, _, h1, _⟩ := sr.obj ra (j := jf.1) (fs := jf.2) ho
      cases rx
      obtain ⟨mA, J, _⟩ := ins_get I.hok h1
      obtain ⟨od, J, _⟩ := J.look
      have tk := rb.kd (mg := X.mg) (by rw [hK]; exact C.io) sr hk
      rw [hK] at tk
      obtain ⟨P, Z, p, _⟩ := kit_of I ry tk.1
      have ty := Z.ty (model X.prog X.w) s.heap I.kIn p
      have nf := kd.notFirst C.io
      cases hmf : mf [a, b] S with
      | ok d S' =>
        rw [hmf] at q
        cases d with
        | bl t =>
          have sp : spM G 2 mf [.ref ad, y] H (fun z H' => z = .bl t ∧ Q (.bl (t != neg)) H') fun _ _ _ => False := by
            refine ⟨rfl, W, S, [a, b], sr, .cons ra (.cons rb .nil), ?_⟩
            rw [hmf]
            exact fun z W' H' x' s' r' => ⟨r'.bl_inv, q _ W' H' x' s' (repB W' _)⟩
          have rv : Vals [V.ref ad, y] [Value.ref ad, u] := .cons rfl (.cons ry .nil)
          cases neg with
          | false =>
            subst hop
            show wpAny (model X.prog X.w) X.A (richCompare .Eq (.ref ad) u) (EP X pins σ Q) X.xe s
            obtain ⟨m, hF⟩ := I.fr
            refine PySem.W.cmp_K (op := .Eq) hr.rm.units0 hF I.ok.mod.kin J ty nf hm.at_ hm.fn ?_
            refine wpAny_mono (ranAt F (hr.mono (Nat.le_succ _)) I.env0 hb I rv sp) (fun w s' z => ?_) fun _ _ x => x
            obtain ⟨z', H', I', rz, rfl, qz⟩ := z
            cases (show w = Value.bool t from rz)
            have e : (t != false) = t := by cases t <;> rfl
            rw [e] at qz
            exact ⟨.bl t, H', I', rfl, qz⟩
          | true =>
            subst hop
            show wpAny (model X.prog X.w) X.A (richCompare .NotEq (.ref ad) u) (EP X pins σ Q) X.xe s
            refine PySem.W.nl_ne (by have := hr.rm.units0; have := hr.rm.units; omega) I.kIn J ty nf hm.at_ hm.fn C.ne C.so ?_
            refine wpAny_mono (ranAt F hr.in1 I.env0.in1 hb I rv sp) (fun w s' z => ?_) fun _ _ x => x
            obtain ⟨z', H', I', rz, rfl, qz⟩ := z
            cases (show w = Value.bool t from rz)
            have e : (t != true) = !t := by cases t <;> rfl
            rw [e] at qz
            exact ⟨t, rfl, .bl (!t), H', I', rfl, qz⟩
        | _ => exact q.elim
      | exc _ _ _ => rw [hmf] at q; exact q.elim
      | bad => rw [hmf] at q; exact q.elim
theorem eqO_imp {neg : Bool} {f g : M Da} {σ : L2.St} {H : Hp} {Q : VK} (k : tM G Wx (eqOM c mf neg f g) σ H Q) : tOp (rEqO G c mf neg) (tM G Wx f) (tM G Wx g) σ H Q := by
  obtain ⟨W, S, ρ, s, r, q⟩ := k
  refine ⟨W, S, ρ, s, r, q.bind fun a S1 x W1 H1 x1 s1 q1 k1 => ⟨W1, S1, ρ, s1, r.mono x1.le, k1.bind fun b S2 y W2 H2 x2 s2 q2 k2 => ⟨W2, S2, a, b, s2, q1.mono x2.le, q2, ?_⟩⟩⟩
  unfold eqOR at k2 ⊢
  revert k2
  cases objAt S2 c a with
  | none => exact fun q => q.elim
  | some jf => cases kdD c S2 b with
    | none => exact fun q => q.elim
    | some kd =>
      dsimp only
      cases mf [a, b] S2 with
      | ok d S' => cases d with
        | bl t => exact fun q => q
        | _ => exact fun q => q.elim
      | _ => exact fun q => q.elim
theorem pd_eqO {a b : Expr} {f g : M Da} {pos : Pos} (C : EqOk X.prog X.w X.K X.mg X.base G c k mf) (hr : RoomG (k + 1) X.A) (ha : PE X a (tM G Wx f)) (hb : PE X b (tM G Wx g)) (hK : G.K = X.K := by rfl) (hm : behindInMarks .Eq b = false := by first | exact nobehind _ (by decide) (by decide) | rfl) : PE X (.Compare a [.Eq] [b] pos) (tM G Wx (eqOM c mf false f g)) :=
  (pe_cmpR (or_eqO (neg := false) rfl C hr hK) ha hb hm).imp fun _ _ _ k => eqO_imp k
theorem pd_neO {a b : Expr} {f g : M Da} {pos : Pos} (C : EqOk X.prog X.w X.K X.mg X.base G c k mf) (hr : RoomG (k + 1) X.A) (ha : PE X a (tM G Wx f)) (hb : PE X b (tM G Wx g)) (hK : G.K = X.K := by rfl) (hm : behindInMarks .NotEq b = false := by first | exact nobehind _ (by decide) (by decide) | rfl) : PE X (.Compare a [.NotEq] [b] pos) (tM G Wx (eqOM c mf true f g)) :=
  (pe_cmpR (or_eqO (neg := true) rfl C hr hK) ha hb hm).imp fun _ _ _ k => eqO_imp k
theorem ptd_eqO {a b : Expr} {f g : M Da} {pos : Pos} (C : EqOk X.prog X.w X.K X.mg X.base G c k mf) (hr : RoomG (k + 1) X.A) (ha : PE X a (tM G Wx f)) (hb : PE X b (tM G Wx g)) (hK : G.K = X.K := by rfl) (hm : behindInMarks .Eq b = false := by first | exact nobehind _ (by decide) (by decide) | rfl) : PT X (.Compare a [.Eq] [b] pos) (tMb G Wx (tstM (eqOM c mf false f g))) :=
  (pt_cmpR (or_eqO (neg := false) rfl C hr hK) ha hb hm).imp fun _ _ _ k => eqO_imp (tst_imp k)
theorem ptd_neO {a b : Expr} {f g : M Da} {pos : Pos} (C : EqOk X.prog X.w X.K X.mg X.base G c k mf) (hr : RoomG (k + 1) X.A) (ha : PE X a (tM G Wx f)) (hb : PE X b (tM G Wx g)) (hK : G.K = X.K := by rfl) (hm : behindInMarks .NotEq b = false := by first | exact nobehind _ (by decide) (by decide) | rfl) : PT X (.Compare a [.NotEq] [b] pos) (tMb G Wx (tstM (eqOM c mf true f g))) :=
  (pt_cmpR (or_eqO (neg := true) rfl C hr hK) ha hb hm).imp fun _ _ _ k => eqO_imp (tst_imp k)
end
end NL

set_option Elab.async false
set_option linter.all false
set_option autoImplicit false
set_option maxRecDepth 100000
set_option maxHeartbeats 4100000
/-! ### sorted: tuples of ints of any lengths -/
namespace NLS
open PySem PyProof.Rows L2 SrtO
theorem lex_irr : ∀ a : List Int, HT.lexLt a a = false
  | [] => rfl
  | x :: a => by rw [HT.lexLt_cons, if_pos rfl, lex_irr a]
theorem lex_asym : ∀ a b : List Int, HT.lexLt a b = true → HT.lexLt b a = false
  | [], [], h => by cases h
  | [], y :: b, _ => rfl
  | x :: a, [], h => by cases h
  | x :: a, y :: b, h => by
    rw [HT.lexLt_cons] at h ⊢
    by_cases e : x = y
    · rw [if_pos e] at h; rw [if_pos e.symm]; exact lex_asym a b h
    · rw [if_neg e] at h; rw [if_neg (fun z => e z.symm)]
      have := of_decide_eq_true h
      exact decide_eq_false (fun z => by omega)
theorem lex_tr : ∀ x y z : List Int, HT.lexLt y x = false → HT.lexLt z y = false → HT.lexLt z x = false
  | [], [], _, _, h2 => h2
  | [], _ :: _, [], _, _ => rfl
  | [], (_ :: _), (_ :: _), _, _ => rfl
  | _ :: _, [], _, h1, _ => by cases h1
  | _ :: _, _ :: _, [], _, h2 => by cases h2
  | a :: x, b :: y, c :: z, h1, h2 => by
    rw [HT.lexLt_cons] at h1 h2 ⊢
    by_cases e1 : b = a
    · rw [if_pos e1] at h1
      by_cases e2 : c = b
      · rw [if_pos e2] at h2
        rw [if_pos (e2.trans e1)]; exact lex_tr x y z h1 h2
      · rw [if_neg e2] at h2
        rw [if_neg (by rw [← e1]; exact e2), ← e1]; exact h2
    · rw [if_neg e1] at h1
      have k1 := of_decide_eq_false h1
      by_cases e2 : c = b
      · rw [e2, if_neg e1]; exact h1
      · rw [if_neg e2] at h2
        have k2 := of_decide_eq_false h2
        rw [if_neg (by omega)]
        exact decide_eq_false (fun z => by omega)
theorem lex_tri : ∀ a b : List Int, HT.lexLt a b = false → HT.lexLt b a = false → a = b
  | [], [], _, _ => rfl
  | [], (_ :: _), h, _ => nomatch h
  | _ :: _, [], _, h => nomatch h
  | x :: a, y :: b, h1, h2 => by
    rw [HT.lexLt_cons] at h1 h2
    by_cases e : x = y
    · rw [if_pos e] at h1; rw [if_pos e.symm] at h2
      rw [e, lex_tri a b h1 h2]
    · rw [if_neg e] at h1; rw [if_neg (fun z => e z.symm)] at h2
      have k1 := of_decide_eq_false h1
      have k2 := of_decide_eq_false h2
      omega
/-- a value is a tuple of these ints -/
def TI (h : Heap) (v : Value) (ns : List Int) : Prop := ∃ (a : Addr) (items : Array Value), v = .ref a ∧ h.IsTuple a items ∧ IntsAre items.toList ns
theorem ints_inj : ∀ {l : List Value} {ns ms : List Int}, IntsAre l ns → IntsAre l ms → ns = ms
  | _, _, _, .nil, .nil => rfl
  | _, _, _, .cons n _ h, .cons _ _ k => by rw [ints_inj h k]
theorem TI.inj {h : Heap} {v : Value} {ns ms : List Int} (a : TI h v ns) (b : TI h v ms) : ns = ms := by
  obtain ⟨x, its, rfl, ⟨o, h1, h2, n, h3⟩, i⟩ := a
  obtain ⟨y, its', e, ⟨o', h1', h2', n', h3'⟩, i'⟩ := b
  cases e
  rw [h1] at h1'; cases h1'
  rw [h3] at h3'; cases h3'
  exact ints_inj i i'
open Classical in
noncomputable def tupI (h : Heap) (v : Value) : List Int := if q : ∃ ns, TI h v ns then Classical.choose q else []
theorem TI.get {h : Heap} {v : Value} {ns : List Int} (a : TI h v ns) : tupI h v = ns := by
  have q : ∃ ns, TI h v ns := ⟨ns, a⟩
  unfold tupI
  rw [dif_pos q]
  exact (Classical.choose_spec q).inj a
theorem TI.keep {h h' : Heap} {v : Value} {ns : List Int} (a : TI h v ns) (k : ∀ b o, h.get? b = some o → o.cls = .type "tuple" → h'.get? b = some o) : TI h' v ns := by
  obtain ⟨x, its, e, ⟨o, h1, h2, h3⟩, i⟩ := a
  exact ⟨x, its, e, ⟨o, k x o h1 h2, h2, h3⟩, i⟩
noncomputable def ltT (h : Heap) : Value → Value → Bool := fun v u => HT.lexLt (tupI h v) (tupI h u)
theorem swoT (h : Heap) : Swo (ltT h) := ⟨fun x y => lex_asym _ _, fun x y z => lex_tr _ _ _⟩
section
variable {prog : Program} {w : World} {A : Around} {E : Value → Shared → Prop} {s : Shared}
theorem lt_any {v u : Value} {ns ms : List Int} {Q : Bool → Shared → Prop} (a : TI s.heap v ns) (b : TI s.heap u ms) (hu : A.units < cLine) (h : Q (HT.lexLt ns ms) s) : wpAny (model prog w) A (keyLt' oneType' v u) Q E s := by
  obtain ⟨x, its, rfl, ⟨o, h1, h2, n, h3⟩, i⟩ := a
  obtain ⟨y, its', rfl, ⟨o', h1', h2', n', h3'⟩, i'⟩ := b
  obtain ⟨c, dd, dt, sl⟩ := o
  obtain ⟨c', dd', dt', sl'⟩ := o'
  simp only at h2 h3 h2' h3'
  subst h2 h3 h2' h3'
  rw [keyLt'_oneType, oneLt'_eq, if_pos rfl]; refine wpAny_bind (wpAny_cRoomFor hu ?_)
  refine wpAny_bind (wpAny_callSpecialIfBound?_slot ⟨_, h1, rfl⟩ PySem.F.slot_tuple_lt (call_meets PySem.F.slot_tuple_lt ⟨_, h1, rfl⟩ PySem.F.entry_tuple_lt (PySem.F.args_tuple_lt_2 _ _) (HT.tuple_lt_ints x y its its' n n' dd dd' sl sl' ns ms i i') ⟨h1, h1', ?_⟩))
  exact wpAny_truthy_bool h
theorem kat_any {b fin : Bool} {Q : Bool → Shared → Prop} : ∀ {xs ys : List Value} {ns ms : List Int} (i : Nat), IntsAre xs ns → IntsAre ys ms → fin = decide (ns.length < ms.length) → Q (HT.lexLt ns ms) s → PySem.W.KatLex prog w A b fin Q (xs.zip ys) i s
  | [], [], _, _, _, .nil, .nil, hf, h => by
    have e : fin = HT.lexLt [] [] := hf
    rw [← e] at h
    exact PySem.W.kat_nil h
  | [], _ :: _, _, _, _, .nil, .cons _ _ _, hf, h => by
    have e : fin = true := hf
    rw [List.zip_nil_left]
    exact PySem.W.kat_nil (by rw [e]; exact h)
  | _ :: _, [], _, _, _, .cons _ _ _, .nil, hf, h => by
    have e : fin = false := hf
    rw [List.zip_nil_right]
    exact PySem.W.kat_nil (by rw [e]; exact h)
  | _ :: xs, _ :: ys, _, _, i, .cons n t hx, .cons m u hy, hf, h => by
    rw [List.zip_cons_cons]
    rw [HT.lexLt_cons] at h
    refine PySem.W.kat_cons (SeqAt.EqAt.int_int n t m u prog w _ _ ?_)
    refine PySem.W.kat_go (fun same => ?_) (fun e1 => ?_)
    · have ex : n = m := by simpa using same
      rw [if_pos ex] at h
      refine PySem.W.kat_yes (kat_any (i + 1) hx hy (hf.trans ?_) h)
      simp
    · have ex : ¬ n = m := by simpa using e1
      rw [if_neg ex] at h
      refine PySem.W.kat_no ?_
      cases q : (b && i == 0) with
      | true => exact oneLt_int h
      | false => exact PySem.W.kat_one _ _ (PyProof.Rows.lt_int h)
theorem lt_full {v u : Value} {ns ms : List Int} {Q : Bool → Shared → Prop} (a : TI s.heap v ns) (b : TI s.heap u ms) (h : Q (HT.lexLt ns ms) s) : wpAny (model prog w) A (keyLt' (tuples' true) v u) Q E s := by
  obtain ⟨x, its, rfl, ⟨o, h1, h2, n, h3⟩, i⟩ := a
  obtain ⟨y, its', rfl, ⟨o', h1', h2', n', h3'⟩, i'⟩ := b
  refine PySem.W.kat_lt h1 h3 h1' h3' (kat_any 0 i i' ?_ h)
  rw [← Array.length_toList, ← Array.length_toList, i.length, i'.length]
/-- the sort's kind where the first one has no item -/
theorem kind_any {vs : List Value} {Q : SortKind → Shared → Prop} (h0 : ∃ v r, vs = v :: r ∧ TI s.heap v []) (hv : ∀ v ∈ vs, ∃ ns, TI s.heap v ns) (h : Q oneType' s) : wpAny (model prog w) A (keyKind' vs.toArray) Q E s := by
  have look : ∀ v ns, TI s.heap v ns → PySem.W.Looks (model prog w) s.heap (typeOf v) (.type "tuple") := fun v ns ti => by
    obtain ⟨a, its, rfl, ⟨o, h1, h2, n, h3⟩, i⟩ := ti
    rw [← h2]
    exact (PySem.W.Looks.ld h1).andThen .now
  have first : ∀ v ns, TI s.heap v ns → ∀ {Q' : Option Value → Shared → Prop}, (∀ r, (ns = [] → r = none) → (ns ≠ [] → r ≠ none) → Q' r s) → wpAny (model prog w) A (firstOfTuple' v) Q' E s := fun v ns ti Q' hq => by
    have lk := look v ns ti
    obtain ⟨a, its, rfl, ⟨o, h1, h2, n, h3⟩, i⟩ := ti
    rw [PySem.W.kas_first_eq]
    refine wpAny_bind (lk.here ?_)
    rw [if_neg (by first | decide | simp)]
    refine wpAny_bind (listItems_at h1 h3 (wpAny_pure (hq _ (fun e => ?_) fun e => ?_)))
    · subst e
      have : its.toList = [] := by cases q : its.toList with
        | nil => rfl
        | cons x l => rw [q] at i; cases i
      have : its = #[] := by apply Array.toList_inj.mp; simpa using this
      subst this; rfl
    · intro z
      have hl := i.length
      cases ns with
      | nil => exact e rfl
      | cons x l =>
        have : 0 < its.size := by rw [← Array.length_toList, hl]; simp
        simp [this] at z
  have firsts : ∀ (l : List Value), (∀ v ∈ l, ∃ ns, TI s.heap v ns) → ∀ {Q' : List (Option Value) → Shared → Prop}, (∀ rs : List (Option Value), (∀ v r, l = v :: r → TI s.heap v [] → ∃ r', rs = none :: r') → Q' rs s) → wpAny (model prog w) A (l.mapM firstOfTuple') Q' E s := by
    intro l
    induction l with
    | nil => intro _ Q' hq; rw [List.mapM_nil]; exact wpAny_pure (hq [] fun v r z => by cases z)
    | cons v l ih =>
      intro hl Q' hq
      obtain ⟨ns, ti⟩ := hl v List.mem_cons_self
      rw [List.mapM_cons]
      refine wpAny_bind (first v ns ti fun r hr _ => wpAny_bind (ih (fun u hu => hl u (List.mem_cons_of_mem _ hu)) fun rs _ => wpAny_pure (hq (r :: rs) fun v' r' z ti' => ?_)))
      cases z
      rw [hr (ti.inj ti')]
      exact ⟨rs, rfl⟩
  obtain ⟨v, r, rfl, ti⟩ := h0
  rw [PyProof.Rows.kat_kind_eq, List.mapM_toArray, map_eq_pure_bind]
  refine wpAny_bind (wpAny_bind (firsts _ hv fun rs hrs => wpAny_pure ?_))
  obtain ⟨rs', rfl⟩ := hrs v r rfl ti
  rw [if_neg (by simp), if_neg (by simp), oneTypeOnly'_eq, List.mapM_toArray, map_eq_pure_bind]
  refine wpAny_bind (wpAny_bind (wpAny_bind (PySem.W.kas_mapM (r := Value.type "tuple") _ (fun u hu Q' hq => by
    obtain ⟨ns, ti⟩ := hv u hu
    exact (look u ns ti).here hq) (wpAny_pure ?_))))
  have hall2 : ((List.map (fun _ => Value.type "tuple") (v :: r)).toArray.all fun x => x == Value.type "tuple") = true := by
    simp
  have h00 : (List.map (fun _ => Value.type "tuple") (v :: r)).toArray[0]? = some (Value.type "tuple") := by simp
  rw [h00]
  simp only [hall2, if_true]; exact wpAny_pure (wpAny_pure h)
theorem kind_full {vs : List Value} {Q : SortKind → Shared → Prop} (h0 : 0 < vs.length) (hv : ∀ v ∈ vs, ∃ n ns, TI s.heap v (n :: ns)) (h : Q (tuples' true) s) : wpAny (model prog w) A (keyKind' vs.toArray) Q E s := by
  have ex : ∀ l : List Value, (∀ v ∈ l, ∃ n ns, TI s.heap v (n :: ns)) → ∃ fs, PySem.W.KatTups s.heap l fs ∧ fs.length = l.length ∧ ∀ f ∈ fs, ∃ x t, f = Value.int x t := by
    intro l
    induction l with
    | nil => intro _; exact ⟨[], .nil, rfl, fun f hf => by cases hf⟩
    | cons v l ih =>
      intro hl
      obtain ⟨fs, h1, h2, h3⟩ := ih fun u hu => hl u (List.mem_cons_of_mem _ hu)
      obtain ⟨n, ns, a, its, rfl, ⟨o, q1, q2, k, q3⟩, i⟩ := hl v List.mem_cons_self
      cases e : its.toList with
      | nil => rw [e] at i; cases i
      | cons x l2 =>
        rw [e] at i
        cases i with
        | cons _ t _ =>
          refine ⟨_ :: fs, .cons q1 q2 q3 (f := .int n t) ?_ h1, by simp [h2], fun f hf => ?_⟩
          · rw [← Array.getElem?_toList, e]; rfl
          · rcases List.mem_cons.1 hf with z | z
            · exact ⟨n, t, z⟩
            · exact h3 f z
  obtain ⟨fs, h1, h2, h3⟩ := ex vs hv
  have e : (Value.type "int" != Value.type "tuple") = true := by decide +kernel
  refine PySem.W.kat_kind (T := .type "int") h1 (by omega) (fun f hm => by obtain ⟨x, t, rfl⟩ := h3 f hm; exact PySem.W.Looks.now) (by rfl) ?_
  rw [e]; exact h
/-- what can be sorted here: no tuple without items, or the first one -/
def Ok2 (h : Heap) (vs : List Value) : Prop := (∀ v ∈ vs, ∃ n ns, TI h v (n :: ns)) ∨ ((∃ v r, vs = v :: r ∧ TI h v []) ∧ ∀ v ∈ vs, ∃ ns, TI h v ns)
theorem Ok2.all {h : Heap} {vs : List Value} (o : Ok2 h vs) : ∀ v ∈ vs, ∃ ns, TI h v ns := by
  rcases o with o | o
  · exact fun v hv => let ⟨n, ns, t⟩ := o v hv; ⟨_, t⟩
  · exact o.2
theorem Ok2.keep {h h' : Heap} {vs : List Value} (o : Ok2 h vs) (k : ∀ b o, h.get? b = some o → o.cls = .type "tuple" → h'.get? b = some o) : Ok2 h' vs := by
  rcases o with o | ⟨⟨v, r, e, t⟩, o⟩
  · exact .inl fun v hv => let ⟨n, ns, t⟩ := o v hv; ⟨n, ns, t.keep k⟩
  · exact .inr ⟨⟨v, r, e, t.keep k⟩, fun v hv => let ⟨ns, t⟩ := o v hv; ⟨ns, t.keep k⟩⟩
theorem sortable {a : Addr} {vs : List Value} (h2 : 2 ≤ vs.length) (hu : A.units < cLine) (o : Ok2 s.heap vs) (ha : ∀ o, s.heap.get? a = some o → o.cls ≠ .type "tuple") : SortableO prog w A s a vs (ltT s.heap) := by
  intro h' keep
  have kt : ∀ b o, s.heap.get? b = some o → o.cls = .type "tuple" → h'.get? b = some o := fun b o e c => keep b o (fun z => by subst z; exact ha o e c) e
  have o' := o.keep kt
  have cmp : ∀ p q : Keyed, p.1 ∈ vs → q.1 ∈ vs → ∃ ns ms, TI h' p.1 ns ∧ TI h' q.1 ms ∧ lt2 (ltT s.heap) p q = HT.lexLt ns ms := fun p q hp hq => by
    obtain ⟨ns, t1⟩ := o.all _ hp
    obtain ⟨ms, t2⟩ := o.all _ hq
    refine ⟨ns, ms, t1.keep kt, t2.keep kt, ?_⟩
    show HT.lexLt (tupI s.heap p.1) (tupI s.heap q.1) = _
    rw [t1.get, t2.get]
  rcases o' with o' | o'
  · refine ⟨tuples' true, fun Q E hq => kind_full (by omega) o' hq, fun p q hp hq => ?_⟩
    obtain ⟨ns, ms, t1, t2, e⟩ := cmp p q hp hq
    rw [e]
    exact lt_full (s := { s with heap := h' }) t1 t2 ⟨rfl, rfl⟩
  · refine ⟨oneType', fun Q E hq => kind_any o'.1 o'.2 hq, fun p q hp hq => ?_⟩
    obtain ⟨ns, ms, t1, t2, e⟩ := cmp p q hp hq
    rw [e]
    exact lt_any (s := { s with heap := h' }) t1 t2 hu ⟨rfl, rfl⟩
end
end NLS

set_option Elab.async false
set_option linter.all false
set_option autoImplicit false
set_option maxRecDepth 100000
set_option maxHeartbeats 4100000
namespace NL
open PySem PySem.Spec PyProof.Rows L2
/-! ### rows sorted, in plain Lean -/
def leL (a b : List Int) : Prop := HT.lexLt b a = false
def insL (x : List Int) : List (List Int) → List (List Int)
  | [] => [x]
  | y :: l => if HT.lexLt y x = true then y :: insL x l else x :: y :: l
def sortL (l : List (List Int)) : List (List Int) := l.foldr insL []
def insLU (x : List Int) : List (List Int) → List (List Int)
  | [] => [x]
  | y :: l => if HT.lexLt y x = true then y :: insLU x l else if HT.lexLt x y = true then x :: y :: l else y :: l
def sortLU (l : List (List Int)) : List (List Int) := l.foldr insLU []
theorem leL_trans {a b c : List Int} (h : leL a b) (k : leL b c) : leL a c := NLS.lex_tr _ _ _ h k
theorem ltL_trans {a b c : List Int} (h : HT.lexLt a b = true) (k : HT.lexLt b c = true) : HT.lexLt a c = true := by
  cases q : HT.lexLt a c with
  | true => rfl
  | false =>
    have h2 := NLS.lex_tr b c a (NLS.lex_asym b c k) q
    rw [h] at h2; cases h2
theorem insL_perm (x : List Int) : ∀ l, (insL x l).Perm (x :: l)
  | [] => .refl _
  | y :: l => by
    unfold insL
    split
    · exact ((insL_perm x l).cons y).trans (.swap x y l)
    · exact .refl _
theorem sortL_perm : ∀ l, (sortL l).Perm l
  | [] => .refl _
  | x :: l => (insL_perm x (sortL l)).trans ((sortL_perm l).cons x)
theorem insL_sorted {x : List Int} : ∀ {l : List (List Int)}, l.Pairwise leL → (insL x l).Pairwise leL
  | [], _ => List.pairwise_singleton _ _
  | y :: l, h => by
    rw [List.pairwise_cons] at h
    unfold insL
    split
    · rename_i q
      refine List.pairwise_cons.mpr ⟨fun z hz => ?_, insL_sorted h.2⟩
      rcases List.mem_cons.1 ((insL_perm x l).mem_iff.mp hz) with e | e
      · rw [e]; exact NLS.lex_asym _ _ q
      · exact h.1 z e
    · rename_i q
      have q : leL x y := by unfold leL; simpa using q
      refine List.pairwise_cons.mpr ⟨fun z hz => ?_, List.pairwise_cons.mpr h⟩
      rcases List.mem_cons.1 hz with e | e
      · rw [e]; exact q
      · exact leL_trans q (h.1 z e)
theorem sortL_sorted : ∀ l, (sortL l).Pairwise leL
  | [] => List.Pairwise.nil
  | x :: l => insL_sorted (sortL_sorted l)
/-- one arrangement -/
theorem arr_uniq : ∀ {l m : List (List Int)}, l.Perm m → l.Pairwise leL → m.Pairwise leL → l = m
  | [], m, p, _, _ => (List.nil_perm.mp p).symm
  | x :: l, [], p, _, _ => absurd p.length_eq (by simp)
  | x :: l, y :: m, p, h1, h2 => by
    rw [List.pairwise_cons] at h1 h2
    have e : x = y := by
      have a : y = x ∨ y ∈ l := List.mem_cons.1 (p.mem_iff.mpr List.mem_cons_self)
      have b : x = y ∨ x ∈ m := List.mem_cons.1 (p.mem_iff.mp List.mem_cons_self)
      rcases a with a | a
      · exact a.symm
      · rcases b with b | b
        · exact b
        · exact NLS.lex_tri _ _ (h2.1 x b) (h1.1 y a)
    subst e
    rw [arr_uniq (List.perm_cons x |>.mp p) h1.2 h2.2]
theorem mem_insLU {x z : List Int} : ∀ {l : List (List Int)}, z ∈ insLU x l ↔ z = x ∨ z ∈ l
  | [] => by simp [insLU]
  | y :: l => by
    unfold insLU
    split
    · rw [List.mem_cons, mem_insLU, List.mem_cons]
      constructor
      · rintro (h | h | h)
        · exact .inr (.inl h)
        · exact .inl h
        · exact .inr (.inr h)
      · rintro (h | h | h)
        · exact .inr (.inl h)
        · exact .inl h
        · exact .inr (.inr h)
    · rename_i q1
      split
      · rw [List.mem_cons]
      · rename_i q2
        have e : x = y := NLS.lex_tri _ _ (by simpa using q2) (by simpa using q1)
        subst e
        rw [List.mem_cons]
        constructor
        · exact fun h => .inr h
        · rintro (h | h)
          · exact .inl h
          · exact h
theorem mem_sortLU {z : List Int} : ∀ {l : List (List Int)}, z ∈ sortLU l ↔ z ∈ l
  | [] => Iff.rfl
  | x :: l => by
    show z ∈ insLU x (sortLU l) ↔ _
    rw [mem_insLU, mem_sortLU, List.mem_cons]
theorem insLU_sorted {x : List Int} : ∀ {l : List (List Int)}, l.Pairwise (fun a b => HT.lexLt a b = true) → (insLU x l).Pairwise (fun a b => HT.lexLt a b = true)
  | [], _ => List.pairwise_singleton _ _
  | y :: l, h => by
    rw [List.pairwise_cons] at h
    unfold insLU
    split
    · rename_i q
      refine List.pairwise_cons.mpr ⟨fun z hz => ?_, insLU_sorted h.2⟩
      rcases mem_insLU.mp hz with e | e
      · rw [e]; exact q
      · exact h.1 z e
    · split
      · rename_i q
        refine List.pairwise_cons.mpr ⟨fun z hz => ?_, List.pairwise_cons.mpr h⟩
        rcases List.mem_cons.1 hz with e | e
        · rw [e]; exact q
        · exact ltL_trans q (h.1 z e)
      · exact List.pairwise_cons.mpr h
theorem sortLU_sorted : ∀ l, (sortLU l).Pairwise fun a b => HT.lexLt a b = true
  | [] => List.Pairwise.nil
  | x :: l => insLU_sorted (sortLU_sorted l)
theorem strict_uniq : ∀ {l m : List (List Int)}, (∀ z, z ∈ l ↔ z ∈ m) → l.Pairwise (fun a b => HT.lexLt a b = true) → m.Pairwise (fun a b => HT.lexLt a b = true) → l = m
  | [], [], _, _, _ => rfl
  | [], y :: m, h, _, _ => absurd ((h y).mpr List.mem_cons_self) (by simp)
  | x :: l, [], h, _, _ => absurd ((h x).mp List.mem_cons_self) (by simp)
  | x :: l, y :: m, h, h1, h2 => by
    rw [List.pairwise_cons] at h1 h2
    have irr : ∀ a, ¬ HT.lexLt a a = true := fun a => by rw [NLS.lex_irr]; decide
    have no : ∀ {a b : List Int}, HT.lexLt a b = true → HT.lexLt b a = true → False := fun p q => by rw [NLS.lex_asym _ _ p] at q; cases q
    have e : x = y := by
      rcases List.mem_cons.1 ((h y).mpr List.mem_cons_self) with a | a
      · exact a.symm
      · rcases List.mem_cons.1 ((h x).mp List.mem_cons_self) with b | b
        · exact b
        · exact (no (h1.1 y a) (h2.1 x b)).elim
    subst e
    rw [strict_uniq (l := l) (m := m) (fun z => ?_) h1.2 h2.2]
    constructor
    · intro hz
      rcases List.mem_cons.1 ((h z).mp (List.mem_cons_of_mem _ hz)) with a | a
      · rw [a] at hz; exact (irr x (h1.1 x hz)).elim
      · exact a
    · intro hz
      rcases List.mem_cons.1 ((h z).mpr (List.mem_cons_of_mem _ hz)) with a | a
      · rw [a] at hz; exact (irr x (h2.1 x hz)).elim
      · exact a
/-! ### sorted(list of tuples of ints) -/
/-- these values are tuples of these rows -/
inductive TupL (K : PySem.W.Frag) (H : Hp) : List V → List (List Int) → Prop
  | nil : TupL K H [] []
  | cons {a : Addr} {r : List Int} {xs : List V} {rs : List (List Int)} (h : SqT K H a (r.map V.int)) (t : TupL K H xs rs) : TupL K H (.ref a :: xs) (r :: rs)
def Ok3 (rs : List (List Int)) : Prop := (∀ r ∈ rs, r ≠ []) ∨ rs.head? = some []
instance (rs : List (List Int)) : Decidable (Ok3 rs) := by unfold Ok3; infer_instance
def rSortL (K : PySem.W.Frag) : List V → Hp → VK → Prop := fun vs H Q => ∃ (F : Hp) (l : Addr) (xs : List V) (rs : List (List Int)), (∀ a o, F a = some o → H a = some o) ∧ vs = [.ref l] ∧ SqL K H l xs ∧ TupL K F xs rs ∧ Ok3 rs ∧
  ∀ (p : Addr) (ys : List V), H p = none → TupL K F ys (sortL rs) → Q (.ref p) (upd H p (.lst ys))
section
variable {X : Cx} {s : Shared} {pins : List (Addr × Obj)} {σ : L2.St} {H F : Hp}
theorem TupL.ti (I : Inv X pins σ H s) (sub : ∀ a o, F a = some o → H a = some o) : ∀ {xs : List V} {rs : List (List Int)} {us : List Value}, TupL X.K F xs rs → Vals xs us → us.map (NLS.tupI s.heap) = rs ∧ ∀ u ∈ us, ∃ (a : Addr) (r : List Int), u = .ref a ∧ r ∈ rs ∧ SqT X.K F a (r.map V.int) ∧ NLS.TI s.heap u r
  | _, _, _, .nil, .nil => ⟨rfl, fun u hu => by cases hu⟩
  | _, _, _, .cons (a := a) (r := r0) h t, .cons r v => by
    cases r
    obtain ⟨its, rv, p, _⟩ := I.tuple (SqT.mono h sub)
    have ti : NLS.TI s.heap (.ref a) r0 := ⟨_, _, rfl, p, by simpa using rv.ints⟩
    obtain ⟨e, k⟩ := t.ti I sub v
    refine ⟨by rw [List.map_cons, ti.get, e], fun u hu => ?_⟩
    rcases List.mem_cons.1 hu with z | z
    · subst z; exact ⟨a, r0, rfl, List.mem_cons_self, h, ti⟩
    · obtain ⟨b, r, e1, e2, e3⟩ := k u z
      exact ⟨b, r, e1, List.mem_cons_of_mem _ e2, e3⟩
theorem tupL_of {us : List Value} (k : ∀ u ∈ us, ∃ (a : Addr) (r : List Int), u = .ref a ∧ SqT X.K F a (r.map V.int) ∧ NLS.TI s.heap u r) : ∀ {out : List Value}, (∀ u ∈ out, u ∈ us) → ∃ ys, Vals ys out ∧ TupL X.K F ys (out.map (NLS.tupI s.heap))
  | [], _ => ⟨[], .nil, .nil⟩
  | u :: out, h => by
    obtain ⟨ys, h1, h2⟩ := tupL_of k (out := out) fun x hx => h x (List.mem_cons_of_mem _ hx)
    obtain ⟨a, r, rfl, q, ti⟩ := k u (h u List.mem_cons_self)
    refine ⟨.ref a :: ys, .cons rfl h1, ?_⟩
    rw [List.map_cons, ti.get]
    exact .cons q h2
theorem TupL.ok2 {us : List Value} {rs : List (List Int)} (e : us.map (NLS.tupI s.heap) = rs) (k : ∀ u ∈ us, ∃ (r : List Int), NLS.TI s.heap u r) (o : Ok3 rs) : NLS.Ok2 s.heap us := by
  rcases o with o | o
  · refine .inl fun u hu => ?_
    obtain ⟨r, ti⟩ := k u hu
    have hr : r ∈ rs := by rw [← e]; exact List.mem_map.mpr ⟨u, hu, ti.get⟩
    cases r with
    | nil => exact absurd rfl (o [] hr)
    | cons n ns => exact ⟨n, ns, ti⟩
  · refine .inr ⟨?_, k⟩
    cases us with
    | nil => subst e; cases o
    | cons u r =>
      rw [← e, List.map_cons] at o
      obtain ⟨r1, ti⟩ := k u List.mem_cons_self
      rw [ti.get] at o
      cases o
      exact ⟨u, r, rfl, ti⟩
theorem sorted_rows {out us : List Value} {rs : List (List Int)} {h : Heap} (e : us.map (NLS.tupI h) = rs) (h1 : SrtO.Srtd (NLS.ltT h) out) (h2 : SrtO.Stb (NLS.ltT h) out us) : out.map (NLS.tupI h) = sortL rs := by
  refine arr_uniq ?_ ?_ (sortL_sorted rs)
  · refine (h2.perm.map _).trans ?_
    rw [e]
    exact (sortL_perm rs).symm
  · exact List.pairwise_map.mpr h1
theorem cr_sortL (hu : X.A.units + 2 < cLine) : CallR X (.builtin "sorted") (rSortL X.K) := by
  intro pins s σ H vs us Q I r rd
  obtain ⟨F, l, xs, rs, sub, rfl, hs, ht, ho, q⟩ := rd
  obtain ⟨its, rv, hl, hz⟩ := Inv.list I hs
  rw [Vals.ref1 r]
  obtain ⟨e, k⟩ := ht.ti I sub rv
  have kt : ∀ u ∈ its, ∃ r, NLS.TI s.heap u r := fun u hu => let ⟨a, r, _, _, _, t⟩ := k u hu; ⟨r, t⟩
  refine SrtO.sorted_ord (NLS.swoT s.heap) hl.isList (by rw [← rv.length]; exact hz) (fun h2 h₁ a' ha kk => ?_) fun out h1 h2 => ?_
  · have o2 : NLS.Ok2 s.heap its := TupL.ok2 e kt ho
    have o3 : NLS.Ok2 h₁ its := o2.keep fun b o q _ => (kk b o q).2
    have es : ∀ v ∈ its, NLS.tupI h₁ v = NLS.tupI s.heap v := fun v hv => by
      obtain ⟨r, ti⟩ := kt v hv
      rw [ti.get, (ti.keep fun b o q _ => (kk b o q).2).get]
    have hsrt := NLS.sortable (prog := X.prog) (w := X.w) (A := X.A.in1.in1) (s := { s with heap := h₁ }) h2 (by show X.A.units + 1 + 1 < cLine; omega) o3 fun o e => by
      have e' : some o = some (seqObj "list" its.toArray 0) := e.symm.trans (by exact ha)
      cases e'
      exact fun c => absurd (Value.type.inj c) (by decide)
    intro h' keep
    obtain ⟨κ, p1, p2⟩ := hsrt h' keep
    refine ⟨κ, p1, fun p q hp hq => ?_⟩
    have := p2 p q hp hq
    have eq2 : SrtO.lt2 (NLS.ltT h₁) p q = SrtO.lt2 (NLS.ltT s.heap) p q := by
      show HT.lexLt (NLS.tupI h₁ p.1) (NLS.tupI h₁ q.1) = HT.lexLt (NLS.tupI s.heap p.1) (NLS.tupI s.heap q.1)
      rw [es p.1 hp, es q.1 hq]
    rw [← eq2]
    exact this
  · obtain ⟨ep, he'⟩ := PyProof.Rows.sortedAll_at s.heap its out.toArray
    obtain ⟨ys, v1, t1⟩ := tupL_of (X := X) (F := F) (s := s) (us := its) (fun u hu => let ⟨a, r, e1, _, e3, e4⟩ := k u hu; ⟨a, r, e1, e3, e4⟩) (out := out) fun u hu => h2.perm.mem_iff.mp hu
    rw [sorted_rows e h1 h2] at t1
    have hlen : ys.length ≤ sizeLine := by
      rw [v1.length, h2.perm.length_eq, ← rv.length]; exact hz
    exact ⟨.ref _, upd H (s.heap.objs.size + 1) (.lst ys), I.laid (t' := s.toks) (fun _ _ => PyProof.Rows.sortedAll_old) (Nat.le_succ _) ⟨hlen, out, ep, v1, by simpa using he'⟩, rfl, q _ _ (I.hok.fresh (Nat.le_succ _)) t1⟩
end
end NL
namespace NL
open PySem PySem.Spec PyProof.Rows L2
/-! ### sorted(set(list of tuples of ints)) -/
def rSortS (X : Cx) : List V → Hp → VK → Prop := fun vs H Q => ∃ (F : Hp) (a : Addr) (L : List (Addr × List Int)), (∀ a o, F a = some o → H a = some o) ∧ vs = [V.ref a] ∧ H a = some (SetTO X.prog X.w a L) ∧ (∀ p ∈ L, SqT X.K F p.1 (p.2.map V.int)) ∧ (∀ p ∈ L, p.2 ≠ []) ∧
  ∀ (ys : List V) (p : Addr), TupL X.K F ys (sortLU (L.map (·.2))) → H p = none → Q (.ref p) (upd H p (.lst ys))
section
variable {X : Cx} {A : Around} {E : Value → Shared → Prop} {s : Shared} {P : Program} {w : World}
theorem strict_of {l : List (List Int)} (h : l.Pairwise leL) (hn : l.Nodup) : l.Pairwise fun a b => HT.lexLt a b = true := by
  refine List.Pairwise.imp₂ (fun a b h1 h2 => ?_) h hn
  cases q : HT.lexLt a b with
  | true => rfl
  | false => exact absurd (NLS.lex_tri a b q h1) h2
theorem nl_sorted_set {a : Addr} {L : List (Addr × List Int)} {es : Array (Int × Value)} {ep : Nat} {t : SetTable} {Q : Value → Shared → Prop} (R : SetTR P w s.heap a L es ep t) (hh : A.handled = none) (hu : A.units + 2 < cLine) (hne : ∀ p ∈ L, p.2 ≠ [])
    (hti : ∀ p ∈ L, NLS.TI s.heap (.ref p.1) p.2)
    (hQ : ∀ s' p (out : List Value) (c : Nat), (∀ b o, s.heap.get? b = some o → s'.heap.get? b = some o) → s'.gens = s.gens → s'.os = s.os → s.heap.objs.size ≤ p →
      s'.heap.get? p = some (seqObj "list" out.toArray c) → (∀ v ∈ out, v ∈ L.map fun q => Value.ref q.1) → out.map (NLS.tupI s.heap) = sortLU (L.map (·.2)) → Q (.ref p) s') :
      wpAny (model P w) A (call (Value.builtin "sorted") [.ref a]) Q E s := by
  obtain ⟨o, ho, hex, hdat⟩ := R.ob
  have few := R.size; have lt64 := R.few
  refine Calls.call_function_entry kind_sorted plain_sorted entry_sorted (args_sorted1 _) ?_; unfold PySem.Builtin.«sorted»
  refine wpAny_bind (m := checkCount "sorted" 1 1 _) (wpAny_pure ?_); refine wpAny_bind (collect_set (A := A.in1) hh ⟨o, ho, hex.1, hdat⟩ R.fits (by unfold scanBound; omega) R.tab.ris R.led fun s1 vs k1 hz g1 o1 pm => ?_)
  have hes : es.toList.map (·.2) = L.map fun q => Value.ref q.1 := by rw [R.rows]; show (L.map _).map _ = _; rw [List.map_map]; rfl
  rw [hes] at pm
  have hvl : vs.length < 64 := by rw [pm.length_eq, List.length_map]; exact lt64
  have key : ∀ v ∈ vs, ∃ q ∈ L, v = Value.ref q.1 ∧ NLS.TI s.heap v q.2 := fun v hv => by
    obtain ⟨q, hq, e⟩ := List.mem_map.mp (List.Perm.mem_iff pm |>.mp hv)
    exact ⟨q, hq, e.symm, e ▸ hti q hq⟩
  have rows : (vs.map (NLS.tupI s.heap)).Perm (L.map (·.2)) := by
    refine (pm.map (NLS.tupI s.heap)).trans ?_
    rw [List.map_map]
    have : L.map (NLS.tupI s.heap ∘ fun q => Value.ref q.1) = L.map (·.2) := List.map_congr_left fun q hq => (hti q hq).get
    rw [this]
  have small : vs.length ≤ sizeLine := by rw [sizeLine_eq]; omega
  refine wpAny_bind (wpAny_newList ?_ (by simpa using small))
  have at_l : (s1.heap.push (seqObj "list" vs.toArray 0)).get? s1.heap.objs.size = some (seqObj "list" vs.toArray 0) := Heap.get?_push_size _ rfl
  have kk : ∀ b o, s.heap.get? b = some o → (s1.heap.push (seqObj "list" vs.toArray 0)).get? b = some o := fun b u q => Heap.get?_push_of_some _ (k1 b u q)
  have ok : NLS.Ok2 (s1.heap.push (seqObj "list" vs.toArray 0)) vs := .inl fun v hv => by
    obtain ⟨q, hq, rfl, ti⟩ := key v hv
    have ti := ti.keep fun b o e _ => kk b o e
    cases e : q.2 with
    | nil => exact absurd e (hne q hq)
    | cons n ns => exact ⟨n, ns, e ▸ ti⟩
  refine wpAny_bind (wpAny_holding (wpAny_call_entry slot_list_sort ⟨_, at_l, rfl⟩ entry_list_sort (SrtO.list_sort_ord (s := { s1 with heap := s1.heap.push (seqObj "list" vs.toArray 0) }) (NLS.swoT (s1.heap.push (seqObj "list" vs.toArray 0))) at_l small (fun h2 => NLS.sortable h2 (by show A.units + 1 + 1 < cLine; omega) ok fun o e => ?_) fun out h1 h2 => ⟨_, rfl, ?_⟩) (args_list_sort _)))
  · have e' := e.symm.trans at_l
    cases e'
    exact fun c => absurd (Value.type.inj c) (by decide)
  · obtain ⟨c, hc⟩ := sortedHeap_at (vs := vs) (out := out.toArray) at_l
    have same : ∀ v ∈ vs, NLS.tupI (s1.heap.push (seqObj "list" vs.toArray 0)) v = NLS.tupI s.heap v := fun v hv => by
      obtain ⟨q, hq, rfl, ti⟩ := key v hv
      rw [ti.get, (ti.keep fun b o e _ => kk b o e).get]
    have om : ∀ v ∈ out, v ∈ vs := fun v hv => h2.perm.mem_iff.mp hv
    have eo : out.map (NLS.tupI (s1.heap.push (seqObj "list" vs.toArray 0))) = out.map (NLS.tupI s.heap) := List.map_congr_left fun v hv => same v (om v hv)
    have srt : (out.map (NLS.tupI s.heap)).Pairwise leL := by rw [← eo]; exact List.pairwise_map.mpr h1
    have pr : (out.map (NLS.tupI s.heap)).Perm (L.map (·.2)) := (h2.perm.map _).trans rows
    have fin : out.map (NLS.tupI s.heap) = sortLU (L.map (·.2)) :=
      strict_uniq (fun z => by rw [pr.mem_iff, mem_sortLU]) (strict_of srt (pr.nodup_iff.mpr R.nd)) (sortLU_sorted _)
    refine wpAny_pure ⟨_, rfl, hQ _ s1.heap.objs.size out c (fun b u e => ?_) g1 o1 hz hc (fun v hv => pm.mem_iff.mp (om v hv)) fin⟩
    have q := k1 b u e
    have hb := Heap.lt_size q
    rw [sortedHeap_old (Nat.ne_of_lt hb) (by rw [size_push']; exact Nat.lt_succ_of_lt hb)]; exact Heap.get?_push_of_some _ q
theorem cr_sortS (hc : X.calm = true) (hu : X.A.units + 2 < cLine) : CallR X (.builtin "sorted") (rSortS X) := by
  intro pins s σ H vs us Q I r rd
  obtain ⟨F, a, L, sub, rfl, ha, hkF, hne, q⟩ := rd
  have hk : ∀ p ∈ L, SqT X.K H p.1 (p.2.map V.int) := fun p hp => SqT.mono (hkF p hp) sub
  obtain ⟨es, ep, t, R⟩ := (show SetT0 X.prog X.w s.heap a L from (I.hok a _ ha).1).full fun p hp => I.isT (hk p hp)
  rw [Vals.ref1 r]
  have hti : ∀ p ∈ L, NLS.TI s.heap (.ref p.1) p.2 := fun p hp => by
    obtain ⟨its, rv, pl, _⟩ := I.tuple (hk p hp)
    exact ⟨_, _, rfl, pl, by simpa using rv.ints⟩
  refine nl_sorted_set R (I.ok.hd hc) hu hne hti fun s' p out c k g o hp hg hm fin => ?_
  obtain ⟨ys, v1, t1⟩ := tupL_of (X := X) (F := F) (s := s) (us := L.map fun q => Value.ref q.1) (fun u hu => by
    obtain ⟨q, hq, rfl⟩ := List.mem_map.mp hu
    exact ⟨q.1, q.2, rfl, hkF q hq, hti q hq⟩) (out := out) hm
  rw [fin] at t1
  have free : H p = none := I.hok.fresh hp
  have hlen : ys.length ≤ sizeLine := by
    have h1 : out.length = (sortLU (L.map (·.2))).length := by rw [← fin, List.length_map]
    have h2 : (sortLU (L.map (·.2))).length ≤ L.length := by
      have : ∀ l : List (List Int), (sortLU l).length ≤ l.length := by
        have ins : ∀ (x : List Int) (l : List (List Int)), (insLU x l).length ≤ l.length + 1 := by
          intro x l
          induction l with
          | nil => simp [insLU]
          | cons y l ih => unfold insLU; split <;> (try split) <;> simp <;> omega
        intro l
        induction l with
        | nil => simp [sortLU]
        | cons x l ih =>
          have := ins x (sortLU l)
          show (insLU x (sortLU l)).length ≤ _
          simp; omega
      exact Nat.le_trans (this _) (by simp)
    have := R.few
    rw [v1.length, h1, sizeLine_eq]; omega
  have J : Inv X pins σ (upd H p (.lst ys)) { s with heap := s'.heap, gens := s'.gens, drawn := s'.drawn, toks := s'.toks } :=
    I.call (ch := []) (Un.laid k hp free) (I.hok.laid k hp ⟨hlen, out, c, v1, hg⟩) (by rw [g]; exact I.bare) (fun _ z => nomatch z)
  rw [show s' = { s with heap := s'.heap, gens := s'.gens, drawn := s'.drawn, toks := s'.toks } by cases s'; cases s; cases o; rfl]
  exact ⟨.ref p, _, J, rfl, q ys p t1 free⟩
end
/-! ### the same as data -/
def rowT (r : List Int) : Da := .tup (r.map Da.int)
def rowOf : Da → Option (List Int)
  | .tup l => intsOf l
  | _ => none
def rowsD : List Da → Option (List (List Int))
  | [] => some []
  | d :: l => match rowOf d, rowsD l with
    | some r, some rs => some (r :: rs)
    | _, _ => none
theorem rowOf_eq {d : Da} {r : List Int} (h : rowOf d = some r) : d = rowT r := by
  cases d with
  | tup l => exact congrArg Da.tup (intsOf_eq h)
  | _ => cases h
theorem rowsD_eq : ∀ {l : List Da} {rs : List (List Int)}, rowsD l = some rs → l = rs.map rowT
  | [], rs, h => by cases h; rfl
  | d :: l, rs, h => by
    unfold rowsD at h
    cases e : rowOf d with
    | none => rw [e] at h; exact nomatch h
    | some r =>
      cases e2 : rowsD l with
      | none => rw [e, e2] at h; cases h
      | some rs' =>
        rw [e, e2] at h; cases h
        rw [rowOf_eq e, rowsD_eq e2]; rfl
section
variable {G : Gc} {W : Wd}
theorem reps_tupL : ∀ {rs : List (List Int)} {vs : List V}, Reps G W (rs.map rowT) vs → TupL G.K W.F vs rs
  | [], vs, h => by rw [h.inv_nil]; exact .nil
  | r :: rs, vs, h => by
    obtain ⟨v, t, rfl, h1, h2⟩ := h.inv_cons
    obtain ⟨a, us, rfl, q1, q2⟩ := h1.tup_inv
    rw [q2.ints] at q1
    exact .cons q1 (reps_tupL h2)
theorem tupL_reps : ∀ {rs : List (List Int)} {vs : List V}, TupL G.K W.F vs rs → Reps G W (rs.map rowT) vs
  | _, _, .nil => .nil
  | _, _, .cons (a := a) (r := r) h t => by
    refine .cons ?_ (tupL_reps t)
    rw [rowT, Rep]
    exact ⟨a, _, rfl, h, reps_ints r⟩
end
section
variable {X : Cx} {G : Gc} {Wx : WX} {e : Expr} {m : M Da} {pos p p2 pos2 : Pos}
/-- sorted(list of tuples of ints) -/
def slF (m : M Da) : M (List Da) := fun ρ S => (m ρ S).bind fun d S1 => match tryL S1 d with
  | some l => match rowsD l with
    | some rs => if Ok3 rs then .ok ((sortL rs).map rowT) S1 else .bad
    | none => .bad
  | none => .bad
theorem pdf_sortL (hu : X.A.units + 64 < cLine) (hm : X.mg "sorted" = none) (he : PE X e (tM G Wx m)) (hK : G.K = X.K := by rfl) (hg : Gl X "sorted" := by rfl) (na : starEach [e] X.env = (false, eval e X.env) :: starEach [] X.env := by rfl) :
    PE X (.Call (.Name "sorted" p) [e] [] pos) (tF G Wx (slF m)) :=
  (pe_callB (cr_sortL (by omega)) hg hm (by decide +kernel) (pa_cons he pa_nil na) (by decide) (by decide) na (by rfl)).imp fun σ H Q ⟨W, S, ρ, s, r, q⟩ => ⟨W, S, ρ, s, r, AftF.bind q fun d S1 v W1 H1 x1 s1 q1 k1 => by
    cases e1 : tryL S1 d with
    | none => rw [e1] at k1; exact k1.elim
    | some l =>
      rw [e1] at k1
      dsimp only at k1
      cases e2 : rowsD l with
      | none => rw [e2] at k1; exact k1.elim
      | some rs =>
        rw [e2] at k1
        dsimp only at k1
        by_cases h3 : Ok3 rs
        · rw [if_pos h3] at k1
          obtain ⟨a, vs, rfl, h1, h2⟩ := s1.tryL q1 e1
          rw [rowsD_eq e2] at h2
          have tl := reps_tupL h2
          rw [hK] at tl
          exact ⟨W1.F, a, vs, rs, s1.sub, rfl, .of h1, tl, h3, fun p ys hp ht => k1.new s1 (tupL_reps (by rw [hK]; exact ht)) hp⟩
        · rw [if_neg h3] at k1; exact k1.elim⟩
/-- sorted(set(list of tuples of ints)) -/
def ssTF (m : M Da) : M (List Da) := fun ρ S => (m ρ S).bind fun d S1 => match tryL S1 d with
  | some l => match rowsD l with
    | some rs => if rs.length < 64 ∧ [] ∉ rs then .ok ((sortLU rs).map rowT) S1 else .bad
    | none => .bad
  | none => .bad
theorem tupL_pairs {K : PySem.W.Frag} {F : Hp} : ∀ {vs : List V} {rs : List (List Int)}, TupL K F vs rs → ∃ ks : List (Addr × List Int), vs = ks.map (fun p => V.ref p.1) ∧ rs = ks.map (·.2) ∧ ∀ p ∈ ks, SqT K F p.1 (p.2.map V.int)
  | _, _, .nil => ⟨[], rfl, rfl, fun p hp => by cases hp⟩
  | _, _, .cons (a := a) (r := r) h t => by
    obtain ⟨ks, h1, h2, h3⟩ := tupL_pairs t
    refine ⟨(a, r) :: ks, by rw [h1]; rfl, by rw [h2]; rfl, fun p hp => ?_⟩
    rcases List.mem_cons.1 hp with z | z
    · rw [z]; exact h
    · exact h3 p z
theorem sortLU_same {l m : List (List Int)} (h : ∀ z, z ∈ l ↔ z ∈ m) : sortLU l = sortLU m := strict_uniq (fun z => by rw [mem_sortLU, mem_sortLU, h]) (sortLU_sorted l) (sortLU_sorted m)
theorem pdf_sortSet (hu : X.A.units + 64 < cLine) (hm : X.mg "sorted" = none) (hm2 : X.mg "set" = none) (he : PE X e (tM G Wx m)) (hc : X.calm = true := by rfl) (hK : G.K = X.K := by rfl) (hg : Gl X "sorted" := by rfl) (hg2 : Gl X "set" := by rfl)
    (na : starEach [e] X.env = (false, eval e X.env) :: starEach [] X.env := by rfl) (nb : starEach [Expr.Call (.Name "set" p2) [e] [] pos2] X.env = (false, eval (Expr.Call (.Name "set" p2) [e] [] pos2) X.env) :: starEach [] X.env := by rfl) :
    PE X (.Call (.Name "sorted" p) [.Call (.Name "set" p2) [e] [] pos2] [] pos) (tF G Wx (ssTF m)) :=
  (pe_callB (cr_sortS hc (by omega)) hg hm (by decide +kernel) (pa_cons (pe_callTy (cr_setOfT hc hu) hg2 hm2 (by decide +kernel) (pa_cons he pa_nil na) (by decide) (by decide) na (by rfl)) pa_nil nb) (by decide) (by decide) nb (by rfl)).imp fun σ H Q ⟨W, S, ρ, s, r, q⟩ => ⟨W, S, ρ, s, r, AftF.bind q fun d S1 v W1 H1 x1 s1 q1 k1 => by
    cases e1 : tryL S1 d with
    | none => rw [e1] at k1; exact k1.elim
    | some l =>
      rw [e1] at k1
      dsimp only at k1
      cases e2 : rowsD l with
      | none => rw [e2] at k1; exact k1.elim
      | some rs =>
        rw [e2] at k1
        dsimp only at k1
        by_cases h3 : rs.length < 64 ∧ [] ∉ rs
        · rw [if_pos h3] at k1
          obtain ⟨a, vs, rfl, h1, h2⟩ := s1.tryL q1 e1
          rw [rowsD_eq e2] at h2
          have tl := reps_tupL h2
          rw [hK] at tl
          obtain ⟨ks, ev, er, hk⟩ := tupL_pairs tl
          subst ev er
          refine ⟨a, ks, rfl, .of h1, fun p hp => SqT.mono (hk p hp) s1.sub, by simpa using h3.1, fun b L hb sub all => ?_⟩
          obtain ⟨x2, s2⟩ := Ext.add s1 (o := SetTO X.prog X.w b L) hb
          have same : sortLU (L.map (·.2)) = sortLU (ks.map (·.2)) := sortLU_same fun z => by
            constructor
            · intro hz
              obtain ⟨p, hp, rfl⟩ := List.mem_map.mp hz
              exact List.mem_map.mpr ⟨p, sub p hp, rfl⟩
            · intro hz
              obtain ⟨p, hp, rfl⟩ := List.mem_map.mp hz
              exact all p hp
          refine ⟨W1.F, b, L, fun c o h => by rw [upd_ne (ne_of_none (s1.sub c o h) hb)]; exact s1.sub c o h, rfl, upd_same, fun p hp => hk p (sub p hp), fun p hp z => h3.2 (List.mem_map.mpr ⟨p, sub p hp, z⟩), fun ys p ht hp2 => ?_⟩
          rw [same] at ht
          exact (k1.later x2).new s2 (tupL_reps (by rw [hK]; exact ht)) hp2
        · rw [if_neg h3] at k1; exact k1.elim⟩
end
end NL

set_option Elab.async false
set_option linter.all false
set_option autoImplicit false
set_option maxRecDepth 100000
set_option maxHeartbeats 4100000
namespace NL
open PySem PySem.Spec PyProof.Rows L2
/-! ### try with several clauses, each with a name or without -/
/-- an end, with the slot i wiped where there is one -/
def wipeE (o : Option Nat) (D : Ends) : Ends := match o with
  | none => D
  | some i => { nx := fun σ' H' => D.nx (σ'.set i none) H', rt := D.rt, bk := fun σ' H' => D.bk (σ'.set i none) H', ct := fun σ' H' => D.ct (σ'.set i none) H' }
def heldE (o : Option Nat) (a : Addr) (σ : L2.St) : L2.St := match o with
  | none => σ
  | some i => σ.set i (some (.ref a))
abbrev Cl := Value × Option Nat × (Addr → Value → Option Addr → TS)
def wCl (K : PySem.W.Frag) (Wout : WX) (D : Ends) : List Cl → WX
  | [] => Wout
  | (c, o, ts) :: r => fun cls d σ H => ∃ b, PySem.W.exmOne K cls c = some b ∧ (b = true → ∀ a, H a = none → ts a cls d (wipeE o D) (heldE o a σ) H) ∧ (b = false → wCl K Wout D r cls d σ H)
inductive ClOk (X : Cx) : List ExceptHandler → List Cl → Prop where
  | nil : ClOk X [] []
  | bare {x : Str} {c : Value} {ts : Addr → Value → Option Addr → TS} {b₀ : Stmt} {su : List Stmt} {np pq : Pos} {hds : List ExceptHandler} {l : List Cl} (hc : Names X x c)
      (h : ∀ (a : Addr) (oe : Obj) (cls : Value) (d : Option Addr) (pn : List (Addr × Obj)), Zc cls d oe → (∃ vs, oe.data = .fields vs) → PSs (X.suite a ((a, oe) :: pn)) (b₀ :: su) (ts a cls d)) (r : ClOk X hds l) :
      ClOk X (.ExceptHandler (some (.Name x np)) none (b₀ :: su) pq :: hds) ((c, none, ts) :: l)
  | held {x n : Str} {i : Nat} {c : Value} {ts : Addr → Value → Option Addr → TS} {b₀ : Stmt} {su : List Stmt} {np pq : Pos} {hds : List ExceptHandler} {l : List Cl} (hi : X.N[i]? = some n) (hln : X.env.kindOf n = some .local) (hc : Names X x c)
      (h : ∀ (a : Addr) (oe : Obj) (cls : Value) (d : Option Addr) (pn : List (Addr × Obj)), Zc cls d oe → (∃ vs, oe.data = .fields vs) → PSs (X.suite a ((a, oe) :: pn)) (b₀ :: su) (ts a cls d)) (r : ClOk X hds l) :
      ClOk X (.ExceptHandler (some (.Name x np)) (some n) (b₀ :: su) pq :: hds) ((c, some i, ts) :: l)
section
variable {X : Cx} {body : List Stmt} {h₀ : ExceptHandler} {hds : List ExceptHandler} {l : List Cl} {pos : Pos} {tb : WX → TS} {Wout : WX}
theorem ps_clauses (hs : X.stack = X.env :: X.outer) (hf : X.env.frame = some X.env.locals) (hN : X.N.Nodup) (tk : Takes X Wout)
    (hb : ∀ (W : WX) (pn : List (Addr × Obj)) (xe : Value → Shared → Prop), Takes (X.tr pn xe) W → PassesOwn (model X.prog X.w) X.A X.env xe → PSs (X.tr pn xe) body (tb W))
    (hh : ClOk X (h₀ :: hds) l) : PS X (.Try body (h₀ :: hds) [] [] pos) (fun D σ H => tb (wCl X.K Wout D l) D σ H) := by
  refine ⟨fun pins s σ H D I rd => ?_⟩
  have okX := I.ok
  have frX : X.A.frames = some (X.env :: X.outer) := by rw [okX.frames, hs]
  refine wpAny_Try_except (wpAny_mono ((hb (wCl X.K Wout D l) (X.pn ++ pins) (fun e t1 => wpAny (model X.prog X.w) X.A (noteFrame e X.env) (fun _ t2 => wpAny (model X.prog X.w) X.A (setFlight e none) (fun _ t3 => wpAny (model X.prog X.w) X.A (handleBy e X.env (h₀ :: hds)) (SP X pins D) X.xe t3) X.xe t2) X.xe t1) (fun u z up0 => ?_) PassesOwn.looking).run [] s σ H D (I.toTry _) rd) (fun f s1 hsp => ?_) (fun e s1 he => he))
  · -- an exception has left the body
    obtain ⟨a, B, t0, pins', σ', H', cls, d, rfl, J', nb, up, sky, na, os, ag, w⟩ := up0
    have J : Inv X pins σ' H' t0 := J'.ofTry okX
    have skyX : Sky B (X.env :: X.outer) a (Zc cls d) X.env.locals z.heap := by rw [← hs]; exact sky
    show wpAny (model X.prog X.w) X.A (noteFrame (Value.ref a) X.env) _ _ _; refine Sky.land Zc.steady frX hf skyX fun g3 in3 up3 => ?_
    have J3 : Inv X pins σ' H' { z with heap := g3 } := J.landed nb in3.1 (up.trans up3) os ag
    obtain ⟨o3, v3, e3, z3, d3⟩ := in3.there
    have far : a ∉ frs (X.env :: X.outer) := fun hm => by obtain ⟨_, o', e', nf⟩ := in3.2.2.1.mem hm; rw [e3] at e'; cases e'; exact nf _ d3
    have nL : a ≠ X.env.locals := fun q => far (List.mem_filterMap.mpr ⟨X.env, List.mem_cons_self, by rw [hf, q]⟩)
    have nF : a ∉ X.fs := fun hm => by obtain ⟨e, he, q⟩ := List.mem_filterMap.mp hm; exact far (List.mem_filterMap.mpr ⟨e, List.mem_cons_of_mem _ he, q⟩)
    have S3 := J3.suite e3 d3 na nL nF
    have LT : PySem.W.Looks (model X.prog X.w) g3 (typeOf (.ref a)) cls := fun A Q E s k q => wpAny_typeOf_ref (k _ _ e3) (by rw [z3.1]; exact q)
    have ask : ∀ {x : Str} {np : Pos} {c : Value}, Names X x c → ∀ {Q : Value → Shared → Prop} {E : Value → Shared → Prop}, Q c { z with heap := g3 } → wpAny (model X.prog X.w) (X.A.mark (some (.ref a))) (eval (.Name x np) X.env) Q E { z with heap := g3 } := fun {x np c} hc {Q E} q => by
      obtain ⟨hg, hdb, hm | ⟨hm, hv, hnn⟩⟩ := hc
      · exact ld_glob (X := X.suite a ((a, o3) :: (X.pn ++ pins))) S3 hg hm q hdb
      · exact ld_blt (X := X.suite a ((a, o3) :: (X.pn ++ pins))) S3 hg hm hv q hnn hdb
    have all : ∀ {hd2 : List ExceptHandler} {l2 : List Cl}, ClOk X hd2 l2 → wCl X.K Wout D l2 cls d σ' H' → wpAny (model X.prog X.w) X.A (handleBy (.ref a) X.env hd2) (SP X pins D) X.xe { z with heap := g3 } := by
      intro hd2 l2 hk
      induction hk with
      | nil =>
        intro wn
        refine wpAny_handleBy_nil ?_
        obtain ⟨_, _, _, oe, vs, T, oT, ts', he, hz, hd, hT, _⟩ := id in3
        unfold PySem.passOn; refine wpAny_bind (wpAny_field he hd hT ?_)
        rw [if_neg (show ¬ ((Value.ref T == Value.none) = true) by simp)]
        have last : wpAny (model X.prog X.w) X.A (setFlight (.ref a) X.env.frame) (fun _ t4 => wpAny (model X.prog X.w) X.A (throw (.ref a) : Sem Flow) (SP X pins D) X.xe t4) X.xe { z with heap := g3 } := by
          rw [hf]; exact HandSPX.setFlight_upZ in3 fun g4 in4 up4 => wpAny_throw (tk _ _ ⟨a, B, t0, pins, σ', H', cls, d, rfl, J, nb, (up.trans up3).trans up4, .inr (.inr (by rw [hs]; exact in4)), na, os, ag, wn⟩)
        first
          | exact wpAny_bind (wpAny_pure (wpAny_bind last))
          | exact wpAny_bind last
      | @bare x c ts b₀ su np pq hd3 l3 hc h r ih =>
        intro wn
        obtain ⟨b, hb1, yes, no⟩ := wn
        have LM := PySem.W.exm_one (M := model X.prog X.w) J3.kIn LT hb1
        refine wpAny_handleBy_cons (codeAny_handlers_test (ask hc (LM.here ?_))) (by intro q; cases q)
        cases b with
        | false => exact ih (no rfl)
        | true =>
          refine codeAny_handlers_suite (HandSPX.lands_againZ in3 fun g4 in4 up4 => ?_)
          have J4 : Inv X pins σ' H' { z with heap := g4 } := J.landed nb in4.1 ((up.trans up3).trans up4) os ag
          obtain ⟨o4, v4, e4, z4, d4⟩ := in4.there
          have S4 := J4.suite e4 d4 na nL nF
          refine wpAny_mono ((h a o4 cls d (X.pn ++ pins) z4 ⟨_, d4⟩).run [] _ _ H' _ S4 (yes rfl a na)) (fun f t6 hp => ?_) (fun _ _ z => False.elim z)
          cases f with
          | next => obtain ⟨σ6, H6, S6, q6⟩ := hp; exact ⟨_, _, S6.unsuite okX, q6⟩
          | brk => obtain ⟨σ6, H6, S6, q6⟩ := hp; exact ⟨_, _, S6.unsuite okX, q6⟩
          | cont => obtain ⟨σ6, H6, S6, q6⟩ := hp; exact ⟨_, _, S6.unsuite okX, q6⟩
          | ret u => obtain ⟨v6, σ6, H6, S6, r6, q6⟩ := hp; exact ⟨_, _, _, S6.unsuite okX, r6, q6⟩
      | @held x n i c ts b₀ su np pq hd3 l3 hi hln hc h r ih =>
        intro wn
        obtain ⟨b, hb1, yes, no⟩ := wn
        have LM := PySem.W.exm_one (M := model X.prog X.w) J3.kIn LT hb1
        refine wpAny_handleBy_cons (codeAny_handlers_test (ask hc (LM.here ?_))) (by intro q; cases q)
        cases b with
        | false => exact ih (no rfl)
        | true =>
          refine codeAny_handlers_suite_as (HandSPX.lands_againZ in3 fun g4 in4 up4 => ?_)
          have J4 : Inv X pins σ' H' { z with heap := g4 } := J.landed nb in4.1 ((up.trans up3).trans up4) os ag
          obtain ⟨o4, v4, e4, z4, d4⟩ := in4.there
          have S4 := J4.suite e4 d4 na nL nF
          refine store_ok (X := X.suite a ((a, o4) :: (X.pn ++ pins))) (v := .ref a) S4 hN hi (.inl hln) rfl (fun t5 S5 => ?_) (.inr hln)
          refine wpAny_mono ((h a o4 cls d (X.pn ++ pins) z4 ⟨_, d4⟩).run [] t5 _ H' _ S5 (yes rfl a na)) (fun f t6 hp => ?_) (fun _ _ z => False.elim z)
          have gone : ∀ {σ6 : L2.St} {H6 : Hp} {Q : Shared → Prop}, Inv (X.suite a ((a, o4) :: (X.pn ++ pins))) [] σ6 H6 t6 → (∀ t7, Inv X pins (σ6.set i none) H6 t7 → Q t7) →
              wpAny (model X.prog X.w) X.A (do bindName X.env n .none; unbindBehindTheSuite X.env n pq) (fun _ t7 => Q t7) X.xe t6 := fun {σ6 H6 Q} S6 hq => gone_ok (S6.unsuite okX) hN hi hln hq
          cases f with
          | next => obtain ⟨σ6, H6, S6, q6⟩ := hp; exact gone S6 fun t7 J7 => ⟨_, _, J7, q6⟩
          | brk => obtain ⟨σ6, H6, S6, q6⟩ := hp; exact gone S6 fun t7 J7 => ⟨_, _, J7, q6⟩
          | cont => obtain ⟨σ6, H6, S6, q6⟩ := hp; exact gone S6 fun t7 J7 => ⟨_, _, J7, q6⟩
          | ret u => obtain ⟨v6, σ6, H6, S6, r6, q6⟩ := hp; exact gone S6 fun t7 J7 => ⟨_, _, _, J7, r6, q6⟩
    exact all hh w
  · cases f with
    | next => obtain ⟨σ', H', J', q⟩ := hsp; exact wpAny_execs_nil ⟨σ', H', J'.ofTry okX, q⟩
    | brk => obtain ⟨σ', H', J', q⟩ := hsp; exact ⟨σ', H', J'.ofTry okX, q⟩
    | cont => obtain ⟨σ', H', J', q⟩ := hsp; exact ⟨σ', H', J'.ofTry okX, q⟩
    | ret u => obtain ⟨v, σ', H', J', r, q⟩ := hsp; exact ⟨v, σ', H', J'.ofTry okX, r, q⟩
end
/-! the same as data -/
def noExc : RS → RS
  | .exc _ _ _ _ => .bad
  | r => r
def clS : List ((Str → Option Bool) × Option Nat × Hd) → Str → Da → MS
  | [], c, d, ρ, S => .exc c d ρ S
  | (mat, o, g) :: r, c, d, ρ, S => match mat c with
    | some true => (match o with
      | none => noExc (g 0 none c ρ S)
      | some i => wipeRS i (g 0 none c (ρ.set i (some (.exc 0 none c d))) S))
    | some false => clS r c d ρ S
    | none => .bad
def trysS (cl : List ((Str → Option Bool) × Option Nat × Hd)) (f : MS) : MS := fun ρ S => match f ρ S with
  | .exc c d ρ1 S1 => clS cl c d ρ1 S1
  | .nx ρ S => .nx ρ S
  | .bk ρ S => .bk ρ S
  | .ct ρ S => .ct ρ S
  | .rt d S => .rt d S
  | .bad => .bad
inductive DCl (X : Cx) (G : Gc) : List ExceptHandler → List ((Str → Option Bool) × Option Nat × Hd) → Prop where
  | nil : DCl X G [] []
  | bare {x C : Str} {mat : Str → Option Bool} {g : Hd} {b₀ : Stmt} {su : List Stmt} {np pq : Pos} {hds : List ExceptHandler} {l : List ((Str → Option Bool) × Option Nat × Hd)} (hc : Names X x (.ref (G.cls C)))
      (hm : ∀ c b, mat c = some b → PySem.W.exmOne X.K (.ref (G.cls c)) (.ref (G.cls C)) = some b)
      (hsu : ∀ (a : Addr) (oe : Obj) (c : Str) (dx : Option Addr) (pn : List (Addr × Obj)), mat c = some true → Zc (.ref (G.cls c)) dx oe → (∃ vs, oe.data = .fields vs) → PSs (X.suite a ((a, oe) :: pn)) (b₀ :: su) (tS G WN (g a dx c)))
      (hind : ∀ (a : Addr) (dx : Option Addr) (c : Str) (ρ : En) (S : Store), g a dx c ρ S = g 0 none c ρ S) (r : DCl X G hds l) :
      DCl X G (.ExceptHandler (some (.Name x np)) none (b₀ :: su) pq :: hds) ((mat, none, g) :: l)
  | held {x n C : Str} {i : Nat} {mat : Str → Option Bool} {g : Hd} {b₀ : Stmt} {su : List Stmt} {np pq : Pos} {hds : List ExceptHandler} {l : List ((Str → Option Bool) × Option Nat × Hd)} (hi : X.N[i]? = some n) (hln : X.env.kindOf n = some .local) (hc : Names X x (.ref (G.cls C)))
      (hm : ∀ c b, mat c = some b → PySem.W.exmOne X.K (.ref (G.cls c)) (.ref (G.cls C)) = some b)
      (hsu : ∀ (a : Addr) (oe : Obj) (c : Str) (dx : Option Addr) (pn : List (Addr × Obj)), mat c = some true → Zc (.ref (G.cls c)) dx oe → (∃ vs, oe.data = .fields vs) → PSs (X.suite a ((a, oe) :: pn)) (b₀ :: su) (tS G WN (g a dx c)))
      (hind : ∀ (a : Addr) (dx : Option Addr) (c : Str) (d : Da) (ρ : En) (S : Store), wipeRS i (g a dx c (ρ.set i (some (.exc a dx c d))) S) = wipeRS i (g 0 none c (ρ.set i (some (.exc 0 none c d))) S)) (r : DCl X G hds l) :
      DCl X G (.ExceptHandler (some (.Name x np)) (some n) (b₀ :: su) pq :: hds) ((mat, some i, g) :: l)
section
variable {X : Cx} {G : Gc} {Wx : WX} {body : List Stmt} {h₀ : ExceptHandler} {hds : List ExceptHandler} {pos : Pos} {f : MS}
theorem AftS.noExc {W : Wd} {H : Hp} {r : RS} {D : Ends} (h : AftS G Wx W H (NL.noExc r) D) : AftS G WN W H r D := by
  cases r with
  | exc c d ρ S => exact h.elim
  | _ => exact h
theorem dcl_ok {cl : List ((Str → Option Bool) × Option Nat × Hd)} (k : DCl X G hds cl) : ∃ l, ClOk X hds l ∧ ∀ (D : Ends) (W : Wd) (H : Hp) (S : Store) (ρ : En) (σ : L2.St) (c : Str) (d : Da) (cls : Value) (dx : Option Addr),
    SR G W H S → RepE G W σ ρ → XRep G W c d cls dx → AftS G Wx W H (clS cl c d ρ S) D → wCl X.K Wx D l cls dx σ H := by
  induction k with
  | nil => exact ⟨[], .nil, fun D W H S ρ σ c d cls dx s r xr q => q cls dx σ W H (.refl _ _) s r xr⟩
  | @bare x C mat g b₀ su np pq hds l hc hm hsu hind _ ih =>
    obtain ⟨l2, h1, h2⟩ := ih
    refine ⟨_ :: l2, .bare (ts := fun a cls dx D σ H => ∃ c : Str, (mat c = some true ∧ cls = .ref (G.cls c)) ∧ tS G WN (g a dx c) D σ H) hc (fun a oe cls dx pn hz hfl => PSs.ex fun c => PSs.and fun ⟨e1, e2⟩ => by
      subst e2
      exact hsu a oe c dx pn e1 hz hfl) h1, fun D W H S ρ σ c d cls dx s r xr q => ?_⟩
    unfold clS at q
    cases em : mat c with
    | none => rw [em] at q; exact q.elim
    | some b =>
      rw [em] at q
      obtain ⟨rfl, u, xd, rd⟩ := xr
      refine ⟨b, hm c b em, fun eb a ha => ?_, fun eb => ?_⟩
      · subst eb
        refine ⟨c, ⟨em, rfl⟩, W, S, ρ, s, r, AftS.noExc (Wx := Wx) ?_⟩
        rw [hind]
        exact q
      · subst eb
        exact h2 D W H S ρ σ c d _ dx s r ⟨rfl, u, xd, rd⟩ q
  | @held x n C i mat g b₀ su np pq hds l hi hln hc hm hsu hind _ ih =>
    obtain ⟨l2, h1, h2⟩ := ih
    refine ⟨_ :: l2, .held (i := i) (ts := fun a cls dx D σ H => ∃ c : Str, (mat c = some true ∧ cls = .ref (G.cls c)) ∧ tS G WN (g a dx c) D σ H) hi hln hc (fun a oe cls dx pn hz hfl => PSs.ex fun c => PSs.and fun ⟨e1, e2⟩ => by
      subst e2
      exact hsu a oe c dx pn e1 hz hfl) h1, fun D W H S ρ σ c d cls dx s r xr q => ?_⟩
    unfold clS at q
    cases em : mat c with
    | none => rw [em] at q; exact q.elim
    | some b =>
      rw [em] at q
      obtain ⟨rfl, u, xd, rd⟩ := xr
      refine ⟨b, hm c b em, fun eb a ha => ?_, fun eb => ?_⟩
      · subst eb
        refine ⟨c, ⟨em, rfl⟩, W, S, ρ.set i (some (.exc a dx c d)), s, r.set (by rw [Rep]; exact ⟨rfl, u, xd, rd⟩), ?_⟩
        refine AftS.wipe (Wx := Wx) ?_
        rw [hind]
        exact q
      · subst eb
        exact h2 D W H S ρ σ c d _ dx s r ⟨rfl, u, xd, rd⟩ q
theorem psd_trys {cl : List ((Str → Option Bool) × Option Nat × Hd)} (hN : X.N.Nodup) (tk : Takes X Wx) (k : DCl X G (h₀ :: hds) cl)
    (hb : ∀ (W : WX) (pn : List (Addr × Obj)) (xe : Value → Shared → Prop), Takes (X.tr pn xe) W → PassesOwn (model X.prog X.w) X.A X.env xe → PSs (X.tr pn xe) body (tS G W f))
    (hs : X.stack = X.env :: X.outer := by rfl) (hf : X.env.frame = some X.env.locals := by rfl) : PS X (.Try body (h₀ :: hds) [] [] pos) (tS G Wx (trysS cl f)) := by
  obtain ⟨l, h1, h2⟩ := dcl_ok (Wx := Wx) k
  refine (ps_clauses (tb := fun W => tS G W f) hs hf hN tk hb h1).imp ?_
  rintro D σ H ⟨W, S, ρ, s, r, q⟩
  refine ⟨W, S, ρ, s, r, ?_⟩
  unfold trysS at q
  revert q
  cases f ρ S with
  | nx ρ1 S1 => exact fun q => q
  | rt d S1 => exact fun q => q
  | bk ρ1 S1 => exact fun q => q
  | ct ρ1 S1 => exact fun q => q
  | bad => exact fun q => q
  | exc c d ρ1 S1 =>
    intro q cls dx σ1 W1 H1 x1 s1 r1 xr
    exact h2 D W1 H1 S1 ρ1 σ1 c d cls dx s1 r1 xr (q.later x1)
end
end NL

set_option Elab.async false
set_option linter.all false
set_option autoImplicit false
set_option maxRecDepth 100000
set_option maxHeartbeats 4100000
namespace NL
open PySem PySem.Spec PyProof.Rows L2
/-! ### texts: split, join, index, in, str(int) -/
def strsOf : List Da → Option (List Str)
  | [] => some []
  | .str x :: l => (strsOf l).map (x :: ·)
  | _ :: _ => none
theorem strsOf_eq : ∀ {l : List Da} {ys : List Str}, strsOf l = some ys → l = ys.map Da.str
  | [], ys, h => by cases h; rfl
  | .str x :: l, ys, h => by
    unfold strsOf at h
    obtain ⟨zs, e, rfl⟩ := Option.map_eq_some_iff.mp h
    rw [strsOf_eq e]; rfl
  | .non :: _, _, h => nomatch h
  | .bl _ :: _, _, h => nomatch h
  | .int _ :: _, _, h => nomatch h
  | .tup _ :: _, _, h => nomatch h
  | .lst _ :: _, _, h => nomatch h
  | .cell _ :: _, _, h => nomatch h
  | .exc _ _ _ _ :: _, _, h => nomatch h
  | .src _ :: _, _, h => nomatch h
section
variable {G : Gc} {W : Wd}
theorem reps_strs : ∀ (ys : List Str), Reps G W (ys.map Da.str) (ys.map V.str)
  | [] => .nil
  | y :: ys => .cons (repS W y) (reps_strs ys)
theorem strs_reps : ∀ {ys : List Str} {vs : List V}, Reps G W (ys.map Da.str) vs → vs = ys.map V.str
  | [], vs, h => h.inv_nil
  | y :: ys, vs, h => by
    obtain ⟨v, r, rfl, h1, h2⟩ := h.inv_cons
    rw [h1.str_inv, strs_reps h2]; rfl
end
/-- the receiver is a text -/
def onStr {α : Type} (d : Da) (k : Str → Res α) : Res α := match d with
  | .str a => k a
  | _ => .bad
def splitF (fo fe : M Da) : M (List Da) := fun ρ S => (fo ρ S).bind fun d S1 => onStr d fun a => (fe ρ S1).bind fun y S2 => onStr y fun b =>
  if (b.length == 0) = false ∧ a.length + 2 ≤ big then .ok ((Txt.split a b).map Da.str) S2 else .bad
def sidxM (fo fe : M Da) : M Da := fun ρ S => (fo ρ S).bind fun d S1 => onStr d fun a => (fe ρ S1).bind fun y S2 => onStr y fun b => match Txt.index0 a b with
  | some k => .ok (.int (k : Nat)) S2
  | none => .bad
def joinM (fo fe : M Da) : M Da := fun ρ S => (fo ρ S).bind fun d S1 => onStr d fun a => (fe ρ S1).bind fun y S2 => match (seqOf S2 y).bind strsOf with
  | some ys => if (ys.map (·.length)).sum + ys.length * a.length ≤ 16777216 then .ok (.str (Txt.join a ys)) S2 else .bad
  | none => .bad
def inSD : Da → Da → Store → Option Da
  | .str i, .str j, _ => some (.bl (!(Builtin.Str.occurrences j i 0 j.length 1).isEmpty))
  | _, _, _ => none
def strD : List Da → Store → Option Da
  | [.int i], _ => if i.natAbs.log2 < 1920 then some (.str (toString i)) else none
  | _, _ => none
section
variable {X : Cx} {G : Gc} {Wx : WX} {o e e2 : Expr} {es : List Expr} {fo fe f g : M Da} {t : M (List Da)} {pos cpos apos p : Pos}
theorem pdf_split (ho : PE X o (tM G Wx fo)) (he : PE X e (tM G Wx fe)) (hs : starEach [e] X.env = [(false, eval e X.env)] := by rfl) (hbase : attributeBase o "split" X.env (eval o X.env) = eval o X.env := by rfl) (hline : (apos.endLine == pos.line) = true := by rfl) :
    PE X (.Call (.Attribute o "split" apos) [e] [] pos) (tF G Wx (splitF fo fe)) :=
  (pe_split ho he hs hbase hline).imp fun σ H Q ⟨W, S, ρ, s, r, q⟩ => ⟨W, S, ρ, s, r, AftF.bind q fun d S1 v W1 H1 x1 s1 q1 k1 => by
    cases d with
    | str a =>
      refine ⟨⟨a, q1.str_inv⟩, W1, S1, ρ, s1, r.mono x1.le, AftF.bind k1 fun y S2 u W2 H2 x2 s2 q2 k2 => ?_⟩
      cases y with
      | str b =>
        have k2 : AftF G Wx σ W2 H2 (if (b.length == 0) = false ∧ a.length + 2 ≤ big then .ok ((Txt.split a b).map Da.str) S2 else .bad) Q := k2
        by_cases h : (b.length == 0) = false ∧ a.length + 2 ≤ big
        · rw [if_pos h] at k2
          exact ⟨a, b, q1.str_inv, by rw [q2.str_inv], h.1, by rw [← big_eq]; exact h.2, fun p hp => k2.new s2 (reps_strs _) hp⟩
        · rw [if_neg h] at k2; exact k2.elim
      | _ => exact k2.elim
    | _ => exact k1.elim⟩
theorem pd_sidx (hc : X.calm = true := by rfl) (tk : Takes X Wx) (ho : PE X o (tM G Wx fo)) (he : PE X e (tM G Wx fe)) (hbase : attributeBase o "index" X.env (eval o X.env) = eval o X.env := by rfl)
    (hfew : ((backTo cpos (starEach [e] X.env)).all (fun x => !x.1) && (backToKw cpos (keywordEach [] X.env)).all (fun x => x.1.isSome) && decide ([e].length + ([] : List Keyword).length + (if ([] : List Keyword).isEmpty then 0 else 1) < 30)) = true := by rfl)
    (hline : (apos.endLine == cpos.line) = true := by rfl) (hs : starEach [e] X.env = (false, eval e X.env) :: starEach [] X.env := by rfl)
    (hplain : (backTo cpos (starEach [] X.env)).any (·.1) = false := by rfl) : PE X (.Call (.Attribute o "index" apos) [e] [] cpos) (tM G Wx (sidxM fo fe)) :=
  (pe_bmS PySem.F.plainAttrs_str PySem.F.slot_str_index PySem.F.type_str_index (mt_indexX hc tk) ho (pa_cons he pa_nil hs) hbase hfew hline hs hplain).imp fun σ H Q ⟨W, S, ρ, s, r, q⟩ => ⟨W, S, ρ, s, r, q.bind fun d S1 v W1 H1 x1 s1 q1 k1 => by
    cases d with
    | str a =>
      have ev := q1.str_inv
      subst ev
      refine ⟨rfl, W1, S1, ρ, s1, r.mono x1.le, Aft.bind k1 fun y S2 u W2 H2 x2 s2 q2 k2 => ?_⟩
      cases y with
      | str b =>
        have k2 : Aft (RV G) G Wx σ W2 H2 (match Txt.index0 a b with
          | some k => .ok (.int (k : Nat)) S2
          | none => .bad) Q := k2
        cases e0 : Txt.index0 a b with
        | none => rw [e0] at k2; exact k2.elim
        | some k =>
          rw [e0] at k2
          refine ⟨a, b, rfl, by rw [q2.str_inv], fun k' e1 => ?_, fun e1 => ?_⟩
          · rw [e0] at e1; cases e1
            exact k2.here s2 (repI W2 _)
          · rw [e0] at e1; cases e1
      | _ => exact k2.elim
    | _ => exact k1.elim⟩
theorem SR.seqOf {W : Wd} {H : Hp} {S : Store} {d : Da} {v : V} {l : List Da} (s : SR G W H S) (r : Rep G W d v) (h : NL.seqOf S d = some l) : ∃ a vs, v = .ref a ∧ (SqT G.K H a vs ∨ SqL G.K H a vs) ∧ Reps G W l vs := by
  have lst : NL.asL S d = some l → ∃ a vs, v = .ref a ∧ (SqT G.K H a vs ∨ SqL G.K H a vs) ∧ Reps G W l vs := fun h => by
    obtain ⟨p, vs, rfl, h1, h2⟩ := s.isL r h
    exact ⟨p, vs, rfl, .inr h1, h2⟩
  cases d with
  | tup l2 =>
    cases h
    obtain ⟨p, vs, rfl, h1, h2⟩ := r.tup_inv
    exact ⟨p, vs, rfl, .inl (s.sqT h1), h2⟩
  | _ => exact lst h
theorem pd_join (ho : PE X o (tM G Wx fo)) (he : PE X e (tM G Wx fe)) (hs : starEach [e] X.env = [(false, eval e X.env)] := by rfl) (hbase : attributeBase o "join" X.env (eval o X.env) = eval o X.env := by rfl) (hline : (apos.endLine == pos.line) = true := by rfl) (hK : G.K = X.K := by rfl) :
    PE X (.Call (.Attribute o "join" apos) [e] [] pos) (tM G Wx (joinM fo fe)) :=
  (pe_join ho he hs hbase hline).imp fun σ H Q ⟨W, S, ρ, s, r, q⟩ => ⟨W, S, ρ, s, r, q.bind fun d S1 v W1 H1 x1 s1 q1 k1 => by
    cases d with
    | str a =>
      have ev := q1.str_inv
      subst ev
      refine ⟨⟨a, rfl⟩, W1, S1, ρ, s1, r.mono x1.le, Aft.bind k1 fun y S2 u W2 H2 x2 s2 q2 k2 => ?_⟩
      cases e0 : (seqOf S2 y).bind strsOf with
      | none => rw [e0] at k2; exact k2.elim
      | some ys =>
        rw [e0] at k2
        dsimp only at k2
        by_cases h : (ys.map (·.length)).sum + ys.length * a.length ≤ 16777216
        · rw [if_pos h] at k2
          obtain ⟨l, e1, e2⟩ := Option.bind_eq_some_iff.mp e0
          have el := strsOf_eq e2
          subst el
          have hs2 : ∃ p, u = .ref p ∧ (SqL X.K H2 p (ys.map V.str) ∨ SqT X.K H2 p (ys.map V.str)) := by
            obtain ⟨p, vs, rfl, h1, h2⟩ := s2.seqOf q2 e1
            rw [strs_reps h2, hK] at h1
            exact ⟨p, rfl, h1.symm⟩
          obtain ⟨p, rfl, hp⟩ := hs2
          exact ⟨a, p, ys, rfl, rfl, hp, h, k2.here s2 (repS W2 _)⟩
        · rw [if_neg h] at k2; exact k2.elim
    | _ => exact k1.elim⟩
theorem or_inS : OpR X (compareOp .In) (rd2 G inSD) := op_in_str.imp fun x y H Q ⟨W, S, a, b, s, r1, r2, q⟩ => by
  unfold inSD at q
  split at q
  · exact ⟨_, _, r1.str_inv, r2.str_inv, q.here s (repB W _)⟩
  · exact q.elim
theorem cr_strI : CallR X (.type "str") (rdn G strD) := call_str_int.imp fun xs H Q ⟨W, S, l, s, r, q⟩ => by
  unfold strD at q
  split at q
  · rename_i i
    by_cases h : i.natAbs.log2 < 1920
    · rw [if_pos h] at q
      obtain ⟨v, rfl, rv⟩ := r.one
      exact ⟨i, by rw [rv.int_inv], h, q.here s (repS W _)⟩
    · rw [if_neg h] at q; exact q.elim
  · exact q.elim
/-! ### *e among the items of a display -/
def starM (f : M Da) (t : M (List Da)) : M (List Da) := fun ρ S => (f ρ S).bind fun d S1 => match seqOf S1 d with
  | some l => (t ρ S1).bind fun m S2 => .ok (l ++ m) S2
  | none => .bad
theorem pda_star (he : PE X e (tM G Wx f)) (hr : PA X es (tMs G Wx t)) (hs : starEach (.Starred e p :: es) X.env = (true, eval e X.env) :: starEach es X.env := by rfl) (hK : G.K = X.K := by rfl) : PA X (.Starred e p :: es) (tMs G Wx (starM f t)) :=
  (StX.pa_star he hr hs).imp fun σ H Q ⟨W, S, ρ, s, r, q⟩ => ⟨W, S, ρ, s, r, q.bind fun d S1 v W1 H1 x1 s1 q1 k1 => by
    cases e1 : NL.seqOf S1 d with
    | none => rw [e1] at k1; exact k1.elim
    | some l =>
      rw [e1] at k1
      obtain ⟨a, vs, rfl, h1, h2⟩ := s1.seqOf q1 e1
      rw [hK] at h1
      exact ⟨a, vs, rfl, h1, W1, S1, ρ, s1, r.mono x1.le, Aft.bind k1 fun m S2 us W2 H2 x2 s2 q2 k2 => k2.here s2 ((h2.mono x2.le).append q2)⟩⟩
/-! ### zip of two tuples -/
theorem walk_zipT2 {K : PySem.W.Frag} {a b : Addr} {xs ys : List V} {n : Nat} (hn : n = min xs.length ys.length) : Walk (RZ.ItzT K a b) n (fun H => SqT K H a xs ∧ SqT K H b ys) (YPair (fun i => xs[i]?) (fun i => ys[i]?)) := by
  subst hn
  refine ⟨fun i _ hi q => ?_, fun _ q => ⟨xs, ys, q.1, q.2, by omega⟩, fun i H v H2 _ q y => ?_⟩
  · have l1 : i < xs.length := by omega
    have l2 : i < ys.length := by omega
    exact ⟨xs, ys, xs[i], ys[i], q.1, q.2, by simp [l1], by simp [l2]⟩
  · obtain ⟨T, x, z, k1, k2, k3, k4, k5⟩ := y; exact ⟨T, x, z, k1, k2, k3, k4 xs q.1, k5 ys q.2⟩
def itZT (f g : M Da) : M (List Da) := fun ρ S => (f ρ S).bind fun d S1 => (g ρ S1).bind fun e S2 => match d, e with
  | .tup l, .tup m => .ok (zipL l m) S2
  | _, _ => .bad
theorem zipL_get {W : Wd} {l m : List Da} {vs us : List V} (r : Reps G W l vs) (r2 : Reps G W m us) {i : Nat} {x y : V} (hx : vs[i]? = some x) (hy : us[i]? = some y) : ∃ a b, (zipL l m)[i]? = some (.tup [a, b]) ∧ Rep G W a x ∧ Rep G W b y := by
  obtain ⟨d, hd, rd⟩ := r.getV hx
  obtain ⟨d2, hd2, rd2⟩ := r2.getV hy
  refine ⟨d, d2, ?_, rd, rd2⟩
  unfold zipL
  rw [List.getElem?_zipWith, hd, hd2]
theorem pid_zipT {elts : List Expr} {kk : Nat} {tpos : Pos} (hm : X.mg "zip" = none) (he : PE X e (tM G Wx f)) (he2 : PE X e2 (tM G Wx g)) (hg : Gl X "zip" := by rfl)
    (hs : starEach [e, e2] X.env = (false, eval e X.env) :: starEach [e2] X.env := by rfl) (hs2 : starEach [e2] X.env = (false, eval e2 X.env) :: starEach [] X.env := by rfl) (hpl : (backTo pos (starEach [e2] X.env)).any (·.1) = false := by rfl) (hK : G.K = X.K := by rfl) :
    PI X (.Tuple elts kk tpos) (.Call (.Name "zip" p) [e, e2] [] pos) (tI G Wx (itZT f g)) :=
  (RZ.pi_zipA hg hm (pa_cons he (pa_cons he2 pa_nil hs2) hs) hs hpl).imp fun σ H R ⟨W, S, ρ, s, r, q⟩ => ⟨W, S, ρ, s, r, q.bind fun d S1 v W1 H1 x1 s1 q1 k1 => ⟨W1, S1, ρ, s1, r.mono x1.le, k1.bind fun d2 S2 u W2 H2 x2 s2 q2 k2 => by
    cases d with
    | tup l =>
      cases d2 with
      | tup m =>
        obtain ⟨a, vs, rfl, ha, ra⟩ := (q1.mono x2.le).tup_inv
        obtain ⟨b, us, rfl, hb, rb⟩ := q2.tup_inv
        rw [hK] at ha hb
        exact ⟨a, b, vs, us, rfl, .inr ⟨s2.sqT ha, s2.sqT hb, k2.here s2 (itd_pair (walk_zipT2 (a := a) (b := b) (xs := vs) (ys := us) rfl) (by unfold zipL; rw [List.length_zipWith, ra.length, rb.length]) (fun W3 H3 S3 le s3 => ⟨s3.sqT (SqT.mono ha le.F), s3.sqT (SqT.mono hb le.F)⟩) fun i x y _ h1 h2 => zipL_get ra rb h1 h2)⟩⟩
      | _ => exact k2.elim
    | _ => exact k2.elim⟩⟩
end
end NL
namespace NL
open PySem PySem.Spec PyProof.Rows L2
/-! ### sorted(list of ints) -/
def insI (x : Int) : (List Int) → List Int
  | [] => [x]
  | y :: l => if y < x then y :: insI x l else x :: y :: l
def sortI (l : List Int) : List Int := l.foldr insI []
theorem insI_perm (x : Int) : ∀ l : List Int, (insI x l).Perm (x :: l)
  | [] => .refl _
  | y :: l => by
    unfold insI
    split
    · exact ((insI_perm x l).cons y).trans (.swap x y l)
    · exact .refl _
theorem sortI_perm : ∀ l, (sortI l).Perm l
  | [] => .refl _
  | x :: l => (insI_perm x (sortI l)).trans ((sortI_perm l).cons x)
theorem insI_sorted {x : Int} : ∀ {l : List Int}, l.Pairwise (· ≤ ·) → (insI x l).Pairwise (· ≤ ·)
  | [], _ => List.pairwise_singleton _ _
  | y :: l, h => by
    rw [List.pairwise_cons] at h
    unfold insI
    split
    · rename_i q
      refine List.pairwise_cons.mpr ⟨fun z hz => ?_, insI_sorted h.2⟩
      rcases List.mem_cons.1 ((insI_perm x l).mem_iff.mp hz) with e | e
      · omega
      · exact h.1 z e
    · rename_i q
      refine List.pairwise_cons.mpr ⟨fun z hz => ?_, List.pairwise_cons.mpr h⟩
      rcases List.mem_cons.1 hz with e | e
      · omega
      · have := h.1 z e; omega
theorem sortI_sorted : ∀ l, (sortI l).Pairwise (· ≤ ·)
  | [] => List.Pairwise.nil
  | x :: l => insI_sorted (sortI_sorted l)
theorem ints_uniq : ∀ {l m : List Int}, l.Perm m → l.Pairwise (· ≤ ·) → m.Pairwise (· ≤ ·) → l = m
  | [], m, p, _, _ => (List.nil_perm.mp p).symm
  | x :: l, [], p, _, _ => absurd p.length_eq (by simp)
  | x :: l, y :: m, p, h1, h2 => by
    rw [List.pairwise_cons] at h1 h2
    have e : x = y := by
      have a : y = x ∨ y ∈ l := List.mem_cons.1 (p.mem_iff.mpr List.mem_cons_self)
      have b : x = y ∨ x ∈ m := List.mem_cons.1 (p.mem_iff.mp List.mem_cons_self)
      rcases a with a | a
      · exact a.symm
      · rcases b with b | b
        · exact b
        · have := h2.1 x b; have := h1.1 y a; omega
    subst e
    rw [ints_uniq (List.perm_cons x |>.mp p) h1.2 h2.2]
def siF (m : M Da) : M (List Da) := fun ρ S => (m ρ S).bind fun d S1 => match (tryL S1 d).bind intsOf with
  | some ns => .ok ((sortI ns).map Da.int) S1
  | none => .bad
theorem pdf_sortI {X : Cx} {G : Gc} {Wx : WX} {e : Expr} {m : M Da} {pos p : Pos} (hm : X.mg "sorted" = none) (he : PE X e (tM G Wx m)) (hK : G.K = X.K := by rfl) (hg : Gl X "sorted" := by rfl) (na : starEach [e] X.env = (false, eval e X.env) :: starEach [] X.env := by rfl) :
    PE X (.Call (.Name "sorted" p) [e] [] pos) (tF G Wx (siF m)) :=
  (pe_callB cr_sortedI hg hm (by decide +kernel) (pa_cons he pa_nil na) (by decide) (by decide) na (by rfl)).imp fun σ H Q ⟨W, S, ρ, s, r, q⟩ => ⟨W, S, ρ, s, r, AftF.bind q fun d S1 v W1 H1 x1 s1 q1 k1 => by
    cases e1 : (tryL S1 d).bind intsOf with
    | none => rw [e1] at k1; exact k1.elim
    | some ns =>
      rw [e1] at k1
      obtain ⟨l, e2, e3⟩ := Option.bind_eq_some_iff.mp e1
      obtain ⟨a, vs, rfl, h1, h2⟩ := s1.tryL q1 e2
      have el := intsOf_eq e3
      subst el
      have ev := h2.ints
      subst ev
      refine ⟨a, ns, rfl, .of h1, fun ns' p pm hs hp => ?_⟩
      have := ints_uniq (pm.trans (sortI_perm ns).symm) hs (sortI_sorted ns)
      subst this
      exact k1.new s1 (reps_ints _) hp⟩
theorem ptd_inDct {X : Cx} {G : Gc} {Wx : WX} {e : Expr} {f : M Da} {x : Str} {kvs : List (Str × Int)} {p pos : Pos} (D : DctOk X.K X.w X.mg x kvs) (he : PE X e (tM G Wx f)) (hg : Gl X x := by rfl) (hd : (x == ("__debug__" : Str)) = false := by decide) (hm : behindInMarks .In (.Name x p) = false := by first | exact nobehind _ (by decide) (by decide) | rfl) :
    PT X (.Compare e [.In] [.Name x p] pos) (tMb G Wx (tstM (inDctM kvs f))) := by
  obtain ⟨d, es, n, h1, h2, h3⟩ := D.ex
  refine (pt_cmpR (op_in_kd h2) he (pe_glob (v := .ref d) hg h1 rfl hd) hm).imp fun σ H Q k => ?_
  obtain ⟨W, S, ρ, s, r, q⟩ := tst_imp k
  refine ⟨W, S, ρ, s, r, q.bind fun a S1 v W1 H1 x1 s1 q1 k1 => ?_⟩
  cases a with
  | str z =>
    obtain ⟨r, e1, e2⟩ := dct_at h2 h3 z
    refine ⟨z, r, q1.str_inv, rfl, e1, ?_⟩
    have k1 : Aft (RV G) G Wx σ W1 H1 (.ok (.bl (kvs.lookup z).isSome) S1) (fun v H1 => ∃ d, v = .bl d ∧ Q d H1) := k1
    have eb : r.isSome = (kvs.lookup z).isSome := by
      cases hz : kvs.lookup z with
      | none => rw [hz] at e2; rw [e2]; rfl
      | some i => rw [hz] at e2; obtain ⟨t, e2⟩ := e2; rw [e2]; rfl
    rw [eb]
    exact k1.here s1 (repB W1 _)
  | _ => exact k1.elim
end NL

set_option Elab.async false
set_option linter.all false
set_option maxRecDepth 100000
set_option maxHeartbeats 4100000
/-! itertools.combinations of a list: made, and each turn of it. -/
namespace NLC
open PySem PySem.Spec
open Sem (wp)
theorem mro_cmb : mroOf (.type "itertools.combinations") = pure [.type "itertools.combinations", .type "object"] := by rw [mroOf_type]; kernel_rfl
theorem new_cmb : typeLookup (.type "itertools.combinations") "__new__" = pure (some (.builtin "itertools.combinations.__new__")) := by rw [typeLookup_type, builtinLookup_eq_fast]; kernel_rfl
theorem init_cmb : Slot "itertools.combinations" "__init__" "object.__init__" :=
  Slot.of (n := "__init__") (owner := "object") (by rw [typeLookup_type]; rw [builtinLookup_eq_fast]; kernel_rfl) (by decide +kernel) (by decide +kernel) (by decide +kernel)
    (by first | exact Or.inl (by decide +kernel) | exact Or.inr (by decide +kernel)) (by rw [isSubtype_type]; kernel_rfl)
theorem sub_cmb : isSubtype (.type "itertools.combinations") (.type "itertools.combinations") = pure true := by rw [isSubtype_type]; kernel_rfl
theorem called_cmb : TypeCalled "itertools.combinations" "itertools.combinations.__new__" "object.__init__" :=
  ⟨by decide +kernel, by decide +kernel, ⟨_, _, mro_cmb⟩, madeBy_type mro_cmb new_cmb (by decide +kernel), by decide +kernel, sub_cmb, init_cmb⟩
theorem typeCall_cmb (a b : Value) : checkTypeCall "itertools.combinations" ⟨[a, b], []⟩ = pure () := by kernel_rfl
theorem newCall_cmb (a b : Value) : checkBuiltinCall "itertools.combinations.__new__" ⟨[.type "itertools.combinations", a, b], []⟩ = pure () := by kernel_rfl
theorem entry_cmb_new : entryFor table "itertools.combinations.__new__" = some Builtin.«itertools.combinations.__new__» := entryFor_of_tree (by kernel_rfl)
theorem iter_cmb : Slot "itertools.combinations" "__iter__" "itertools.combinations.__iter__" :=
  .of (owner := "itertools.combinations") (n := "__iter__") (by rw [typeLookup_type, builtinLookup_eq_fast]; kernel_rfl) (by decide +kernel) (by decide +kernel) (by decide +kernel)
    (by first | exact .inl (by decide +kernel) | exact .inr (by decide +kernel)) sub_cmb
theorem next_cmb : Slot "itertools.combinations" "__next__" "itertools.combinations.__next__" :=
  .of (owner := "itertools.combinations") (n := "__next__") (by rw [typeLookup_type, builtinLookup_eq_fast]; kernel_rfl) (by decide +kernel) (by decide +kernel) (by decide +kernel)
    (by first | exact .inl (by decide +kernel) | exact .inr (by decide +kernel)) sub_cmb
theorem entry_cmb_iter : entryFor table "itertools.combinations.__iter__" = some Builtin.«dict_keyiterator.__iter__» :=
  entryFor_alias (id' := "dict_keyiterator.__iter__") (by kernel_rfl) (by first | decide +kernel | rfl | (unfold String.splitOn; simp +decide [String.splitOnAux])) (by decide +kernel) (by kernel_rfl)
theorem entry_cmb_next : entryFor table "itertools.combinations.__next__" = some Builtin.«itertools.combinations.__next__» := entryFor_of_tree (by kernel_rfl)
theorem owner_cmb : Manifest.owners.lookup (String.ofList ['s', 'n', 'o', 'i', 't', 'a', 'n', 'i', 'b', 'm', 'o', 'c', '.', 's', 'l', 'o', 'o', 't', 'r', 'e', 't', 'i'].reverse) = some Manifest.sig_itertools_combinations := by kernel_rfl
theorem args_cmb_iter (a : Value) : argsOk "itertools.combinations.__iter__" ⟨[a], []⟩ := by
  unfold argsOk; rw [signature?_of (id := "itertools.combinations.__iter__") (n := ['_', '_', 'r', 'e', 't', 'i', '_', '_']) (o := ['s', 'n', 'o', 'i', 't', 'a', 'n', 'i', 'b', 'm', 'o', 'c', '.', 's', 'l', 'o', 'o', 't', 'r', 'e', 't', 'i']) (by kernel_rfl) owner_cmb]; kernel_rfl
theorem args_cmb_next (a : Value) : argsOk "itertools.combinations.__next__" ⟨[a], []⟩ := by
  unfold argsOk; rw [signature?_of (id := "itertools.combinations.__next__") (n := ['_', '_', 't', 'x', 'e', 'n', '_', '_']) (o := ['s', 'n', 'o', 'i', 't', 'a', 'n', 'i', 'b', 'm', 'o', 'c', '.', 's', 'l', 'o', 'o', 't', 'r', 'e', 't', 'i']) (by kernel_rfl) owner_cmb]; kernel_rfl
theorem noDict_cmb : typeHasDict (.type "itertools.combinations") = false := by decide +kernel
/-- a combinations object at it: its pool, its state, what it handed out last, its indices -/
abbrev cmbO (P : Addr) (st : Int) (last : Value) (ix : List Nat) : Obj := { cls := .type "itertools.combinations", dict := none, data := .fields ([Value.ref P, rawInt st, last] ++ ix.map fun (i : Nat) => rawInt i).toArray, slots := #[] }
abbrev CmbAt (h : Heap) (it : Addr) (P : Addr) (st : Int) (last : Value) (ix : List Nat) : Prop := h.get? it = some (cmbO P st last ix)
section
variable {prog : Program} {w : World} {A : Around} {E : Value → Shared → Prop} {s : Shared}
theorem class_cmb (a b : Value) : Builtin.Itertools.itClassAndRest "combinations" ⟨[.type "itertools.combinations", a, b], []⟩ = pure (.type "itertools.combinations", [a, b]) := by
  unfold Builtin.Itertools.itClassAndRest
  dsimp only
  rw [show ("itertools." ++ "combinations" : String) = "itertools.combinations" from by decide +kernel, sub_cmb]
  kernel_rfl
theorem named_cmb (a b : Value) : Builtin.Itertools.itBindNamed "combinations" ["iterable", "r"] 2 2 [a, b] [] = pure [some a, some b] := by kernel_rfl
theorem ssize_cmb {r : Nat} {t : Tok} (h : r ≤ 1000) : Builtin.Itertools.itSsizeArg (.int (r : Nat) t) = pure (r : Int) := by
  unfold Builtin.Itertools.itSsizeArg
  rw [show asIndex (.int (r : Nat) t) = pure (r : Int) from rfl, pure_bind]
  have a : decide ((r : Int) < -(2 ^ 63 : Int)) = false := decide_eq_false (by omega)
  have b : decide ((r : Int) ≥ 2 ^ 63) = false := decide_eq_false (by omega)
  dsimp only
  rw [a, b]
  rfl
theorem new_run {l : Addr} {o : Obj} {items : Array Value} {ep : Nat} {r : Nat} {t : Tok} {Q : PySem.Fin → Shared → Prop}
    (ho : s.heap.get? l = some o) (hc : o.cls = .type "list") (hd : o.data = .seq items ep) (hsz : items.size ≤ 1000) (hr : r ≤ items.size)
    (h : ∀ h1 h' : Heap, (∀ b o', s.heap.get? b = some o' → h1.get? b = some o') → (∀ b o', h1.get? b = some o' → h'.get? b = some o') → h'.IsTuple h1.objs.size items → CmbAt h' (h1.objs.size + 1) h1.objs.size 0 .none (List.range r) → Q (.done (.ret (.ref (h1.objs.size + 1)))) { s with heap := h' }) :
    wpAny (model prog w) A (Builtin.«itertools.combinations.__new__» ⟨[.type "itertools.combinations", .ref l, .int (r : Nat) t], []⟩) Q E s := by
  refine wpAny_bind (m := _) ?_
  refine wpAny_bind (m := _) (wpAny_of_eq (class_cmb _ _) ?_)
  refine wpAny_bind (m := _) (wpAny_of_eq (named_cmb _ _) ?_)
  refine wpAny_bind (m := _) (wpAny_of_eq (ssize_cmb (by omega)) ?_)
  refine wpAny_bind (m := _) (wpAny_collect_seq l (.inl rfl) ho hc hd (fun h1 k1 => ?_) (by unfold sizeLine; omega))
  have n0 : ¬ ((r : Int) < 0) := by omega
  have n1 : ¬ Builtin.Itertools.itTooMany (r : Int) = true := by
    unfold Builtin.Itertools.itTooMany
    simp only [decide_eq_true_eq]
    omega
  refine wpAny_ite_false (decide_eq_false n0) ?_
  refine wpAny_ite_false (decide_eq_false n1) ?_
  refine wpAny_bind (m := newTuple items.toList) ?_
  simp only [newTuple]
  refine wpAny_newObj_type ?_ (by show items.toList.toArray.size ≤ sizeLine; simp only [Array.toArray_toList]; unfold sizeLine; omega)
  refine wpAny_pure ?_
  dsimp only
  have nr : ¬ ((r : Int).toNat > items.toList.length) := by simp only [Array.length_toList]; omega
  rw [if_neg nr]
  refine wpAny_bind (m := Builtin.Itertools.itNewRecord _ _) ?_
  unfold Builtin.Itertools.itNewRecord
  rw [noDict_cmb, if_pos (by rfl), Int.toNat_natCast]
  refine wpAny_newObj_type ?_ ?_
  · refine wpAny_pure ?_
    have hs1 : (h1.push { cls := .type "tuple", data := .seq items.toList.toArray }).objs.size = h1.objs.size + 1 := by simp [Heap.push]
    show Q (.done (.ret (.ref (h1.push { cls := .type "tuple", data := .seq items.toList.toArray }).objs.size))) { s with heap := (h1.push { cls := .type "tuple", data := .seq items.toList.toArray }).push (cmbO h1.objs.size 0 .none (List.range r)) }
    rw [hs1]
    refine h h1 _ k1 (fun b o' e => Heap.get?_push_of_some _ (Heap.get?_push_of_some _ e)) ⟨_, Heap.get?_push_of_some _ (Heap.get?_push_size _ rfl), rfl, 0, by simp⟩ ?_
    rw [← hs1]
    exact Heap.get?_push_size (h1.push _) rfl
  · show (([Value.ref h1.objs.size, rawInt 0, Value.none] ++ (List.range r).map fun (i : Nat) => rawInt i).toArray).size ≤ sizeLine + 2
    simp only [List.size_toArray, List.length_append, List.length_map, List.length_range, List.length_cons, List.length_nil]
    unfold sizeLine
    omega
end
/-- the indices that come next -/
def stepC (n : Nat) (ix : List Nat) : Option (List Nat) :=
  ((List.range ix.length).reverse.find? fun i => ix.getD i 0 != i + n - ix.length).map fun i => ix.take i ++ (List.range (ix.length - i)).map (ix.getD i 0 + 1 + ·)
section
variable {prog : Program} {w : World} {A : Around} {E : Value → Shared → Prop} {s : Shared}
theorem toNat_raw (ix : List Nat) : (ix.map fun (i : Nat) => rawInt i).map (fun v => match v with | .int n _ => n.toNat | _ => 0) = ix := by
  induction ix with
  | nil => rfl
  | cons x l ih => rw [List.map_cons, List.map_cons, ih]; rfl
theorem numbers_cmb {h : Heap} {it P : Addr} {st : Int} {last : Value} {ix : List Nat} {Q : List Nat → Shared → Prop} (hh : s.heap = h) (hit : CmbAt h it P st last ix) (hQ : Q ix s) : wpAny (model prog w) A (Builtin.Itertools.itNumbersFrom (.ref it) 3) Q E s := by
  subst hh
  unfold Builtin.Itertools.itNumbersFrom
  refine wpAny_bind (wpAny_load hit ?_)
  refine wpAny_pure ?_
  have e : List.map (fun x => match x with | .int n _ => n.toNat | _ => 0) (List.drop 3 ([Value.ref P, rawInt st, last] ++ ix.map fun (i : Nat) => rawInt i).toArray.toList) = ix := by
    have e2 : List.drop 3 ([Value.ref P, rawInt st, last] ++ ix.map fun (i : Nat) => rawInt i).toArray.toList = ix.map fun (i : Nat) => rawInt i := by simp
    rw [e2, toNat_raw]
  exact e.symm ▸ hQ
theorem set_1 {P : Addr} {st : Int} {last v : Value} {ix : List Nat} : (([Value.ref P, rawInt st, last] ++ ix.map fun (i : Nat) => rawInt i).toArray).setIfInBounds 1 v = ([Value.ref P, v, last] ++ ix.map fun (i : Nat) => rawInt i).toArray := by simp
theorem set_2 {P : Addr} {st : Int} {last v : Value} {ix : List Nat} : (([Value.ref P, rawInt st, last] ++ ix.map fun (i : Nat) => rawInt i).toArray).setIfInBounds 2 v = ([Value.ref P, rawInt st, v] ++ ix.map fun (i : Nat) => rawInt i).toArray := by simp
theorem set_3 {P : Addr} {st : Int} {last : Value} {ix ix2 : List Nat} : (([Value.ref P, rawInt st, last] ++ ix.map fun (i : Nat) => rawInt i).toArray).extract 0 3 ++ (ix2.map fun (n : Nat) => rawInt n).toArray = ([Value.ref P, rawInt st, last] ++ ix2.map fun (i : Nat) => rawInt i).toArray := by
  apply Array.toList_inj.mp
  simp
theorem upd_1 {h : Heap} {it P : Addr} {st v : Int} {last : Value} {ix : List Nat} (hit : CmbAt h it P st last ix) : CmbAt (h.update it (Obj.mapFields (·.setIfInBounds 1 (rawInt v)))) it P v last ix := by
  have e := Heap.get?_update_self (Obj.mapFields (·.setIfInBounds 1 (rawInt v))) hit rfl
  refine e.trans ?_
  show some (Obj.mapFields _ (cmbO P st last ix)) = _
  unfold cmbO Obj.mapFields
  dsimp only
  rw [set_1]
theorem upd_2 {h : Heap} {it P : Addr} {st : Int} {last v : Value} {ix : List Nat} (hit : CmbAt h it P st last ix) : CmbAt (h.update it (Obj.mapFields (·.setIfInBounds 2 v))) it P st v ix := by
  have e := Heap.get?_update_self (Obj.mapFields (·.setIfInBounds 2 v)) hit rfl
  refine e.trans ?_
  unfold cmbO Obj.mapFields
  dsimp only
  rw [set_2]
theorem upd_3 {h : Heap} {it P : Addr} {st : Int} {last : Value} {ix ix2 : List Nat} (hit : CmbAt h it P st last ix) : CmbAt (h.update it (Obj.mapFields fun fs => fs.extract 0 3 ++ (ix2.map fun (n : Nat) => rawInt n).toArray)) it P st last ix2 := by
  have e := Heap.get?_update_self (Obj.mapFields fun fs => fs.extract 0 3 ++ (ix2.map fun (n : Nat) => rawInt n).toArray) hit rfl
  refine e.trans ?_
  unfold cmbO Obj.mapFields
  dsimp only
  rw [set_3]
/-- what is handed out -/
def pickV (items : Array Value) (ix : List Nat) : List Value := ix.map fun i => items.getD i .none
theorem hand_run {it P : Addr} {last : Value} {ix : List Nat} {items : Array Value} {Q : PySem.Fin → Shared → Prop} (hit : CmbAt s.heap it P 1 last ix) (hp : s.heap.IsTuple P items) (hne : it ≠ P) (hl : ix.length ≤ 1000)
    (h : ∀ h' : Heap, CmbAt h' it P 1 (.ref s.heap.objs.size) ix → h'.get? s.heap.objs.size = some { cls := .type "tuple", data := .seq (pickV items ix).toArray } → (∀ b o, b ≠ it → s.heap.get? b = some o → h'.get? b = some o) → Q (.done (.ret (.ref s.heap.objs.size))) { s with heap := h' }) :
    wpAny (model prog w) A ((do
      let items ← Builtin.Itertools.itPoolItems (.ref P)
      newTuple (ix.map fun i => items.getD i .none)) >>= fun result => do
        let before ← field (.ref it) 2
        setField (.ref it) 2 result
        letGo [before] [result]
        ret result) Q E s := by
  obtain ⟨o, e1, e2, n, e3⟩ := id hp
  refine wpAny_bind (m := _ >>= _) (wpAny_bind ?_)
  unfold Builtin.Itertools.itPoolItems
  refine wpAny_bind (wpAny_seqItems e1 e3 (wpAny_pure ?_))
  simp only [newTuple]
  refine wpAny_newObj_type ?_ (by show ((ix.map fun i => items.getD i .none).toArray).size ≤ sizeLine; simp only [List.size_toArray, List.length_map]; unfold sizeLine; omega)
  have hit1 : CmbAt (s.heap.push { cls := .type "tuple", data := .seq (pickV items ix).toArray }) it P 1 last ix := Heap.get?_push_of_some _ hit
  have lt : it < s.heap.objs.size := Heap.lt_size hit
  refine wpAny_bind (wpAny_field hit1 rfl (x := last) (by simp) ?_)
  refine wpAny_bind (wpAny_setField hit1 rfl (by simp) ?_)
  refine wpAny_bind (wpAny_letGo (wpAny_pure (h _ (upd_2 hit1) ?_ fun b o hb e => ?_)))
  · exact (Heap.get?_update_other _ _ (Nat.ne_of_lt lt)).trans (Heap.get?_push_size _ rfl)
  · exact (Heap.get?_update_other _ _ hb.symm).trans (Heap.get?_push_of_some _ e)
theorem stepC_eq (n : Nat) (ix : List Nat) : stepC n ix = (match (List.range ix.length).reverse.find? fun i => ix.getD i 0 != i + n - ix.length with
    | none => none
    | some i => some (ix.take i ++ (List.range (ix.length - i)).map (ix.getD i 0 + 1 + ·))) := by
  unfold stepC
  cases (List.range ix.length).reverse.find? fun i => ix.getD i 0 != i + n - ix.length <;> rfl
theorem handed {it P : Addr} {st : Int} {last : Value} {ix : List Nat} {items : Array Value} {Q : Option Value → Shared → Prop} (hit : CmbAt s.heap it P st last ix) (hp : s.heap.IsTuple P items) (hne : it ≠ P) (hl : ix.length ≤ 1000) (ix2 : List Nat) (hl2 : ix2.length ≤ 1000)
    (hc : (st = 0 ∧ ix2 = ix) ∨ (st = 1 ∧ stepC items.size ix = some ix2))
    (h : ∀ h' : Heap, CmbAt h' it P 1 (.ref s.heap.objs.size) ix2 → h'.get? s.heap.objs.size = some { cls := .type "tuple", data := .seq (pickV items ix2).toArray } → (∀ b o, b ≠ it → s.heap.get? b = some o → h'.get? b = some o) → Q (some (.ref s.heap.objs.size)) { s with heap := h' }) : wpAny (model prog w) A (pyNext (.ref it)) Q E s := by
  have hT : s.TypeIs (.ref it) "itertools.combinations" := ⟨_, hit, rfl⟩
  obtain ⟨o, e1, e2, n, e3⟩ := id hp
  unfold pyNext
  refine wpAny_bind (wpAny_attempt (wpAny_callSpecial?_slot (name := Str.ofString "__next__") hT next_cmb (wpAny_call_entry next_cmb hT entry_cmb_next ?_ (args_cmb_next _))))
  refine wpAny_bind (m := slotArgs _ _ _) (wpAny_of_eq (a := (.ref it, [])) (by rfl) ?_)
  refine wpAny_bind (wpAny_field hit rfl (x := .ref P) (by simp) ?_)
  refine wpAny_bind (numbers_cmb rfl hit ?_)
  refine wpAny_bind (m := Builtin.Itertools.itIntField _ _) ?_
  unfold Builtin.Itertools.itIntField
  refine wpAny_bind (wpAny_field hit rfl (x := rawInt st) (by simp) (wpAny_pure ?_))
  rcases hc with ⟨rfl, rfl⟩ | ⟨rfl, hc⟩
  · refine wpAny_bind (wpAny_setField hit rfl (by simp) ?_)
    have h1 := upd_1 (v := 1) hit
    have hp1 : (s.heap.update it (Obj.mapFields (·.setIfInBounds 1 (rawInt 1)))).IsTuple P items := ⟨o, (Heap.get?_update_other _ _ hne).trans e1, e2, n, e3⟩
    have sz : (s.heap.update it (Obj.mapFields (·.setIfInBounds 1 (rawInt 1)))).objs.size = s.heap.objs.size := by simp
    refine hand_run (s := { s with heap := s.heap.update it (Obj.mapFields (·.setIfInBounds 1 (rawInt 1))) }) h1 hp1 hne hl fun h' a b k => ?_
    dsimp only at a b k
    rw [sz] at a b
    show ∃ v, _ ∧ _
    rw [sz]
    exact ⟨_, rfl, wpAny_pure (h h' a b fun c oc hc e => k c oc hc ((Heap.get?_update_other _ _ hc.symm).trans e))⟩
  · show wpAny _ _ (Builtin.Itertools.itPoolItems (.ref P) >>= _) _ _ _
    refine wpAny_bind ?_
    unfold Builtin.Itertools.itPoolItems
    refine wpAny_bind (wpAny_seqItems e1 e3 (wpAny_pure ?_))
    split
    · rename_i nx heq
      have q : stepC items.size ix = some nx := (stepC_eq _ _).trans heq
      rw [q] at hc
      cases hc
      refine wpAny_bind ?_
      unfold Builtin.Itertools.itSetNumbersFrom
      refine wpAny_updateFields hit rfl ?_ ?_
      · have h1 := upd_3 (ix2 := ix2) hit
        have hp1 : (s.heap.update it (Obj.mapFields fun fs => fs.extract 0 3 ++ (ix2.map fun (n : Nat) => rawInt n).toArray)).IsTuple P items := ⟨o, (Heap.get?_update_other _ _ hne).trans e1, e2, n, e3⟩
        have sz : (s.heap.update it (Obj.mapFields fun fs => fs.extract 0 3 ++ (ix2.map fun (n : Nat) => rawInt n).toArray)).objs.size = s.heap.objs.size := by simp
        refine hand_run (s := { s with heap := s.heap.update it (Obj.mapFields fun fs => fs.extract 0 3 ++ (ix2.map fun (n : Nat) => rawInt n).toArray) }) h1 hp1 hne hl2 fun h' a b k => ?_
        dsimp only at a b k
        rw [sz] at a b
        show ∃ v, _ ∧ _
        rw [sz]
        exact ⟨_, rfl, wpAny_pure (h h' a b fun c oc hc e => k c oc hc ((Heap.get?_update_other _ _ hc.symm).trans e))⟩
      · rw [set_3]
        simp only [List.size_toArray, List.length_append, List.length_map, List.length_cons, List.length_nil]
        unfold sizeLine
        omega
    · rename_i heq
      have q : stepC items.size ix = none := (stepC_eq _ _).trans heq
      rw [q] at hc
      cases hc
theorem ended {it P : Addr} {last : Value} {ix : List Nat} {items : Array Value} {Q : Option Value → Shared → Prop} (hh : A.handled = none) (hit : CmbAt s.heap it P 1 last ix) (hp : s.heap.IsTuple P items) (hc : stepC items.size ix = none)
    (h : ∀ h' : Heap, (∀ b o, b ≠ it → s.heap.get? b = some o → h'.get? b = some o) → Q none { s with heap := h' }) : wpAny (model prog w) A (pyNext (.ref it)) Q E s := by
  have hT : s.TypeIs (.ref it) "itertools.combinations" := ⟨_, hit, rfl⟩
  obtain ⟨o, e1, e2, n, e3⟩ := id hp
  unfold pyNext
  refine wpAny_bind (wpAny_attempt (wpAny_callSpecial?_slot (name := Str.ofString "__next__") hT next_cmb (wpAny_call_entry next_cmb hT entry_cmb_next ?_ (args_cmb_next _))))
  refine wpAny_bind (m := slotArgs _ _ _) (wpAny_of_eq (a := (.ref it, [])) (by rfl) ?_)
  refine wpAny_bind (wpAny_field hit rfl (x := .ref P) (by simp) ?_)
  refine wpAny_bind (numbers_cmb rfl hit ?_)
  refine wpAny_bind (m := Builtin.Itertools.itIntField _ _) ?_
  unfold Builtin.Itertools.itIntField
  refine wpAny_bind (wpAny_field hit rfl (x := rawInt 1) (by simp) (wpAny_pure ?_))
  show wpAny _ _ (Builtin.Itertools.itPoolItems (.ref P) >>= _) _ _ _
  refine wpAny_bind ?_
  unfold Builtin.Itertools.itPoolItems
  refine wpAny_bind (wpAny_seqItems e1 e3 (wpAny_pure ?_))
  split
  · rename_i nx heq
    have q : stepC items.size ix = some nx := (stepC_eq _ _).trans heq
    rw [q] at hc
    cases hc
  · refine wpAny_bind (wpAny_setField hit rfl (by simp) ?_)
    show wpAny _ A.in1 (newExc (.type "StopIteration") [] >>= _) _ _ _; refine wpAny_bind ?_; simp only [newExc, newTuple]
    refine wpAny_bind (wpAny_newObj_type (wpAny_bind (m := firstArgMember _ _) (wpAny_of_eq (a := Value.none) (by first | rfl | (simp only [firstArgMember]; rfl)) (wpAny_newObj_type ?_ (by size_fits)))) (by size_fits))
    simp only [raiseNew]; refine wpAny_bind (wpAny_handled ?_); rw [show A.in1.handled = none from hh]
    refine wpAny_bind (wpAny_pure (wpAny_throw ?_)); refine wpAny_bind (wpAny_isInstance (T := "StopIteration") (b := true) ⟨_, Heap.get?_push_size _ rfl, rfl⟩ isSubtype_stop ?_)
    exact wpAny_pure (h _ fun b o hb e => Heap.get?_push_of_some _ (Heap.get?_push_of_some _ ((Heap.get?_update_other _ _ hb.symm).trans e)))
theorem iter_self {it P : Addr} {st : Int} {last : Value} {ix : List Nat} {Q : Value → Shared → Prop} (hit : CmbAt s.heap it P st last ix) (h : Q (.ref it) s) : wpAny (model prog w) A (pyIter (.ref it)) Q E s := by
  have hT : s.TypeIs (.ref it) "itertools.combinations" := ⟨_, hit, rfl⟩
  refine wpAny_pyIter_slot hT iter_cmb (wpAny_call_entry iter_cmb hT entry_cmb_iter ?_ (args_cmb_iter _))
  show wpAny _ A.in1 (ret (.ref it)) _ _ s
  exact wpAny_pure ⟨_, rfl, "itertools.combinations", _, hT, next_cmb.lookup, h⟩
theorem meets_new {l : Addr} {o : Obj} {items : Array Value} {ep : Nat} {r : Nat} {t : Tok} (hc : o.cls = .type "list") (hd : o.data = .seq items ep) (hsz : items.size ≤ 1000) (hr : r ≤ items.size) :
    Meets (Builtin.«itertools.combinations.__new__» ⟨[.type "itertools.combinations", .ref l, .int (r : Nat) t], []⟩) (fun _ R s => s.heap.get? l = some o ∧ ∀ h1 h' : Heap, (∀ b o', s.heap.get? b = some o' → h1.get? b = some o') → (∀ b o', h1.get? b = some o' → h'.get? b = some o') →
      h'.IsTuple h1.objs.size items → CmbAt h' (h1.objs.size + 1) h1.objs.size 0 .none (List.range r) → R (.ok (.ret (.ref (h1.objs.size + 1)))) { s with heap := h' }) := fun prog w A R s ⟨ho, h⟩ =>
  new_run ho hc hd hsz hr h
theorem call_comb {l : Addr} {o : Obj} {items : Array Value} {ep : Nat} {r : Nat} {t : Tok} {Q : Value → Shared → Prop} (ho : s.heap.get? l = some o) (hc : o.cls = .type "list") (hd : o.data = .seq items ep) (hsz : items.size ≤ 1000) (hr : r ≤ items.size)
    (h : ∀ h1 h' : Heap, (∀ b o', s.heap.get? b = some o' → h1.get? b = some o') → (∀ b o', h1.get? b = some o' → h'.get? b = some o') → h'.IsTuple h1.objs.size items → CmbAt h' (h1.objs.size + 1) h1.objs.size 0 .none (List.range r) → Q (.ref (h1.objs.size + 1)) { s with heap := h' }) :
    wpAny (model prog w) A (call (.type "itertools.combinations") [.ref l, .int (r : Nat) t]) Q E s := by
  refine callType_new called_cmb (by decide +kernel) (typeCall_cmb _ _) (newCall_cmb _ _) (fun obj => F.args_object_init_3 obj _ _) entry_cmb_new (meets_new (t := t) hc hd hsz hr) ⟨ho, fun h1 h' k1 k2 p c => ?_⟩
  show _ ∧ _
  exact ⟨⟨_, c, rfl⟩, h h1 h' k1 k2 p c⟩
end
open PyProof.Rows L2
/-! ### the turns -/
/-- the indices in order, each the next of the one before -/
def Chain (n : Nat) (L : List (List Nat)) : Prop := (∀ i x y, L[i]? = some x → L[i + 1]? = some y → stepC n x = some y) ∧ (∀ x, L[L.length - 1]? = some x → stepC n x = none) ∧ L ≠ [] ∧ ∀ x ∈ L, x.length ≤ 1000
/-- combinations of the items xs: those that L tells -/
def Itm (xs : List V) (L : List (List Nat)) : It :=
  ⟨fun i _ => i < L.length, fun i H v H' => ∃ T ix, v = .ref T ∧ H T = none ∧ L[i]? = some ix ∧ H' = upd H T (.tup (ix.map fun k => xs.getD k .non)), fun i _ => L.length ≤ i⟩
theorem vals_pick {xs : List V} {its : List Value} (r : Vals xs its) (ix : List Nat) : Vals (ix.map fun k => xs.getD k .non) (pickV its.toArray ix) := by
  unfold pickV
  induction ix with
  | nil => exact .nil
  | cons k ix ih =>
    refine .cons ?_ ih
    show L2.RelV (xs.getD k .non) (its.toArray.getD k .none)
    by_cases hk : k < xs.length
    · obtain ⟨u, hu, ru⟩ := r.get (List.getElem?_eq_getElem hk)
      have e1 : xs.getD k .non = xs[k] := by simp [List.getD, List.getElem?_eq_getElem hk]
      have e2 : its.toArray.getD k .none = u := by simp [hu]
      rw [e1, e2]
      exact ru
    · have hl := r.length
      have e1 : xs.getD k .non = .non := by simp [List.getD, List.getElem?_eq_none (Nat.le_of_not_lt hk)]
      have e2 : its.toArray.getD k .none = .none := by simp [List.getElem?_eq_none (show its.length ≤ k by omega)]
      rw [e1, e2]
      rfl
theorem turn_comb {P : Program} {w : World} {K : PySem.W.Frag} {tg : Expr} {xs : List V} {its : List Value} {L : List (List Nat)} {it PP : Addr} (hv : Vals xs its) (hL : Chain xs.length L) (hne : it ≠ PP) :
    Turn P w K tg (Itm xs L) [it, PP] it (fun i h => h.IsTuple PP its.toArray ∧ ∃ last, CmbAt h it PP (if i = 0 then 0 else 1) last (L.getD (i - 1) [])) where
  mem := by simp
  obj := fun i h st b hb => by
    obtain ⟨⟨o, e, c, n, d⟩, last, hc⟩ := st
    rcases List.mem_cons.1 hb with rfl | hb
    · exact ⟨_, hc, fun v z => nomatch z⟩
    · rw [List.mem_singleton.1 hb]
      exact ⟨o, e, fun u z => by rw [d] at z; exact nomatch z⟩
  keep := fun i h h' st k => by
    obtain ⟨⟨o, e, c, n, d⟩, last, hc⟩ := st
    exact ⟨⟨o, k PP (by simp) _ e, c, n, d⟩, last, k it (by simp) _ hc⟩
  item := by
    intro X eP ew eK hc i pins s σ H E I hf st hg
    subst eP ew eK
    obtain ⟨hp, last, hit⟩ := st
    have hlt : i < L.length := hg
    obtain ⟨h1, h2, h3, h4⟩ := hL
    have hi : L[i]? = some L[i] := List.getElem?_eq_getElem hlt
    have hsz : its.toArray.size = xs.length := by simp [hv.length]
    have hstep : ((if i = 0 then (0 : Int) else 1) = 0 ∧ L[i] = L.getD (i - 1) []) ∨ ((if i = 0 then (0 : Int) else 1) = 1 ∧ stepC its.toArray.size (L.getD (i - 1) []) = some L[i]) := by
      by_cases hz : i = 0
      · subst hz
        exact .inl ⟨rfl, by simp [List.getD, hi]⟩
      · refine .inr ⟨by rw [if_neg hz], ?_⟩
        have hj : L[i - 1]? = some (L[i - 1]'(by omega)) := List.getElem?_eq_getElem (by omega)
        rw [hsz]
        have e : L.getD (i - 1) [] = L[i - 1]'(by omega) := by simp [List.getD, hj]
        rw [e]
        refine h1 (i - 1) _ _ hj ?_
        rw [show i - 1 + 1 = i by omega]
        exact hi
    have hl1 : (L.getD (i - 1) []).length ≤ 1000 := by
      have hj : L[i - 1]? = some (L[i - 1]'(by omega)) := List.getElem?_eq_getElem (by omega)
      have e : L.getD (i - 1) [] = L[i - 1]'(by omega) := by simp [List.getD, hj]
      rw [e]
      exact h4 _ (List.getElem_mem _)
    refine handed hit hp hne hl1 L[i] (h4 _ (List.getElem_mem _)) hstep fun h' a b k => ?_
    have ltI : it < s.heap.objs.size := Heap.lt_size hit
    have hz2 : (L[i].map fun k => xs.getD k .non).length ≤ sizeLine := by
      have := h4 L[i] (List.getElem_mem _)
      rw [List.length_map]
      unfold sizeLine
      omega
    have new : ObjOk X.prog X.w (upd H s.heap.objs.size (.tup (L[i].map fun k => xs.getD k .non))) h' s.heap.objs.size (.tup (L[i].map fun k => xs.getD k .non)) :=
      ⟨hz2, _, vals_pick hv _, ⟨_, b, rfl, _, rfl⟩⟩
    have I1 : Inv X pins σ (upd H s.heap.objs.size (.tup (L[i].map fun k => xs.getD k .non))) { s with heap := h' } :=
      I.turnedNew (t' := s.toks) (ch := [it, PP]) (fun c o hb q => k c o (fun q' => hb (by simp [q'])) q) hf (Nat.le_refl _) new
    obtain ⟨o, e1, e2, n, e3⟩ := id hp
    refine ⟨_, rfl, go_of (s := { s with heap := h' }) (n := "itertools.combinations") a rfl rfl (by decide) ⟨.ref s.heap.objs.size, _, I1, rfl, ⟨_, _, rfl, I.hok.fresh (Nat.le_refl _), hi, rfl⟩, ⟨⟨o, k _ _ hne.symm e1, e2, n, e3⟩, .ref s.heap.objs.size, ?_⟩, fun c hcm => ?_⟩⟩
    · have e : L.getD (i + 1 - 1) [] = L[i] := by simp [List.getD, hi]
      rw [e, if_neg (by omega)]
      exact a
    · have hlt2 : c < s.heap.objs.size := by
        rcases List.mem_cons.1 hcm with rfl | hcm
        · exact ltI
        · rw [List.mem_singleton.1 hcm]; exact Heap.lt_size e1
      rw [upd_ne (Nat.ne_of_lt hlt2)]
      exact (hf c hcm).1
  done := by
    intro X eP ew eK hc i pins s σ H E I hf st hg
    subst eP ew eK
    obtain ⟨hp, last, hit⟩ := st
    have hge : L.length ≤ i := hg
    obtain ⟨h1, h2, h3, h4⟩ := hL
    have h0 : 0 < L.length := List.length_pos_iff.mpr h3
    have hsz : its.toArray.size = xs.length := by simp [hv.length]
    rw [if_neg (by omega)] at hit
    have hstep : stepC its.toArray.size (L.getD (i - 1) []) = none := by
      by_cases hi : i = L.length
      · subst hi
        have hj : L[L.length - 1]? = some (L[L.length - 1]'(by omega)) := List.getElem?_eq_getElem (by omega)
        have e : L.getD (L.length - 1) [] = L[L.length - 1]'(by omega) := by simp [List.getD, hj]
        rw [e, hsz]
        exact h2 _ hj
      · have e : L.getD (i - 1) [] = [] := by simp [List.getD, List.getElem?_eq_none (show L.length ≤ i - 1 by omega)]
        rw [e]
        rfl
    obtain ⟨f0, f1, _, f3, f4, f5⟩ := hf it List.mem_cons_self
    exact ended (I.ok.hd hc) hit hp hstep fun h' k => ⟨rfl, I.turned (t' := s.toks) (fun b o hb e => k b o hb e) f0 f1 f3 f4 f5⟩
  self := fun A i s Q E st h => iter_self st.2.choose_spec h
end NLC
namespace NL
open PySem PySem.Spec PyProof.Rows L2 NLC
/-! ### combinations as data -/
def iComb (K : PySem.W.Frag) (ta : TA) : TI := fun σ H R => ta σ H fun vs H1 => ∃ (a : Addr) (xs : List V) (r : Nat) (L : List (List Nat)), vs = [.ref a, .int r] ∧ SqL K H1 a xs ∧ xs.length ≤ 1000 ∧ r ≤ xs.length ∧ Chain xs.length L ∧ L.getD 0 [] = List.range r ∧ R (Itm xs L) H1
theorem pi_comb {X : Cx} {tg e e2 : Expr} {ta : TA} {p pos : Pos} (hg : Gl X "combinations") (hm : X.mg "combinations" = some (.type "itertools.combinations")) (ha : PA X [e, e2] ta)
    (hs : Arg1 X e [e2] := by rfl) (hpl : NoSt X pos [e2] := by rfl) : PI X tg (.Call (.Name "combinations" p) [e, e2] [] pos) (iComb X.K ta) := by
  refine PI.mk fun pins s σ H R I h => ?_
  refine Call_ (ld_glob I hg hm (PyProof.Rows.callWith_type1 (thn (ha.run pos pins s σ H _ I h) fun us s1 ⟨vs, H1, I1, r1, q1⟩ => ?_) hs hpl))
  obtain ⟨a, xs, r, L, ex, hq, hx, hr, hL, h0, q⟩ := q1
  subst ex
  cases r1 with
  | cons r1 rr =>
    cases rr with
    | cons r2 rr =>
      cases rr
      cases r1
      obtain ⟨t, rfl⟩ := r2
      obtain ⟨its, rv, pl, _⟩ := I1.list hq
      obtain ⟨o, n, e1, e2, _, e4⟩ := id pl
      have hsz : its.toArray.size = xs.length := by simp [rv.length]
      refine call_comb (t := t) e1 e2 e4 (by omega) (by omega) fun h1 h' k1 k2 p c => iter_self c ?_
      have J1 : Inv X pins σ H1 { s1 with heap := h1 } := I1.kept (t' := s1.toks) k1
      have J2 : Inv X pins σ H1 { s1 with heap := h' } := J1.kept (t' := s1.toks) k2
      refine ⟨h1.objs.size + 1, [h1.objs.size + 1, h1.objs.size], _, _, H1, rfl, J2, turn_comb rv hL (Nat.succ_ne_self _), ⟨p, .none, ?_⟩, fun b hb => ?_, q⟩
      · show CmbAt h' _ _ 0 _ (L.getD 0 [])
        rw [h0]
        exact c
      · have hle : h1.objs.size ≤ b := by
          rcases List.mem_cons.1 hb with rfl | hb
          · exact Nat.le_succ _
          · rw [List.mem_singleton.1 hb]; exact Nat.le_refl _
        exact J1.fpOk hle (J1.hok.fresh hle)
def chainL (n : Nat) : Nat → List Nat → List (List Nat)
  | 0, ix => [ix]
  | f + 1, ix => match stepC n ix with
    | some y => ix :: chainL n f y
    | none => [ix]
/-- the indices of all choices of r of n -/
def combIx (n r : Nat) : List (List Nat) := chainL n 200 (List.range r)
def chainB (n : Nat) (L : List (List Nat)) : Bool := (L.all fun x => decide (x.length ≤ 1000)) && (List.range L.length).all fun i => decide (stepC n (L.getD i []) = L[i + 1]?)
theorem chainL_ne {n f : Nat} {ix : List Nat} : chainL n f ix ≠ [] ∧ (chainL n f ix).getD 0 [] = ix := by
  cases f with
  | zero => exact ⟨List.cons_ne_nil _ _, rfl⟩
  | succ f =>
    unfold chainL
    split
    · exact ⟨List.cons_ne_nil _ _, rfl⟩
    · exact ⟨List.cons_ne_nil _ _, rfl⟩
theorem chain_of {n : Nat} {L : List (List Nat)} (h : chainB n L = true) (hn : L ≠ []) : Chain n L := by
  unfold chainB at h
  rw [Bool.and_eq_true, List.all_eq_true, List.all_eq_true] at h
  obtain ⟨h1, h2⟩ := h
  have at_ : ∀ i x, L[i]? = some x → stepC n x = L[i + 1]? := fun i x hx => by
    have hi : i < L.length := (List.getElem?_eq_some_iff.mp hx).1
    have := of_decide_eq_true (h2 i (List.mem_range.mpr hi))
    rw [show L.getD i [] = x by simp [List.getD, hx]] at this
    exact this
  refine ⟨fun i x y hx hy => (at_ i x hx).trans hy, fun x hx => ?_, hn, fun x hx => of_decide_eq_true (h1 x hx)⟩
  have hp : 0 < L.length := List.length_pos_iff.mpr hn
  rw [at_ _ x hx, List.getElem?_eq_none (by omega)]
def combM (f g : M Da) : M (List Da) := fun ρ S => (f ρ S).bind fun d S1 => (g ρ S1).bind fun e S2 => match d, e with
  | .lst l, .int r => if 0 ≤ r ∧ r.toNat ≤ l.length ∧ l.length ≤ 1000 ∧ chainB l.length (combIx l.length r.toNat) = true then .ok ((combIx l.length r.toNat).map fun ix => .tup (ix.map fun k => l.getD k .non)) S2 else .bad
  | _, _ => .bad
section
variable {X : Cx} {G : Gc} {Wx : WX}
theorem reps_pick {W : Wd} {l : List Da} {vs : List V} (r : Reps G W l vs) (ix : List Nat) : Reps G W (ix.map fun k => l.getD k .non) (ix.map fun k => vs.getD k .non) := by
  induction ix with
  | nil => exact .nil
  | cons k ix ih =>
    refine .cons ?_ ih
    have hl := r.length
    show Rep G W (l.getD k .non) (vs.getD k .non)
    by_cases hk : k < vs.length
    · obtain ⟨d, hd, rd⟩ := r.getV (List.getElem?_eq_getElem hk)
      have e1 : l.getD k .non = d := by simp [List.getD, hd]
      have e2 : vs.getD k .non = vs[k] := by simp [List.getD, List.getElem?_eq_getElem hk]
      rw [e1, e2]
      exact rd
    · have e1 : l.getD k .non = .non := by simp [List.getD, List.getElem?_eq_none (show l.length ≤ k by omega)]
      have e2 : vs.getD k .non = .non := by simp [List.getD, List.getElem?_eq_none (show vs.length ≤ k by omega)]
      rw [e1, e2]
      exact repN W
theorem itd_comb {W0 : Wd} {l : List Da} {vs : List V} {L : List (List Nat)} (r : Reps G W0 l vs) : ItD G W0 (Itm vs L) (L.map fun ix => .tup (ix.map fun k => l.getD k .non)) := by
  refine ⟨fun i W H S hi le s => by rw [List.length_map] at hi; exact hi, fun W H S le s => by show L.length ≤ _; rw [List.length_map]; exact Nat.le_refl _, fun i W H S x H' hi le s y => ?_⟩
  obtain ⟨T, ix, rfl, hT, hix, rfl⟩ := y
  obtain ⟨x1, s1⟩ := Ext.frz s (o := .tup (ix.map fun k => vs.getD k .non)) hT
  exact ⟨_, _, by rw [List.getElem?_map, hix]; rfl, x1, s1, RV.tup frz_same ((reps_pick r ix).mono (le.trans x1.le))⟩
theorem pid_comb {tg e e2 : Expr} {f g : M Da} {p pos : Pos} (hm : X.mg "combinations" = some (.type "itertools.combinations")) (he : PE X e (tM G Wx f)) (he2 : PE X e2 (tM G Wx g)) (hg : Gl X "combinations" := by rfl)
    (hs : starEach [e, e2] X.env = (false, eval e X.env) :: starEach [e2] X.env := by rfl) (hs2 : starEach [e2] X.env = (false, eval e2 X.env) :: starEach [] X.env := by rfl) (hpl : (backTo pos (starEach [e2] X.env)).any (·.1) = false := by rfl) (hK : G.K = X.K := by rfl) :
    PI X tg (.Call (.Name "combinations" p) [e, e2] [] pos) (tI G Wx (combM f g)) :=
  (pi_comb hg hm (pa_cons he (pa_cons he2 pa_nil hs2) hs) hs hpl).imp fun σ H R ⟨W, S, ρ, s, r, q⟩ => ⟨W, S, ρ, s, r, q.bind fun d S1 v W1 H1 x1 s1 q1 k1 => ⟨W1, S1, ρ, s1, r.mono x1.le, k1.bind fun d2 S2 u W2 H2 x2 s2 q2 k2 => by
    cases d with
    | lst l =>
      cases d2 with
      | int j =>
        obtain ⟨a, vs, rfl, ha, ra⟩ := (q1.mono x2.le).lst_inv
        cases q2.int_inv
        rw [hK] at ha
        have k2 : AftI G Wx σ W2 H2 (if 0 ≤ j ∧ j.toNat ≤ l.length ∧ l.length ≤ 1000 ∧ chainB l.length (combIx l.length j.toNat) = true then .ok ((combIx l.length j.toNat).map fun ix => .tup (ix.map fun k => l.getD k .non)) S2 else .bad) R := k2
        by_cases hc : 0 ≤ j ∧ j.toNat ≤ l.length ∧ l.length ≤ 1000 ∧ chainB l.length (combIx l.length j.toNat) = true
        · rw [if_pos hc] at k2
          obtain ⟨c1, c2, c3, c4⟩ := hc
          have hl := ra.length
          rw [hl] at c2 c3 c4 k2
          exact ⟨a, vs, j.toNat, combIx vs.length j.toNat, by rw [Int.toNat_of_nonneg c1], s2.sqL ha, c3, c2, chain_of c4 chainL_ne.1, chainL_ne.2, k2.here s2 (itd_comb ra)⟩
        · rw [if_neg hc] at k2
          exact k2.elim
      | _ => exact k2.elim
    | _ => exact k2.elim⟩⟩
end
end NL
namespace NL
open PySem PySem.Spec PyProof.Rows L2
/-! ### a cell grown by a fresh list -/
def extM (fo : M Da) (f : M (List Da)) : M Da := fun ρ S => (fo ρ S).bind fun d S1 => match cellL S1 d with
  | some _ => (f ρ S1).bind fun ys S2 => match cellL S2 d with
    | some (j, l) => if l.length + ys.length ≤ big then .ok .non (S2.set j (.lst (l ++ ys))) else .bad
    | none => .bad
  | none => .bad
section
variable {X : Cx} {G : Gc} {Wx : WX} {o e : Expr} {fo : M Da} {f : M (List Da)}
theorem pd_ext {apos cpos : Pos} (ho : PE X o (tM G Wx fo)) (he : PE X e (tF G Wx f))
    (hbase : attributeBase o "extend" X.env (eval o X.env) = eval o X.env := by rfl)
    (hfew : ((backTo cpos (starEach [e] X.env)).all (fun x => !x.1) && (backToKw cpos (keywordEach [] X.env)).all (fun x => x.1.isSome) && decide ([e].length + ([] : List Keyword).length + (if ([] : List Keyword).isEmpty then 0 else 1) < 30)) = true := by rfl) (hline : (apos.endLine == cpos.line) = true := by rfl) (hs : starEach [e] X.env = (false, eval e X.env) :: starEach [] X.env := by rfl) (hplain : (backTo cpos (starEach [] X.env)).any (·.1) = false := by rfl) :
    PE X (.Call (.Attribute o "extend" apos) [e] [] cpos) (tM G Wx (extM fo f)) :=
  (pe_bm PySem.F.plainAttrs_list PySem.F.slot_list_extend PySem.F.type_list_extend mt_extend ho (pa_cons he pa_nil hs) hbase hfew hline hs hplain).imp fun σ H Q ⟨W, S, ρ, s, r, q⟩ => ⟨W, S, ρ, s, r, q.bind fun d S1 v W1 H1 x1 s1 q1 k1 => by
    cases e1 : cellL S1 d with
    | none => simp only [e1] at k1; exact k1.elim
    | some jl =>
      obtain ⟨j, l⟩ := jl
      simp only [e1] at k1
      obtain ⟨a, vs, rfl, _, h1, _⟩ := s1.cellL q1 e1
      refine ⟨.inl ⟨rfl, vs, .of h1⟩, W1, S1, ρ, s1, r.mono x1.le, ?_⟩
      cases ef : f ρ S1 with
      | bad => rw [ef] at k1; exact k1.elim
      | exc c d S2 => rw [ef] at k1; exact k1
      | ok ys S2 =>
        rw [ef] at k1
        intro p zs W2 H2 x2 s2 rz hp _ _ _
        simp only [Res.bind] at k1
        cases e2 : cellL S2 d with
        | none => simp only [e2] at k1; exact k1.elim
        | some jl2 =>
          obtain ⟨j2, l2⟩ := jl2
          simp only [e2] at k1
          by_cases hl : l2.length + ys.length ≤ big
          · rw [if_pos hl] at k1
            obtain ⟨a2, vs2, ea, ha2, h2, h3⟩ := s2.cellL (q1.mono x2.le) e2
            cases ea
            obtain ⟨s3, x3⟩ := s2.write (c := .lst (l2 ++ ys)) ha2 ⟨_, upd_same, h3.append rz⟩
            exact ⟨a, p, vs2, zs, rfl, rfl, h2, hp, by rw [← h3.length, ← rz.length, ← big_eq]; exact hl, k1 _ _ _ (x2.trans x3) s3 (repN _)⟩
          · rw [if_neg hl] at k1
            exact k1.elim⟩
end
end NL

set_option Elab.async false
set_option linter.all false
set_option autoImplicit false
set_option maxRecDepth 100000
set_option maxHeartbeats 4100000
namespace NL
open PySem PySem.Spec PyProof.Rows L2
/-! ### calls with keywords alone -/
/-- the keywords ks in the parameters' order bind the rest -/
def KwB (K : PySem.W.Frag) (fd : FuncData) (ps ks : List Str) : Prop :=
  ∀ (s : Shared) (us ws : List Value), K.In s.heap → us.length + ws.length = ps.length → ws.length = ks.length → BindsTo s fd ⟨us, ks.zip ws⟩ (ps.zip (us ++ ws))
theorem kwb_of {K : PySem.W.Frag} {x qual : Str} {st : Stmt} {f : Addr} {fd : FuncData} {ps ks : List Str} (n : Nat) (hn : n + ks.length = ps.length) (F : Fun K x qual st f fd)
    (h : ∀ (kV doc pm : Value) (an : Option Addr) (cdv ct : Value) (us ws : List Value), us.length = n → ws.length = ks.length →
      bindArgs (PySem.W.fnOf x qual (defArgs st) (defBody st) (defScope st) .none kV doc pm an cdv ct) ⟨us, ks.zip ws⟩ = pure (ps.zip (us ++ ws))) : KwB K fd ps ks := by
  obtain ⟨_, _, kV, doc, pm, an, cdv, ct, _, rfl, _, _⟩ := F.ex
  exact fun s us ws _ h1 h2 => .of_eq (h kV doc pm an cdv ct us ws (by omega) h2)
section
variable {X : Cx} {k : Nat} {f C : Addr} {fd : FuncData} {ps ks : List Str} {sp : Sp} {E : L2.St → XK} {x m : Str} {p pos apos : Pos} {e o : Expr} {kws : List Keyword} {ta : TE} {tk : TA}
theorem ranK {pins : List (Addr × Obj)} {σ : L2.St} {H : Hp} {s : Shared} {Q : VK} {us ws : List Value} {vs zs : List V} (F : FnG X.prog X.w X.K X.mg X.base k f fd ps sp) (hr : RoomG k X.A) (hb : KwB X.K fd ps ks) (hx : PassesAt (L2.CX X.prog X.w) X σ (E σ))
    (I : Inv X pins σ H s) (r : Vals vs us) (rz : Vals zs ws) (l2 : zs.length = ks.length) (h : sp (vs ++ zs) H Q (E σ)) :
    wpAny (model X.prog X.w) X.A (call (.ref f) us (ks.zip ws)) (EP X pins σ Q) X.xe s := by
  have rr := r.append rz
  have b := hb s us ws I.kIn (by rw [← List.length_append, ← rr.length]; exact F.len _ _ _ _ h) (rz.length.symm.trans l2)
  refine wpAny_call (codeAny_mono (F.run hr I.env0 b rr h) ?_)
  rintro (er | fl) s2 hq
  · exact hx pins H s er s2 I hq
  · cases fl with
    | ret u => exact I.after hq
    | _ => exact hq.elim
abbrev KwAll (X : Cx) (pos : Pos) (kws : List Keyword) (ks : List Str) : Prop := (backToKw pos (keywordEach kws X.env)).all (·.1.isSome) = true ∧ (backToKw pos (keywordEach kws X.env)).filterMap (·.1) = ks ∧ ((backTo pos (starEach [] X.env)).any (·.1) || (backToKw pos (keywordEach kws X.env)).any (·.1.isNone)) = false
theorem peg_makeK (M : Mk X.K C f) (F : FnG X.prog X.w X.K X.mg X.base k f fd ps sp) (hr : RoomG (k + 1) X.A) (hg : Gl X x) (hm : X.mg x = some (.ref C)) (hb : KwB X.K fd ps ks) (hx : ∀ σ, PassesAt (L2.CX X.prog X.w) X σ (E σ))
    (ha : PK X kws tk) (hk : KwAll X pos kws ks) (hdb : (x == ("__debug__" : Str)) = false) : PE X (.Call (.Name x p) [] kws pos) (tMakeS C sp E fun σ H Q => tk σ H fun zs H1 => zs.length = ks.length ∧ Q zs H1) :=
  ⟨fun pins s σ H Q I h => wpAny_Call_Name_kw (ld_glob I hg hm (PySem.W.callWith_KW0 (h₀ := X.base) I.ok.mod.kin M.kp hk.1 (thn (ha.run pos pins s σ H _ I h) fun us s1 ⟨vs, H1, J, r, hl, q⟩ => ⟨J.kIn, by
    rw [hk.2.1]
    generalize hn : s1.heap.objs.size = n
    have q1 := q (n + 1) n (hn ▸ J.hok.fresh (Nat.le_succ _)) (hn ▸ J.hok.fresh (Nat.le_refl _)) (Nat.ne_of_lt (Nat.lt_succ_self _))
    subst hn
    have J2 := Inv.made (C := C) J
    have r0 : Vals [V.ref (s1.heap.objs.size + 1)] [Value.ref (s1.heap.objs.size + 1)] := .cons rfl .nil
    have rs : Vals ([V.ref (s1.heap.objs.size + 1)] ++ vs) ([Value.ref (s1.heap.objs.size + 1)] ++ us) := r0.append r
    have b := hb _ [Value.ref (s1.heap.objs.size + 1)] us J2.kIn (by rw [← List.length_append, ← rs.length]; exact F.len _ _ _ _ q1) (r.length.symm.trans hl)
    refine wpAny_call (make_map (f := f) J.kIn M.makes M.init (beq_iff_eq.mp M.fn) (codeAny_mono (F.run (hr.makingK C [] (ks.zip us)) (J2.env0.make C [] (ks.zip us)) b rs q1) ?_))
    rintro (er | fl) s2 hq
    · exact hx σ pins _ _ er s2 J2 hq
    · cases fl with
      | ret u =>
        obtain ⟨v, H3, J3, rv, ev, q3⟩ := J2.after hq
        subst ev
        exact ⟨rv, .ref (s1.heap.objs.size + 1), H3, J3, rfl, q3⟩
      | _ => exact hq.elim⟩) hk.2.2) hdb)⟩
abbrev MethEqK (X : Cx) (o : Expr) (m : Str) (apos pos : Pos) (kws : List Keyword) (pl : Sem Bool) : Prop :=
  eval (.Call (.Attribute o m apos) [] kws pos) X.env = (do let ov ← eval o X.env; standAt apos.atName; let (f, first) ← holding [ov] (getMethod ov m pl); callWith pos f first (backTo pos (starEach [] X.env)) (backToKw pos (keywordEach kws X.env)))
theorem peg_methK {pl : Sem Bool} (he : PE X o ta) (c : Cls X.K C) (hm : Meth X.K C m f) (F : FnG X.prog X.w X.K X.mg X.base k f fd ps sp) (hr : RoomG k X.A) (hb : KwB X.K fd ps ks) (hx : ∀ σ, PassesAt (L2.CX X.prog X.w) X σ (E σ)) (ha : PK X kws tk)
    (hk : KwAll X pos kws ks) (ht : MethEqK X o m apos pos kws pl) : PE X (.Call (.Attribute o m apos) [] kws pos) (tMethS C m sp E ta fun σ H Q => tk σ H fun zs H1 => zs.length = ks.length ∧ Q zs H1) :=
  ⟨fun pins s σ H Q I h => PySem.W.methodCall_KW (pl := pl) (thn (he.run pins s σ H _ I h) fun u s1 ⟨y, H1, J, ry, a, dx, fs, ey, ea, l, q⟩ => by
    subst ey
    cases ry
    exact getmeth_ok J ea c hm l (PySem.W.callWith_KW0 (first := [.ref a]) (h₀ := X.base) J.ok.mod.kin hm.kp hk.1 (thn (ha.run pos pins s1 σ H1 _ J q) fun us _ ⟨vs, _, J2, r, hl, q2⟩ => ⟨J2.kIn, by
      rw [hk.2.1]
      exact ranK (us := [.ref a]) (vs := [.ref a]) F hr hb (hx σ) J2 (.cons rfl .nil) r hl q2⟩) hk.2.2)) ht⟩
end
section
variable {X : Cx} {G : Gc} {Wx : WX} {k n : Nat} {f : Addr} {fd : FuncData} {ps ks : List Str} {x m c : Str} {p pos apos kpos : Pos} {e o : Expr} {kws : List Keyword} {fo fe : M Da} {t : M (List Da)} {mf : Mf} {nm : Option Str}
theorem PK.imp {kws : List Keyword} {t t' : TA} (h : PK X kws t) (k : ∀ σ H Q, t' σ H Q → t σ H Q) : PK X kws t' := ⟨fun pos pins s σ H Q I q => h.run pos pins s σ H Q I (k σ H Q q)⟩
theorem pkd_nil : PK X [] (tMs G Wx nilM) := PK.imp pk_nil fun σ H Q h => tR_c (R := RVs G) h fun W => .nil
theorem pkd_cons (he : PE X e (tM G Wx fe)) (hr : PK X kws (tMs G Wx t)) : PK X (⟨nm, e, kpos⟩ :: kws) (tMs G Wx (consM fe t)) :=
  PK.imp (pk_cons he hr) fun σ H Q ⟨W, S, ρ, s, r, q⟩ => ⟨W, S, ρ, s, r, q.bind fun a S1 v W1 H1 x1 s1 q1 k1 => ⟨W1, S1, ρ, s1, r.mono x1.le, k1.bind fun l S2 vs W2 H2 x2 s2 q2 k2 => k2.here s2 (.cons (q1.mono x2.le) q2)⟩⟩
structure MakeOkK (P : Program) (w : World) (K : PySem.W.Frag) (mg : Str → Option Value) (base : Heap) (G : Gc) (c : Str) (k n : Nat) (mf : Mf) (ks : List Str) : Prop where
  ex : ∃ f fd ps, FnG P w K mg base k f fd ps (spM G n mf) ∧ Mk K (G.cls c) f ∧ mg c = some (.ref (G.cls c)) ∧ KwB K fd ps ks
structure MethOkK (P : Program) (w : World) (K : PySem.W.Frag) (mg : Str → Option Value) (base : Heap) (G : Gc) (c m : Str) (k n : Nat) (mf : Mf) (ks : List Str) : Prop where
  ex : ∃ f fd ps, FnG P w K mg base k f fd ps (spM G n mf) ∧ Cls K (G.cls c) ∧ Meth K (G.cls c) m f ∧ KwB K fd ps ks
theorem pdk_make (C : MakeOkK X.prog X.w X.K X.mg X.base G c k n mf ks) (hr : RoomG (k + 1) X.A) (tk : Takes X Wx) (hn : ks.length + 1 = n) (ha : PK X kws (tMs G Wx t)) (hk : KwAll X pos kws ks := by exact ⟨rfl, rfl, rfl⟩) (hg : Gl X c := by rfl) (hdb : (c == ("__debug__" : Str)) = false := by decide) :
    PE X (.Call (.Name c p) [] kws pos) (tM G Wx (makeF c n mf t)) := by
  obtain ⟨f, fd, ps, F, M, hm, hb⟩ := C.ex
  refine (peg_makeK (E := WE Wx) M F hr hg hm hb (fun σ => passAt tk σ) ha hk hdb).imp fun σ H Q ⟨W, S, ρ, s, r, q⟩ => ⟨W, S, ρ, s, r, q.bind fun ds S1 vs W1 H1 x1 s1 q1 k1 => ?_⟩
  by_cases hl : ds.length + 1 = n
  · rw [if_pos hl] at k1
    refine ⟨by rw [← q1.length]; omega, fun x dx hx hd hne => ?_⟩
    obtain ⟨y1, t1⟩ := Ext.add s1 (o := .own x) hd
    have hx2 : upd H1 dx (.own x) x = none := by rw [upd_ne (Ne.symm hne)]; exact hx
    obtain ⟨y2, t2⟩ := Ext.add t1 (o := .ins (G.cls c) dx []) hx2
    obtain ⟨y3, t3⟩ := Ext.cel (c := .obj c []) t2 (y1.trans y2) hx ⟨dx, [], upd_same, .nil⟩ (t1.notin hx2) (t1.Fnone hx2)
    have hcell : Rep G (W1.cel x) (.cell S1.length) (.ref x) := by
      rw [Rep]
      refine ⟨x, ?_, rfl⟩
      show (W1.ι ++ [x])[S1.length]? = some x
      rw [← s1.len, List.getElem?_append_right (Nat.le_refl _), Nat.sub_self]; rfl
    refine ⟨by rw [← hl]; simp [q1.length], W1.cel x, _, .cell S1.length :: ds, t3, .cons hcell (q1.mono y3.le), ?_⟩
    have k2 := k1.later y3
    refine (Aft.bind (R := RV G) k2 fun r S2 v W2 H2 x2 s2 q2 k3 => ?_).fn
    cases r with
    | non => exact ⟨q2.non_inv, k3.here s2 (hcell.mono x2.le)⟩
    | _ => exact k3.elim
  · rw [if_neg hl] at k1; exact k1.elim
theorem pdk_meth {pl : Sem Bool} (C : MethOkK X.prog X.w X.K X.mg X.base G c m k n mf ks) (hr : RoomG k X.A) (tk : Takes X Wx) (hn : ks.length + 1 = n) (he : PE X o (tM G Wx fo)) (ha : PK X kws (tMs G Wx t)) (hk : KwAll X pos kws ks := by exact ⟨rfl, rfl, rfl⟩)
    (ht : MethEqK X o m apos pos kws pl := by rfl) :
    PE X (.Call (.Attribute o m apos) [] kws pos) (tM G Wx (methF c m n mf fo t)) := by
  obtain ⟨f, fd, ps, F, cl, hm, hb⟩ := C.ex
  refine (peg_methK (E := WE Wx) he cl hm F hr hb (fun σ => passAt tk σ) ha hk ht).imp fun σ H Q ⟨W, S, ρ, s, r, q⟩ => ⟨W, S, ρ, s, r, q.bind fun d S1 v W1 H1 x1 s1 q1 k1 => ?_⟩
  cases ho : objAt S1 c d with
  | none => simp only [ho] at k1; exact k1.elim
  | some jf =>
    obtain ⟨j, fs⟩ := jf
    simp only [ho] at k1
    cases hl : fs.lookup m with
    | some _ => simp only [hl] at k1; exact k1.elim
    | none =>
      simp only [hl] at k1
      obtain ⟨a, dx, vs, rfl, ha, h1, h2⟩ := s1.obj q1 ho
      refine ⟨a, dx, vs, rfl, h1, h2.lookup_none hl, W1, S1, ρ, s1, r.mono x1.le, k1.bind fun ds S2 us W2 H2 x2 s2 q2 k2 => ?_⟩
      by_cases hz : (d :: ds).length = n
      · rw [if_pos hz] at k2
        exact ⟨by rw [← q2.length]; rw [List.length_cons] at hz; omega, by rw [← hz]; simp [q2.length], W2, S2, d :: ds, s2, .cons (q1.mono x2.le) q2, k2.fn⟩
      · rw [if_neg hz] at k2; exact k2.elim
end
end NL

set_option Elab.async false
set_option linter.all false
set_option autoImplicit false
set_option maxRecDepth 100000
set_option maxHeartbeats 4100000
namespace NL
open PySem PySem.Spec PyProof.Rows
open L2 LamX
/-! ### a lambda made, with the table of codes as a cell -/
theorem upd_swap {H : Hp} {a b : Addr} {x y : HO} (h : a ≠ b) : upd (upd H a x) b y = upd (upd H b y) a x := by
  funext z
  by_cases e1 : z = a
  · subst e1; rw [upd_ne h, upd_same, upd_same]
  · by_cases e2 : z = b
    · subst e2; rw [upd_same, upd_ne e1, upd_same]
    · rw [upd_ne e2, upd_ne e1, upd_ne e1, upd_ne e2]
theorem set_at {α : Type} {l : List α} {i : Nat} {x : α} (h : l[i]? = some x) : l.set i x = l := by
  apply List.ext_getElem?
  intro k
  by_cases e : i = k
  · subst e
    rw [List.getElem?_set_self (List.getElem?_eq_some_iff.mp h).1, h]
  · rw [List.getElem?_set_ne e]
section
variable {X : Cx} {G : Gc} {pins : List (Addr × Obj)} {σ : L2.St} {H : Hp} {s : Shared} {W : Wd} {S : Store} {j tk : Nat} {c : Addr}
theorem lam_mk {params : Arguments} {body : Expr} {scope : Scope} {pos : Pos} {E : Value → Shared → Prop} {Q : Value → Shared → Prop} (I : Inv X pins σ H s) (sr : SR G W H S) (hj : S[j]? = some (.tab tk)) (TB : TabB X.base X.mg c (G.tab tk)) (hcode : X.env.code = .ref c)
    (hq : X.env.qual ++ "<lambda>" = (G.tq tk)) (hdef : defaultsOf params X.env = ([], [])) (hfree : ∀ y ∈ scope.names, y.2 = .free → ∃ c, X.env.cells.lookup y.1 = some c)
    (h : ∀ (f c' : Addr) (pm ctv : Value) (W1 : Wd) (H1 : Hp) (s' : Shared), Inv X pins σ H1 s' → Ext W H W1 H1 → SR G W1 H1 S → s'.heap.get? f = some (PySem.W.kla_obj "<lambda>" (X.env.qual ++ "<lambda>") params body scope (cloFrom X.env.cells scope.names []) pm c' ctv) →
      H1 f = none → f ∉ frs X.stack → W1.F c' = some (CodeO c' (G.tq tk)) → Q (.ref f) s') :
    wpAny (model X.prog X.w) X.A (eval (Expr.Lambda params body scope pos) X.env) Q E s := by
  obtain ⟨a, hja, ea, ps, hP, ht, ha⟩ := sr.cell j _ hj
  subst ea
  have bP : s.heap.BuiltinsAt X.mg (G.tab tk) := TB.bm.keeps I.bk
  have hP' : s.heap.get? (G.tab tk) = some { cls := .none, data := .fields ps } := I.hok (G.tab tk) _ hP
  have fresh : ∀ f, s.heap.objs.size ≤ f → f ∉ frs X.stack := fun f hf z => by
    rcases List.mem_cons.1 (I.stkSub _ z) with e | e
    · have lt := I.lt
      rw [← e] at lt
      exact Nat.lt_irrefl _ (Nat.lt_of_lt_of_le lt hf)
    · exact I.nofs hf e
  apply PySem.W.kla_eval hdef
  cases hca : codeAmong pos ps.toList with
  | some cv =>
    obtain ⟨c', rfl, hF⟩ := ha pos cv hca
    refine PySem.W.kla_makeFunctionHit (mg := X.mg) (c := c) (P := (G.tab tk)) (ps := ps) (closure_ok hfree) I.ok.glob (I.mod.glob.keeps I.bk) hcode (TB.code.keeps I.bk) hP' ht hca bP fun ctv h' tt hx hsz => ?_
    exact h h'.objs.size c' _ ctv W H _ (I.kept fun b o e => Heap.get?_push_of_some _ (hx b o e)) (.refl W H) sr (Heap.get?_push_size _ rfl) (I.hok.fresh hsz) (fresh _ hsz) hF
  | none =>
    refine PySem.W.kla_makeFunction (mg := X.mg) (c := c) (P := (G.tab tk)) (ps := ps) (closure_ok hfree) I.ok.glob (I.mod.glob.keeps I.bk) hcode (TB.code.keeps I.bk) hP' ht hca TB.gP bP fun c' ctv h' tt hx hge hlt hrec htb => ?_
    obtain ⟨c3, oc, us, tk1, e2, hoc, hd, hv⟩ := hrec
    cases e2
    have nC : H c' = none := (I.hok).fresh hge
    have hne : (G.tab tk) ≠ c' := ne_of_none hP nC
    have hsz : s.heap.objs.size ≤ h'.objs.size := by omega
    have I1 := inv_table (q := (G.tq tk)) (t' := tt) (more := #[rawInt pos.line, rawInt pos.col, .ref c']) (h' := h'.push (PySem.W.kla_obj "<lambda>" (X.env.qual ++ "<lambda>") params body scope (cloFrom X.env.cells scope.names []) ((X.mg "__name__").getD .none) c' ctv)) I hP
      (fun b o hb e => Heap.get?_push_of_some _ (hx b o hb e)) (Heap.get?_push_of_some _ htb) hge ⟨oc, us, tk1, Heap.get?_push_of_some _ hoc, hd, by rw [← hq]; exact hv⟩
    obtain ⟨x1, s1⟩ := Ext.frz sr (p := c') (o := CodeO c' (G.tq tk)) nC
    have eL : (ps ++ #[rawInt pos.line, rawInt pos.col, Value.ref c']).toList = ps.toList ++ [rawInt pos.line, rawInt pos.col, Value.ref c'] := by simp
    have cellT : CellAt G (W.frz c' (CodeO c' (G.tq tk))) (upd (upd H c' (CodeO c' (G.tq tk))) (G.tab tk) (.tbl (ps ++ #[rawInt pos.line, rawInt pos.col, .ref c']))) (G.tab tk) (.tab tk) := by
      refine ⟨rfl, _, upd_same, by rw [eL]; exact PySem.TriplesOk_snoc _ _ _ _ ht, fun p' cv hcv => ?_⟩
      rw [eL] at hcv
      rcases (among_app _ ht hcv) with z | z
      · obtain ⟨c0, z1, z2⟩ := ha p' cv z
        exact ⟨c0, z1, x1.le.F _ _ z2⟩
      · exact ⟨c', z, frz_same⟩
    obtain ⟨s2, x2⟩ := s1.write hja cellT
    rw [set_at hj] at s2
    rw [upd_swap (Ne.symm hne)] at s2 x2
    refine h h'.objs.size c' _ ctv _ _ _ I1 (x1.trans x2) s2 (Heap.get?_push_size _ rfl) ?_ (fresh _ hsz) frz_same
    rw [upd_ne (Nat.ne_of_gt hlt), upd_ne (Nat.ne_of_gt (Nat.lt_of_lt_of_le (Heap.lt_size hP') hsz))]
    exact I.hok.fresh hsz
end
/-! ### a def run from one state -/
theorem run_at {P : Program} {w : World} {K : PySem.W.Frag} {mg : Str → Option Value} {base : Heap} {x qual : Str} {st : Stmt} {g : Addr} {fd : FuncData} {N ps : List Str} {k : Nat} (F : Fun K x qual st g fd) (Sc : FnScope N ps (defScope st))
    {A : Around} {outer : List Env} {s : Shared} {H : Hp} {args : Args} {us : List Value} {vs : List V} {Q : VK} {E : XK} (hr : RoomG (k + 1) A) (e0 : Env0 P w K mg base A outer s H) (hbind : BindsTo s fd args (ps.zip us)) (r : Vals vs us) (hl : vs.length = ps.length)
    (hb : ∀ cdv : Value, RoomG k (A.deeper (envOfC qual (defScope st) s.heap.objs.size g cdv)) → ∃ t, PSs (cxOf (L2.CX P w) P w K mg base N qual (defScope st) g cdv A outer s H E) (defBody st) t ∧ t { nx := fun _ H' => Q .non H', rt := Q } (L2.start N vs) H) :
    codeAny (model P w) A (.call (.ref g) args) (CR (L2.CX P w) outer P w H s Q E) s := by
  obtain ⟨oc, od, kV, doc, pm, an, cdv, ct, osl, e, lk, hcd⟩ := F.ex
  subst e
  have inK : K.In s.heap := e0.mod.kin.keeps fun b o z => (e0.bs b o z).1
  refine codeAny_call_function hr.rm.depth (inK _ _ lk) rfl Sc.co Sc.gen rfl (PySem.W.codeRec_of inK hcd) (hbind _ _ _ _ (wpAny_newFunctionEnv_cells Sc.kind (fun y hy => ?_) fun env he s1 new => ?_))
  · rcases Sc.par y.1 (List.of_mem_zip hy).1 with q | q
    · exact .inl q
    · exact Or.inr ⟨q, PySem.W.cellsFrom_some _ _ _ (Or.inl q)⟩
  · subst he
    obtain ⟨t, ht, hq⟩ := hb cdv (hr.into _)
    refine ⟨(e0.mod.nolimit.keeps fun b o z => (e0.bs b o z).1).keeps new.toInCall.keep, codeAny_func (wpAny_mono (ht.run [] s1 (L2.start N vs) H _ (inv_start Sc hr.rm.hd e0 hl r new) hq) (fun fl s2 hs => ?_) fun e s2 z => z)⟩
    obtain ⟨u, hu, c⟩ := back_of hs
    rcases hu with rfl | ⟨rfl, rfl⟩ <;> exact c
/-! ### lambdas with parameters -/
/-- the names of a lambda: its parameters lps, captured ones, globals -/
structure LamP (sc scope : Scope) (lps : List Str) : Prop where
  kind : scope.kind = .function
  co : (scope.isCoroutine) = false
  gen : (scope.isGenerator) = false
  nc : ∀ y ∈ scope.names, y.2 ≠ .cell
  own : ∀ y ∈ scope.names, y.2 = .local → y.1 ∈ lps
  par : ∀ y ∈ lps, scope.names.lookup y = some .local
  fr : ∀ y ∈ scope.names, y.2 = .free → sc.names.lookup y.1 = some .cell ∨ sc.names.lookup y.1 = some .free
def lamPB (sc scope : Scope) (lps : List Str) : Bool :=
  decide (scope.kind = .function) && !scope.isCoroutine && !scope.isGenerator && (scope.names.all fun y => !decide (y.2 = .cell) && (!decide (y.2 = .local) || lps.contains y.1) && (!decide (y.2 = .free) || decide (sc.names.lookup y.1 = some .cell) || decide (sc.names.lookup y.1 = some .free))) &&
    lps.all fun y => decide (scope.names.lookup y = some .local)
theorem lamP_by {sc scope : Scope} {lps : List Str} (h : lamPB sc scope lps = true) : LamP sc scope lps := by
  unfold lamPB at h
  simp only [Bool.and_eq_true, Bool.or_eq_true, Bool.not_eq_true', decide_eq_true_eq, decide_eq_false_iff_not, List.all_eq_true, List.contains_iff_mem] at h
  obtain ⟨⟨⟨⟨h1, h2⟩, h3⟩, h4⟩, h5⟩ := h
  refine ⟨h1, h2, h3, fun y hy => (h4 y hy).1.1, fun y hy e => ?_, h5, fun y hy e => ?_⟩
  · rcases (h4 y hy).1.2 with z | z
    · exact absurd e z
    · exact z
  · rcases (h4 y hy).2 with (z | z) | z
    · exact absurd e z
    · exact .inl z
    · exact .inr z
theorem LamP.has {X : Cx} {scope : Scope} {lps : List Str} (L : LamP X.env.scope scope lps) (ok : X.Ok) : ∀ y ∈ scope.names, y.2 = .free → ∃ c, X.env.cells.lookup y.1 = some c := fun y hy e => by
  rcases L.fr y hy e with k | k
  · exact ok.has _ (.inl k)
  · exact ok.has _ (.inr k)
/-- slots set one by one -/
def setV (σ : L2.St) : List Nat → List V → L2.St
  | i :: is, v :: vs => setV (σ.set i (some v)) is vs
  | _, _ => σ
theorem setV_len : ∀ (is : List Nat) (vs : List V) (σ : L2.St), (setV σ is vs).length = σ.length
  | [], vs, σ => by cases vs <;> rfl
  | i :: is, [], σ => rfl
  | i :: is, v :: vs, σ => by rw [setV, setV_len is vs, List.length_set]
theorem setV_ne : ∀ (is : List Nat) (vs : List V) (σ : L2.St) {k : Nat}, k ∉ is → (setV σ is vs)[k]? = σ[k]?
  | [], vs, σ, k, _ => by cases vs <;> rfl
  | i :: is, [], σ, k, _ => rfl
  | i :: is, v :: vs, σ, k, h => by
    rw [setV, setV_ne is vs _ (fun m => h (List.mem_cons_of_mem _ m)), List.getElem?_set_ne fun e => h (by simp [e])]
theorem repE_setV {G : Gc} {W : Wd} : ∀ {is : List Nat} {vs : List V} {ds : List Da} {σ : L2.St} {ρ : En}, RepE G W σ ρ → Reps G W ds vs → RepE G W (NL.setV σ is vs) (setAll ρ (is.zip ds))
  | [], vs, ds, σ, ρ, h, r => by cases vs <;> exact h
  | i :: is, vs, [], σ, ρ, h, r => by rw [r.inv_nil]; exact h
  | i :: is, vs, d :: ds, σ, ρ, h, r => by
    obtain ⟨v, t, rfl, h2, h3⟩ := r.inv_cons
    show RepE G W (NL.setV (σ.set i (some v)) is t) (setAll (ρ.set i (some d)) (is.zip ds))
    exact repE_setV (h.set h2) h3
/-- a parameter's slot holds what is bound to it -/
theorem setV_at {N : List Str} (hN : N.Nodup) : ∀ {is : List Nat} {lps : List Str} {vs : List V} {us : List Value} {σ : L2.St}, σ.length = N.length → is.length = lps.length → us.length = lps.length → Vals vs us → lps.Nodup → (∀ j : Nat, j < lps.length → ∀ i, is[j]? = some i → N[i]? = lps[j]?) →
    ∀ (i : Nat) (y : Str) (v : V), N[i]? = some y → (NL.setV σ is vs)[i]? = some (some v) → y ∈ lps → ∃ u, (lps.zip us).lookup y = some u ∧ RelV v u
  | [], lps, vs, us, σ, hσ, hl, hu, r, nd, hi, i, y, v, hy, hv, hm => by
    have e : lps = [] := List.length_eq_zero_iff.mp (by simpa using hl.symm)
    rw [e] at hm; cases hm
  | j :: is, [], vs, us, σ, hσ, hl, hu, r, nd, hi, i, y, v, hy, hv, hm => by cases hm
  | j :: is, x :: lps, vs, us, σ, hσ, hl, hu, r, nd, hi, i, y, v, hy, hv, hm => by
    cases r with
    | nil => simp at hu
    | @cons v0 u0 vs us r0 rs =>
      have hx : N[j]? = some x := hi 0 (by simp) j rfl
      have hj : j < σ.length := by rw [hσ]; exact (List.getElem?_eq_some_iff.mp hx).1
      rw [List.nodup_cons] at nd
      rw [List.zip_cons_cons, List.lookup_cons]
      by_cases e : y = x
      · subst e
        have eij : i = j := nd_ix hN hy hx
        subst eij
        rw [beq_self_eq_true]
        have ni : i ∉ is := fun m => by
          obtain ⟨k, hk, ek⟩ := List.mem_iff_getElem.mp m
          have hk2 : k < lps.length := by simp at hl; omega
          have z := hi (k + 1) (by simpa using hk2) i (by simp [hk, ek])
          rw [hy] at z
          have z2 : lps[k]? = some y := by simpa using z.symm
          exact nd.1 (List.mem_of_getElem? z2)
        rw [NL.setV, setV_ne _ _ _ ni, List.getElem?_set_self hj] at hv
        cases hv
        exact ⟨u0, rfl, r0⟩
      · have eb : (y == x) = false := by simpa using e
        rw [eb]
        rw [NL.setV] at hv
        exact setV_at hN (by rw [List.length_set]; exact hσ) (by simpa using hl) (by simpa using hu) rs nd.2 (fun k hk i hi2 => by simpa using hi (k + 1) (by simpa using hk) i (by simpa using hi2)) i y v hy hv ((List.mem_cons.mp hm).resolve_left e)
section
variable {X : Cx} {G : Gc} {pins : List (Addr × Obj)} {σ : L2.St} {H HZ : Hp} {s s1 : Shared}
theorem lam_in {A : Around} {outer : List Env} {E : XK} {scope : Scope} {f c' : Addr} {h1 : Heap} {tk : Nat} {lps : List Str} {is : List Nat} {vs : List V} {us : List Value} (I : Inv X pins σ H s) (L : LamP X.env.scope scope lps) (en0 : Env0 X.prog X.w X.K X.mg X.base A outer s1 HZ) (hd : A.handled = none)
    (un : Un (frs X.stack) [] H HZ s.heap s1.heap) (hns : h1.Ns s1.heap.objs.size fun y => (lps.zip us).reverse.lookup y) (kp : ∀ b o, s1.heap.get? b = some o → h1.get? b = some o)
    (hXN : X.N.Nodup) (hil : is.length = lps.length) (hul : us.length = lps.length) (rv : Vals vs us) (nd : lps.Nodup) (hi : ∀ j : Nat, j < lps.length → ∀ i, is[j]? = some i → X.N[i]? = lps[j]?) :
    Inv (lamCx X A outer s1 HZ E scope f c') [] (setV σ is vs) HZ { s1 with heap := h1, toks := tk } := by
  have frv := L.has I.ok
  have rlk : ∀ y u, (lps.zip us).lookup y = some u → (lps.zip us).reverse.lookup y = some u := fun y u e => (PySem.lookup_reverse_of_nodup (lps.zip us) (by rw [List.map_fst_zip (Nat.le_of_eq hul.symm)]; exact nd) y).trans e
  have inC : ∀ {y c}, (cloFrom X.env.cells scope.names []).lookup y = some c → X.env.cells.lookup y = some c := fun {y c} e => by
    rcases cloFrom_mem (PySem.mem_of_lookup e) with hm | ⟨h3, h4⟩
    · cases hm
    · obtain ⟨c5, hc⟩ := frv _ h3 rfl
      have hc : X.env.cells.lookup y = some c5 := hc
      have e2 : c = c5 := h4.trans (by rw [hc]; rfl)
      rw [e2]; exact hc
  have seen : ∀ {y}, scope.names.lookup y = some .free → ∃ c, (cloFrom X.env.cells scope.names []).lookup y = some c := fun {y} hl => mem_lookup (cloFrom_has (cells := X.env.cells) (acc := []) (PySem.mem_of_lookup hl))
  have cellS : ∀ {c : Addr} {v : Option Value}, H c = none → s.heap.IsCell c v → h1.IsCell c v := fun {c v} n ⟨o, ho, hd⟩ => let ⟨sl, q⟩ := un.any ho n (by simp); ⟨_, kp _ _ q, hd⟩
  have noX : ∀ b : Addr, b ∉ (lamCx X A outer s1 HZ E scope f c').ex := fun b z => absurd (show b ∈ ([] : List Addr) from z) (by simp)
  refine ⟨⟨en0.mod, L.kind, rfl, rfl, Nat.le_refl _, fun y z c e1 e2 => I.ok.inj y z c (inC e1) (inC e2), fun y hy => ?_, fun y c z _ => ?_, fun _ => hd, Around.frames_deeper en0.frames, .inr ⟨rfl, rfl⟩, fun b z => absurd z (noX b), en0.bs, en0.bsz, fun b _ _ => noX b,
      fun b z => absurd z (noX b), en0.funs, en0.frf⟩,
    rfl, en0.bare, Un.kept kp, ⟨_, hns, fun i y v e1 e2 e3 => ?_⟩, fun y c e => ?_, en0.hok.fresh (Nat.le_refl _), fun y c e => ?_, fun q hq => absurd (show q ∈ ([] : List (Addr × Obj)) ++ [] from hq) (by simp), en0.hok.kept kp, by rw [setV_len]; exact I.len⟩
  · rcases (show scope.names.lookup y = some .cell ∨ scope.names.lookup y = some .free from hy) with hy | hy
    · exact absurd rfl (L.nc _ (PySem.mem_of_lookup hy))
    · exact seen hy
  · have z : false = true := z
    cases z
  · have e1 : X.N[i]? = some y := e1
    have e3 : Vis scope y := e3
    rcases e3 with k | k | k
    · obtain ⟨u, hu, ru⟩ := setV_at hXN I.len hil hul rv nd hi i y v e1 e2 (L.own _ (PySem.mem_of_lookup k) rfl)
      exact ⟨u, ru, .inl ⟨k, rlk y u hu⟩⟩
    · exact absurd rfl (L.nc _ (PySem.mem_of_lookup k))
    · obtain ⟨m, hn, hl⟩ := I.loc
      have nip : i ∉ is := fun mm => by
        obtain ⟨j, hj, ej⟩ := List.mem_iff_getElem.mp mm
        have hj2 : j < lps.length := by omega
        have z := hi j hj2 i (by simp [hj, ej])
        rw [e1] at z
        have par := L.par y (List.mem_of_getElem? z.symm)
        rw [k] at par; cases par
      rw [setV_ne is vs σ nip] at e2
      have vis : Vis X.env.scope y := (L.fr _ (PySem.mem_of_lookup k) rfl).elim (fun k => .inr (.inl k)) (fun k => .inr (.inr k))
      obtain ⟨wv, r, q⟩ := hl i y v e1 e2 vis
      obtain ⟨c2, h2⟩ := seen k
      refine ⟨wv, r, .inr ⟨.inr k, c2, h2, ?_⟩⟩
      have c1 := inC h2
      rcases q with ⟨kw, _⟩ | ⟨_, c3, e', z⟩
      · have kw : X.env.scope.names.lookup y = some .local := kw
        rcases L.fr _ (PySem.mem_of_lookup k) rfl with k2 | k2 <;> rw [show X.env.scope.names.lookup y = _ from k2] at kw <;> cases kw
      · rw [c1] at e'; cases e'
        exact cellS (I.freeC y _ c1) z
  · obtain ⟨wv, z⟩ := I.cell y c (inC e)
    exact ⟨wv, cellS (I.freeC y c (inC e)) z⟩
  · obtain ⟨vc, oc, hoc, hdc⟩ := I.cell y c (inC e)
    exact un.free c oc hoc (I.freeC y c (inC e)) (by simp)
end
/-! ### the same data at another base world -/
mutual
theorem Rep.same {G G' : Gc} {W : Wd} (hK : G'.K = G.K) (hx : G'.xf = G.xf) (ht : G'.tq = G.tq) : ∀ {d : Da} {v : V}, Rep G W d v → Rep G' W d v
  | .non, _, h => by simpa [Rep] using h
  | .bl _, _, h => by simpa [Rep] using h
  | .int _, _, h => by simpa [Rep] using h
  | .str _, _, h => by simpa [Rep] using h
  | .tup l, v, h => by
    rw [Rep] at h ⊢
    obtain ⟨a, vs, h1, h2, h3⟩ := h
    exact ⟨a, vs, h1, by rw [hK]; exact h2, Reps.same hK hx ht h3⟩
  | .lst l, v, h => by
    rw [Rep] at h ⊢
    obtain ⟨a, vs, h1, h2, h3⟩ := h
    exact ⟨a, vs, h1, h2, Reps.same hK hx ht h3⟩
  | .cell j, v, h => by
    rw [Rep] at h ⊢
    exact h
  | .exc a dx c d, v, h => by
    rw [Rep] at h ⊢
    obtain ⟨h1, u, h2, h3⟩ := h
    exact ⟨h1, u, by unfold XDict at h2 ⊢; rw [hx]; exact h2, Rep.same hK hx ht h3⟩
  | .src l, v, h => by
    rw [Rep] at h ⊢
    obtain ⟨a, vs, h1, h2, h3⟩ := h
    exact ⟨a, vs, h1, by rw [hK]; exact h2, Reps.same hK hx ht h3⟩
  | .fn k f c, v, h => by
    rw [Rep] at h ⊢
    rw [ht]
    exact h
theorem Reps.same {G G' : Gc} {W : Wd} (hK : G'.K = G.K) (hx : G'.xf = G.xf) (ht : G'.tq = G.tq) : ∀ {l : List Da} {vs : List V}, Reps G W l vs → Reps G' W l vs
  | [], _, h => by simpa [Reps] using h
  | d :: ds, vs, h => by
    rw [Reps] at h ⊢
    obtain ⟨v, r, h1, h2, h3⟩ := h
    exact ⟨v, r, h1, Rep.same hK hx ht h2, Reps.same hK hx ht h3⟩
end
/-- G with the base world B -/
def Gc.at (G : Gc) (B : Wd) : Gc := { G with W0 := B }
section
variable {G : Gc} {B W : Wd} {H : Hp} {S : Store}
theorem RepF.same {G G' : Gc} (hK : G'.K = G.K) (hx : G'.xf = G.xf) (ht : G'.tq = G.tq) {fs : List (Str × Da)} {vs : List (Str × V)} (h : RepF G W fs vs) : RepF G' W fs vs := by
  induction h with
  | nil => exact .nil
  | cons h _ ih => exact .cons (h.same hK hx ht) ih
theorem RepN.same {G G' : Gc} (hK : G'.K = G.K) (hx : G'.xf = G.xf) (ht : G'.tq = G.tq) {l : List (Da × Da)} {xs : List (NestedKey × Addr × V)} (h : RepN G W l xs) : RepN G' W l xs := by
  induction h with
  | nil => exact .nil
  | cons hk hd rk rd _ ih => exact .cons hk hd (rk.same hK hx ht) (rd.same hK hx ht) ih
theorem RepK.same {G G' : Gc} (hK : G'.K = G.K) (hx : G'.xf = G.xf) (ht : G'.tq = G.tq) {l : List (Key × Da)} {xs : List (Key × V)} (h : RepK G W l xs) : RepK G' W l xs := by
  induction h with
  | nil => exact .nil
  | cons rd _ ih => exact .cons (rd.same hK hx ht) ih
theorem SR.to {G G' : Gc} (hw : G'.w = G.w) (hK : G'.K = G.K) (hx : G'.xf = G.xf) (ht : G'.tq = G.tq) (hc : G'.cls = G.cls) (hb : G'.tab = G.tab) (s : SR G W H S) (g : G'.W0.le W) : SR G' W H S :=
  ⟨s.sub, s.nd, s.len, fun j c h => by
    obtain ⟨a, ha, q⟩ := s.cell j c h
    refine ⟨a, ha, ?_⟩
    cases c with
    | lst l => obtain ⟨vs, h1, h2⟩ := q; exact ⟨vs, h1, h2.same hK hx ht⟩
    | obj c fs => obtain ⟨dx, vs, h1, h2⟩ := q; exact ⟨dx, vs, by rw [hc]; exact h1, h2.same hK hx ht⟩
    | tab k => obtain ⟨h1, ps, h2, h3, h4⟩ := q; exact ⟨h1.trans (by rw [hb]), ps, h2, h3, by rw [ht]; exact h4⟩
    | dK l => obtain ⟨kvs, h1, h2⟩ := q; exact ⟨kvs, h1, h2.same hK hx ht⟩
    | dN l => obtain ⟨xs, h1, h2⟩ := q; exact ⟨xs, by rw [hw]; exact h1, h2.same hK hx ht⟩, s.out, g⟩
theorem Rep.up {d : Da} {v : V} (h : Rep G W d v) : Rep (G.at B) W d v := Rep.same (G := G) (G' := G.at B) rfl rfl rfl h
theorem Rep.down {d : Da} {v : V} (h : Rep (G.at B) W d v) : Rep G W d v := Rep.same (G := G.at B) (G' := G) rfl rfl rfl h
theorem Reps.up {d : List Da} {v : List V} (h : Reps G W d v) : Reps (G.at B) W d v := Reps.same (G := G) (G' := G.at B) rfl rfl rfl h
theorem reps_down {d : List Da} {v : List V} (h : Reps (G.at B) W d v) : Reps G W d v := Reps.same (G := G.at B) (G' := G) rfl rfl rfl h
theorem SR.up (s : SR G W H S) (g : B.le W) : SR (G.at B) W H S := SR.to (G := G) (G' := G.at B) rfl rfl rfl rfl rfl rfl s g
theorem SR.down (s : SR (G.at B) W H S) (g : G.W0.le W) : SR G W H S := SR.to (G := G.at B) (G' := G) rfl rfl rfl rfl rfl rfl s g
theorem RepE.up {σ : L2.St} {ρ : En} (h : RepE G W σ ρ) : RepE (G.at B) W σ ρ := ⟨h.len, fun i d q => let ⟨v, a, b⟩ := h.at' i d q; ⟨v, a, b.up⟩⟩
theorem RepE.down {σ : L2.St} {ρ : En} (h : RepE (G.at B) W σ ρ) : RepE G W σ ρ := ⟨h.len, fun i d q => let ⟨v, a, b⟩ := h.at' i d q; ⟨v, a, b.down⟩⟩
/-- what is wished for at G is wished for at G with a base world, and back -/
theorem Aft.up {Wx : WX} {σ : L2.St} {r : Res Da} {Q : VK} (g : G.W0.le W) (h : Aft (RV G) G Wx σ W H r Q) : Aft (RV (G.at B)) (G.at B) Wx σ W H r Q := by
  cases r with
  | ok a S1 => exact fun b W' H' x s r => h b W' H' x (s.down (g.trans x.le)) r.down
  | exc c d S1 => exact fun cls dx W' H' x s ⟨e, u, h1, h2⟩ => h cls dx W' H' x (s.down (g.trans x.le)) ⟨e, u, h1, h2.down⟩
  | bad => exact h
theorem Aft.down {Wx : WX} {σ : L2.St} {r : Res Da} {Q : VK} (g : B.le W) (h : Aft (RV (G.at B)) (G.at B) Wx σ W H r Q) : Aft (RV G) G Wx σ W H r Q := by
  cases r with
  | ok a S1 => exact fun b W' H' x s r => h b W' H' x (s.up (g.trans x.le)) r.up
  | exc c d S1 => exact fun cls dx W' H' x s ⟨e, u, h1, h2⟩ => h cls dx W' H' x (s.up (g.trans x.le)) ⟨e, u, h1, h2.up⟩
  | bad => exact h
end
/-- arguments, the last one a lambda -/
def SpL (X : Cx) (G : Gc) (Wx : WX) (es : List Expr) (lam : Expr) (t : M (List Da)) : Prop :=
  ∀ (pos : Pos) (pins : List (Addr × Obj)) (s : Shared) (σ : L2.St) (H : Hp) (R : List Value → Shared → Prop) (Q : List V → Hp → Prop), Inv X pins σ H s → tMs G Wx t σ H Q →
    (∀ us vs s1 H1, Inv X pins σ H1 s1 → Vals vs us → Q vs H1 → wpAny (model X.prog X.w) X.A (eval lam X.env) (fun v s2 => R (us ++ [v]) s2) X.xe s1) → wpAny (model X.prog X.w) X.A (spliced (backTo pos (starEach (es ++ [lam]) X.env))) R X.xe s
theorem spl0 {X : Cx} {G : Gc} {Wx : WX} {params : Arguments} {body : Expr} {scope : Scope} {lpos : Pos} : SpL X G Wx [] (.Lambda params body scope lpos) nilM := fun pos pins s σ H R Q I ⟨W, S, ρ, sr, re, q⟩ h => by
  show wpAny _ _ (spliced ((false, eval (Expr.Lambda params body scope lpos) X.env) :: backTo pos (starEach [] X.env))) _ _ s
  exact Calls.spliced_cons (wpAny_mono (h [] [] s H I .nil (q.here sr .nil)) (fun v s2 q => Calls.spliced_nil q) fun _ _ z => z)
theorem spl1 {X : Cx} {G : Gc} {Wx : WX} {params : Arguments} {body e : Expr} {scope : Scope} {lpos : Pos} {f : M Da} (he : PE X e (tM G Wx f)) (hs : starEach [e, .Lambda params body scope lpos] X.env = (false, eval e X.env) :: starEach [.Lambda params body scope lpos] X.env := by rfl) :
    SpL X G Wx [e] (.Lambda params body scope lpos) (consM f nilM) := fun pos pins s σ H R Q I ⟨W, S, ρ, sr, re, q⟩ h => by
  show wpAny _ _ (spliced (backTo pos (starEach [e, .Lambda params body scope lpos] X.env))) _ _ s
  rw [hs]
  show wpAny _ _ (spliced ((false, eval e X.env) :: (false, eval (.Lambda params body scope lpos) X.env) :: backTo pos (starEach [] X.env))) _ _ s
  refine Calls.spliced_cons (thn (he.run pins s σ H _ I ⟨W, S, ρ, sr, re, q.bind (Q' := fun v H1 => Q [v] H1) fun a S1 v W1 H1 x1 s1 q1 k1 => ?_⟩) fun u s1 ⟨v, H1, I1, r1, q1⟩ => ?_)
  · exact Aft.here (R := RVs G) k1 s1 (.cons q1 .nil)
  · exact Calls.spliced_cons (wpAny_mono (h [u] [v] s1 H1 I1 (.cons r1 .nil) q1) (fun v s2 q => Calls.spliced_nil q) fun _ _ z => z)
/-! ### f(.., lambda ps: e) as data -/
/-- the call of what stands in the slot i: k, where it is the lambda at f with the code c, of n parameters -/
def actN (i tk : Nat) (f c : Addr) (n : Nat) (k : Mf) (t : M (List Da)) : M Da := fun ρ S => match ρ[i]? with
  | some (some (.fn tk' f' c')) => if tk' = tk ∧ f' = f ∧ c' = c then (t ρ S).bind fun ds S1 => if ds.length = n then k ds S1 else .bad else .bad
  | _ => .bad
/-- the lambda as a function of data -/
def lamK (is : List Nat) (m : M Da) (ρ : En) : Mf := fun ds S => m (setAll ρ (is.zip ds)) S
def lamF (mk : Addr → Addr → Mf → Mf) (tk n : Nat) (is : List Nat) (t : M (List Da)) (m : M Da) : M Da := fun ρ S => (t ρ S).bind fun ds S1 => match S1[tk]? with
  | some (.tab j) => if j = tk ∧ ds.length = n then mk 0 0 (lamK is m ρ) (ds ++ [.fn tk 0 0]) S1 else .bad
  | _ => .bad
section
variable {X : Cx} {G : Gc} {pins : List (Addr × Obj)} {σ : L2.St} {H : Hp} {s : Shared}
theorem act_run {Ng : List Str} {qg : Str} {sg : Scope} {g f c' : Addr} {cdg pm ctv : Value} {params : Arguments} {body : Expr} {scope : Scope} {k i : Nat} {a : Str} {pn : List (Addr × Obj)} {xe : Value → Shared → Prop} {W : WX} {E Eg : XK} {tb : TE} {p1 p2 : Pos} {lps : List Str} {is : List Nat} {es : List Expr} {t : TA}
    (I : Inv X pins σ H s) (L : LamP X.env.scope scope lps) (hf : s.heap.get? f = some (PySem.W.kla_obj "<lambda>" (X.env.qual ++ "<lambda>") params body scope (cloFrom X.env.cells scope.names []) pm c' ctv)) (hfn : H f = none) (hfr : f ∉ frs X.stack)
    (hbind : ∀ us : List Value, us.length = lps.length → bindArgs (PySem.W.kla_fn "<lambda>" (X.env.qual ++ "<lambda>") params body scope (cloFrom X.env.cells scope.names []) pm (.ref c') ctv) ⟨us, []⟩ = pure (lps.zip us))
    (hXN : X.N.Nodup) (hil : is.length = lps.length) (nd : lps.Nodup) (hi : ∀ j : Nat, j < lps.length → ∀ i, is[j]? = some i → X.N[i]? = lps[j]?)
    {τ : L2.St} (hx : PassesAt (L2.CX X.prog X.w) ((cxOf (L2.CX X.prog X.w) X.prog X.w X.K X.mg X.base Ng qg sg g cdg X.A X.stack s H Eg).tr pn xe) τ E) (hr : RoomG (k + 1) (X.A.deeper (envOfC qg sg s.heap.objs.size g cdg)))
    (hbody : ∀ (A : Around) (outer : List Env) (s : Shared) (H : Hp), RoomG k (A.deeper (lamEnv X scope s.heap.objs.size f c')) → PE (lamCx X A outer s H E scope f c') body tb)
    (hN : Ng[i]? = some a) (hv : Vis sg a) (hd : (a == ("__debug__" : Str)) = false) (hcd : (a == ("__classdict__" : Str)) = false)
    (ha : PA ((cxOf (L2.CX X.prog X.w) X.prog X.w X.K X.mg X.base Ng qg sg g cdg X.A X.stack s H Eg).tr pn xe) es t)
    (hes : (es = [] ∧ ∀ τ HZ Q, t τ HZ Q → Q [] HZ) ∨ ∃ e r, es = e :: r ∧ Arg1 ((cxOf (L2.CX X.prog X.w) X.prog X.w X.K X.mg X.base Ng qg sg g cdg X.A X.stack s H Eg).tr pn xe) e r ∧ NoSt ((cxOf (L2.CX X.prog X.w) X.prog X.w X.K X.mg X.base Ng qg sg g cdg X.A X.stack s H Eg).tr pn xe) p2 r) :
    ∀ (pz : List (Addr × Obj)) (sz : Shared) (HZ : Hp) (Q : VK), Inv ((cxOf (L2.CX X.prog X.w) X.prog X.w X.K X.mg X.base Ng qg sg g cdg X.A X.stack s H Eg).tr pn xe) pz τ HZ sz → τ[i]? = some (some (.ref f)) →
      t τ HZ (fun vs H2 => vs.length = lps.length ∧ H2 c' = some (CodeO c' (X.env.qual ++ "<lambda>")) ∧ tb (setV σ is vs) H2 Q) →
      wpAny (model X.prog X.w) ((cxOf (L2.CX X.prog X.w) X.prog X.w X.K X.mg X.base Ng qg sg g cdg X.A X.stack s H Eg).tr pn xe).A (eval (.Call (.Name a p1) es [] p2) ((cxOf (L2.CX X.prog X.w) X.prog X.w X.K X.mg X.base Ng qg sg g cdg X.A X.stack s H Eg).tr pn xe).env)
        (EP ((cxOf (L2.CX X.prog X.w) X.prog X.w X.K X.mg X.base Ng qg sg g cdg X.A X.stack s H Eg).tr pn xe) pz τ Q) ((cxOf (L2.CX X.prog X.w) X.prog X.w X.K X.mg X.base Ng qg sg g cdg X.A X.stack s H Eg).tr pn xe).xe sz := by
  intro pz sz HZ Q IZ hs ht
  refine wpAny_Call_Name_kw (thn ((pe_var (pos := p1) (i := i) hN hv hd hcd).run pz sz τ HZ (fun v H1 => v = .ref f ∧ H1 = HZ) IZ ⟨.ref f, hs, rfl, rfl⟩) fun u s1 ⟨v, H1, I1, r1, ev, eH⟩ => ?_)
  subst ev eH
  obtain rfl : u = (Value.ref f) := r1
  have fnA : ∀ {s2 : Shared} {H2 : Hp}, Inv ((cxOf (L2.CX X.prog X.w) X.prog X.w X.K X.mg X.base Ng qg sg g cdg X.A X.stack s H Eg).tr pn xe) pz τ H2 s2 → s2.heap.get? f = some (PySem.W.kla_obj "<lambda>" (X.env.qual ++ "<lambda>") params body scope (cloFrom X.env.cells scope.names []) pm c' ctv) := fun I2 => I2.base.keep f _ hf hfn hfr fun z => nomatch (show f ∈ ([] : List Addr) from z)
  have fin : ∀ (us : List Value) (vs : List V) (s2 : Shared) (H2 : Hp), Inv ((cxOf (L2.CX X.prog X.w) X.prog X.w X.K X.mg X.base Ng qg sg g cdg X.A X.stack s H Eg).tr pn xe) pz τ H2 s2 → Vals vs us → vs.length = lps.length → H2 c' = some (CodeO c' (X.env.qual ++ "<lambda>")) → tb (setV σ is vs) H2 Q →
      wpAny (model X.prog X.w) ((cxOf (L2.CX X.prog X.w) X.prog X.w X.K X.mg X.base Ng qg sg g cdg X.A X.stack s H Eg).tr pn xe).A (call (.ref f) us)
        (EP ((cxOf (L2.CX X.prog X.w) X.prog X.w X.K X.mg X.base Ng qg sg g cdg X.A X.stack s H Eg).tr pn xe) pz τ Q) ((cxOf (L2.CX X.prog X.w) X.prog X.w X.K X.mg X.base Ng qg sg g cdg X.A X.stack s H Eg).tr pn xe).xe s2 := by
    intro us vs s2 H2 I2 rv hl hc ht
    have un : Un (frs X.stack) [] H H2 s.heap s2.heap := I2.base
    have hul : us.length = lps.length := by rw [← rv.length]; exact hl
    obtain ⟨⟨oc, vs', t, hoc, hdc, hvc⟩, _, _⟩ := I2.hok c' _ hc
    have rc : codeAny (model X.prog X.w) (X.A.deeper (envOfC qg sg s.heap.objs.size g cdg)) (.call (.ref f) ⟨us, []⟩) (CR (L2.CX X.prog X.w) (envOfC qg sg s.heap.objs.size g cdg :: X.stack) X.prog X.w H2 s2 Q E) s2 := by
      refine PySem.W.kla_callFunE hr.rm.depth (fnA I2) rfl L.co L.gen rfl ⟨c', oc, vs', t, rfl, hoc, hdc, hvc⟩ ?_
      rw [hbind us hul]
      refine wpAny_pure (wpAny_newFunctionEnv L.nc (fun y hy => L.par y.1 (List.of_mem_zip hy).1) (fun h1 hns hsb => ⟨I2.nolimit.fresh _ hsb, ?_⟩) L.kind)
      have kp : ∀ b o, s2.heap.get? b = some o → h1.get? b = some o := fun b o e => hsb.extBut b o (Nat.ne_of_lt (Heap.lt_size e)) (Heap.get?_push_of_some _ e)
      have J : Inv (lamCx X (X.A.deeper (envOfC qg sg s.heap.objs.size g cdg)) (envOfC qg sg s.heap.objs.size g cdg :: X.stack) s2 H2 E scope f c') [] (setV σ is vs) H2 { s2 with heap := h1, toks := s2.toks + (lps.zip us).length } :=
        lam_in I L I2.env0 hr.rm.hd un hns kp hXN hil hul rv nd hi
      show codeAny _ _ (.expr body (lamEnv X scope s2.heap.objs.size f c')) _ _
      refine PySem.W.kla_codeExpr (wpAny_mono ((hbody _ _ s2 H2 (hr.into _)).run [] _ _ H2 Q J ht) (fun v s3 ⟨y, H3, J3, rv3, q⟩ => ⟨y, H3, J3.os, J3.bare, J3.base, J3.hok, rv3, q⟩) fun e s3 z => z)
    refine wpAny_call (codeAny_mono rc ?_)
    rintro (er | fl) s3 hq
    · exact hx pz H2 s2 er s3 I2 hq
    · cases fl with
      | ret u => exact I2.after hq
      | _ => exact hq.elim
  rcases hes with ⟨rfl, h0⟩ | ⟨e, r, rfl, h1, h2⟩
  · obtain ⟨hl, hc, ht2⟩ := h0 _ _ _ ht
    exact PySem.W.callWith_F0 ⟨_, _, _, _, fnA I1⟩ (fin [] [] s1 H1 I1 .nil hl hc ht2)
  · exact PySem.W.callWith_F ⟨_, _, _, _, fnA I1⟩ (thn (ha.run p2 pz s1 τ H1 _ I1 ht) fun us s2 ⟨vs, H2, I2, rv, hl, hc, ht2⟩ => ⟨⟨_, _, _, _, fnA I2⟩, fin us vs s2 H2 I2 rv hl hc ht2⟩) h1 h2
end
section
variable {X : Cx} {G : Gc} {Wx : WX}
/-- what the def that gets the lambda is shown to do: its body's term, from the call of its parameter -/
def LamDef (P : Program) (w : World) (K : PySem.W.Frag) (mg : Str → Option Value) (base : Heap) (G : Gc) (kg tk : Nat) (g : Addr) (st : Stmt) (Ng : List Str) (qual a : Str) (ai np : Nat) (bk : Addr → Addr → Mf → MS) : Prop :=
  ∀ (f c' : Addr) (B : Wd) (k : Mf) (cdv : Value) (A : Around) (outer : List Env) (s : Shared) (H : Hp) (E : XK), RoomG kg (A.deeper (envOfC qual (defScope st) s.heap.objs.size g cdv)) →
      (∀ (W' : WX) (pn : List (Addr × Obj)) (xe : Value → Shared → Prop) (p1 p2 : Pos) (es : List Expr) (t : M (List Da)), Takes ((cxOf (L2.CX P w) P w K mg base Ng qual (defScope st) g cdv A outer s H E).tr pn xe) W' →
        PA ((cxOf (L2.CX P w) P w K mg base Ng qual (defScope st) g cdv A outer s H E).tr pn xe) es (tMs (G.at B) W' t) →
        ((es = [] ∧ t = nilM) ∨ ∃ e r, es = e :: r ∧ Arg1 ((cxOf (L2.CX P w) P w K mg base Ng qual (defScope st) g cdv A outer s H E).tr pn xe) e r ∧ NoSt ((cxOf (L2.CX P w) P w K mg base Ng qual (defScope st) g cdv A outer s H E).tr pn xe) p2 r) →
        PE ((cxOf (L2.CX P w) P w K mg base Ng qual (defScope st) g cdv A outer s H E).tr pn xe) (.Call (.Name a p1) es [] p2) (tM (G.at B) W' (actN ai tk f c' np k t))) →
      PSs (cxOf (L2.CX P w) P w K mg base Ng qual (defScope st) g cdv A outer s H E) (defBody st) (tS (G.at B) (fun cls dx _ H => E cls dx H) (bk f c' k))
theorem pd_lam {x qual a : Str} {st : Stmt} {g c : Addr} {fd : FuncData} {Ng ps lps : List Str} {kg kb tk ai : Nat} {params : Arguments} {body : Expr} {scope : Scope} {m : M Da} {bk : Addr → Addr → Mf → MS} {p lpos pos : Pos} {is : List Nat} {es : List Expr} {t : M (List Da)} (hg : Gl X x) (hm : X.mg x = some (.ref g)) (hk : PySem.W.keepIn X.K (.ref g) = true)
    (F : Fun X.K x qual st g fd) (hb : L2.Binds X.K fd ps []) (Sc : FnScope Ng ps (defScope st)) (hN : Ng[ai]? = some a) (hps : ps.length = ai + 1) (hva : Vis (defScope st) a) (TB : TabB X.base X.mg c (G.tab tk)) (hcode : X.env.code = .ref c) (hq : X.env.qual ++ "<lambda>" = G.tq tk)
    (L : LamP X.env.scope scope lps) (hdef : defaultsOf params X.env = ([], [])) (hbind : ∀ (q : Str) (cl : List (Str × Addr)) (pm cv ctv : Value) (us : List Value), us.length = lps.length → bindArgs (PySem.W.kla_fn "<lambda>" q params body scope cl pm cv ctv) ⟨us, []⟩ = pure (lps.zip us))
    (hXN : X.N.Nodup) (hil : is.length = lps.length) (nd : lps.Nodup) (hi : ∀ j : Nat, j < lps.length → ∀ i, is[j]? = some i → X.N[i]? = lps[j]?)
    (hr : RoomG (kg + 1) X.A) (hkb : kb + 1 ≤ kg) (tk0 : Takes X Wx)
    (hes : SpL X G Wx es (.Lambda params body scope lpos) t)
    (hargs : ∃ e r, es ++ [.Lambda params body scope lpos] = e :: r ∧ Arg1 X e r ∧ NoSt X pos r)
    (hbody : ∀ (A : Around) (outer : List Env) (s : Shared) (H : Hp) (E : XK) (f c' : Addr), RoomG kb (A.deeper (lamEnv X scope s.heap.objs.size f c')) → PE (lamCx X A outer s H E scope f c') body (tM G (fun cls d _ H => E cls d H) m))
    (hdefn : LamDef X.prog X.w X.K X.mg X.base G kg tk g st Ng qual a ai lps.length bk)
    (hind : ∀ (f c' : Addr) (k : Mf) (ds : List Da) (S : Store), ds.length = ai → defM Ng.length (bk f c' k) (ds ++ [.fn tk f c']) S = defM Ng.length (bk 0 0 k) (ds ++ [.fn tk 0 0]) S)
    (hdb : (x == ("__debug__" : Str)) = false := by decide) (hd : (a == ("__debug__" : Str)) = false) (hcd : (a == ("__classdict__" : Str)) = false) :
    PE X (.Call (.Name x p) (es ++ [.Lambda params body scope lpos]) [] pos) (tM G Wx (lamF (fun f c' k => defM Ng.length (bk f c' k)) tk ai is t m)) := by
  refine ⟨fun pins s σ H Q I ⟨W, S, ρ, sr, re, q⟩ => ?_⟩
  unfold lamF at q
  obtain ⟨e0, r0, ees, ha1, hns⟩ := hargs
  refine (wpAny_Call_Name_kw (ld_glob I hg hm ?_ hdb))
  rw [ees]
  refine PySem.W.callWith_K (h₀ := X.base) I.ok.mod.kin hk ?_ ha1 hns
  rw [← ees]
  refine hes pos pins s σ H _ _ I ⟨W, S, ρ, sr, re, q.bind (Q' := fun vs H1 => ∃ W1 S1 ds, SR G W1 H1 S1 ∧ Ext W H W1 H1 ∧ Reps G W1 ds vs ∧ Aft (RV G) G Wx σ W1 H1 (match S1[tk]? with | some (.tab j) => if j = tk ∧ ds.length = ai then defM Ng.length (bk 0 0 (lamK is m ρ)) (ds ++ [.fn tk 0 0]) S1 else .bad | _ => .bad) Q)
    fun ds S1 vs W1 H1 x1 s1 q1 k1 => ⟨W1, S1, ds, s1, x1, q1, k1⟩⟩ fun us1 vs1 s1 H1 I1 rv1 ⟨W1, S1, ds, sr1, x01, rs1, q1⟩ => ?_
  cases e0 : S1[tk]? with
  | none => rw [e0] at q1; exact q1.elim
  | some c0 =>
    cases c0 with
    | lst l => rw [e0] at q1; exact q1.elim
    | obj cc fs => rw [e0] at q1; exact q1.elim
    | dK l => rw [e0] at q1; exact q1.elim
    | dN l => rw [e0] at q1; exact q1.elim
    | tab j =>
      rw [e0] at q1
      dsimp only at q1
      by_cases hj : j = tk ∧ ds.length = ai
      case neg => rw [if_neg hj] at q1; exact q1.elim
      rw [if_pos hj] at q1
      obtain ⟨hj, hdl⟩ := hj
      subst hj
      refine lam_mk I1 sr1 e0 TB hcode hq hdef (L.has I1.ok) fun f c' pm ctv W2 H2 s2 I2 x2 s2r hf hfn hfr hF => ⟨I2.kIn, ?_⟩
      have q2 := q1.later x2
      have re2 := re.mono (x01.le.trans x2.le)
      have rf : Rep G W2 (.fn j f c') (.ref f) := by rw [Rep]; exact ⟨rfl, hF⟩
      have rs2 := rs1.mono x2.le
      rw [← hind f c' (lamK is m ρ) ds S1 hdl] at q2
      have hvl : vs1.length = ai := by rw [← rs1.length]; exact hdl
      have rvs : Vals (vs1 ++ [V.ref f]) (us1 ++ [Value.ref f]) := rv1.append (.cons rfl .nil)
      have hul : (us1 ++ [Value.ref f]).length = ps.length := by rw [← rvs.length]; simp [hvl, hps]
      have rc : codeAny (model X.prog X.w) X.A (.call (.ref g) ⟨us1 ++ [.ref f], []⟩) (CR (L2.CX X.prog X.w) X.stack X.prog X.w H2 s2 Q (WE Wx σ)) s2 := by
        have hbd := hb s2 (us1 ++ [.ref f]) I2.kIn (by rw [List.append_nil]; exact hul)
        rw [List.append_nil] at hbd
        refine run_at (N := Ng) (ps := ps) (us := us1 ++ [.ref f]) (vs := vs1 ++ [.ref f]) F Sc hr I2.env0 hbd rvs (by simp [hvl, hps]) fun cdv hr2 => ⟨_, hdefn f c' W2 (lamK is m ρ) cdv X.A X.stack s2 H2 (WE Wx σ) hr2 (fun W' pn xe p1 p2 eez tz tk' hez hes2 => ?_), ?_⟩
        · refine ⟨fun pz sz τ HZ QZ IZ ⟨WZ, SZ, ρZ, srz, rez, qz⟩ => ?_⟩
          unfold actN at qz
          cases ez : ρZ[ai]? with
          | none => rw [ez] at qz; exact qz.elim
          | some o =>
            rw [ez] at qz
            cases o with
            | none => exact qz.elim
            | some dz =>
              cases dz with
              | fn k2 f2 c2 =>
                dsimp only at qz
                by_cases hfc : k2 = j ∧ f2 = f ∧ c2 = c'
                · rw [if_pos hfc] at qz
                  obtain ⟨rfl, rfl, rfl⟩ := hfc
                  obtain ⟨v, hv, rv⟩ := rez.at' ai _ ez
                  rw [Rep] at rv
                  obtain ⟨rfl, hF2⟩ := rv
                  refine act_run (τ := τ) (E := WE W' τ) (W := W') (k := kb) (tb := tM G (fun cls d _ H => WE W' τ cls d H) m) I2 L hf hfn hfr (hbind _ _ _ _ _) hXN hil nd hi (passAt tk' τ) (hr2.mono hkb) (fun A outer s H hr3 => hbody A outer s H _ _ _ hr3) hN hva hd hcd hez (hes2.imp (fun h => ⟨h.1, fun τ HZ Q ⟨W, S, ρ, s, r, q⟩ => by rw [h.2] at q; exact q.here s .nil⟩) id) pz sz HZ QZ IZ hv ?_
                  refine ⟨WZ, SZ, ρZ, srz, rez, qz.bind fun dz SZ2 vz WZ2 HZ2 xz2 sz2 rz2 qz2 => ?_⟩
                  by_cases hzl : dz.length = lps.length
                  · rw [if_pos hzl] at qz2
                    have hF3 : WZ2.F c2 = some (CodeO c2 (X.env.qual ++ "<lambda>")) := by rw [hq]; exact xz2.le.F _ _ hF2
                    have le2 := srz.ge.trans xz2.le
                    exact ⟨by rw [← rz2.length]; exact hzl, sz2.sub _ _ hF3, WZ2, SZ2, setAll ρ (is.zip dz), sz2.down (sr.ge.trans (x01.le.trans (x2.le.trans le2))), repE_setV (re2.mono le2) (reps_down rz2), (qz2.down le2).fn⟩
                  · rw [if_neg hzl] at qz2; exact qz2.elim
                · rw [if_neg hfc] at qz; exact qz.elim
              | _ => exact qz.elim
        · have r1 : Reps (G.at W2) W2 (ds ++ [.fn j f c']) (vs1 ++ [.ref f]) := Reps.up (rs2.append (.cons rf .nil))
          exact def_fin (n := ai + 1) ⟨by simp [hvl], W2, S1, ds ++ [.fn j f c'], s2r.up (.refl W2), r1, (q2.up s2r.ge).fn⟩
      refine wpAny_call (codeAny_mono rc ?_)
      rintro (er | fl) s3 hq2
      · exact passAt tk0 σ pins H2 s2 er s3 I2 hq2
      · cases fl with
        | ret u => exact I2.after hq2
        | _ => exact hq2.elim
end
end NL

set_option Elab.async false
set_option linter.all false
set_option autoImplicit false
set_option maxRecDepth 100000
set_option maxHeartbeats 4100000
namespace NL
open PySem PySem.Spec PyProof.Rows
open L2 LamX
/-! ### the law's call with its table of codes -/
section
variable {P : Program} {w : World} {K : PySem.W.Frag} {mg mb : Str → Option Value} {k : Nat} {fa a : Addr} {cs : List (Addr × Addr)} {fd : FuncData} {x : Str} {sp : Sp} {s₁ : Shared} {vs : List Value} {ns : List Int}
/-- the script, and the tables -/
def scriptTab (K : PySem.W.Frag) (a : Addr) (ts : List Addr) (o : Obj) (xs : List V) : Hp := fun b => if b ∈ ts then some (.tbl #[]) else onlyScript K a o xs b
theorem call_lawT (KX : K.In s₁.heap) (hns : s₁.heap.Ns mainGlobals mg) (hb : s₁.heap.Ns builtinsNs mb) (hbb : ∀ x : Str, x ≠ "__name__" → mb x = bootBuiltins x) (hlim : s₁.heap.NoLimit) (hg : s₁.gens = #[])
    (hT : ∀ T ∈ cs.map (·.2), s₁.heap.get? T = some { cls := .none, data := .fields #[] }) (nT : ∀ T ∈ cs.map (·.2), K.lookup T = none) (C : ∀ p ∈ cs, PySem.W.CodeHd s₁.heap p.1 p.2)
    (hbm : ∃ (bm : Addr) (om : Obj), mg "__builtins__" = some (.ref bm) ∧ bm ≠ builtinsNs ∧ s₁.heap.get? bm = some om ∧ om.cls = .type "module" ∧ om.dict = some builtinsNs ∧ om.data = .plain)
    (ha : s₁.heap.get? a = some { cls := .type "list", data := .seq vs.toArray }) (hi : IntsAre vs ns) (hl : ns.length ≤ 63) (hr : RoomG k callerA)
    (F : ∀ base : Heap, K.In base → base.Ns mainGlobals mg → (∀ p ∈ cs, TabB base mg p.1 p.2) → FnG P w K mg base k fa fd [x] sp) (hbind : ∀ (s : Shared) (u : Value), BindsTo s fd ⟨[u], []⟩ [(x, u)])
    (hsp : ∀ H : Hp, (∀ T ∈ cs.map (·.2), H T = some (.tbl #[])) → SqL K H a (ns.map V.int) → sp [.ref a] H (fun v _ => v = .bl true) fun _ _ _ => False) :
    codeAny (model P w) callerA (.call (.ref fa) ⟨[.ref a], []⟩) (fun r s2 => r = .ok (.ret (.bool true)) ∧ OldK s₁.heap s2.heap ∧ s2.os = s₁.os ∧ AllBare s2.gens) s₁ := by
  have rv := vals_ints hi
  have small : ns.length ≤ sizeLine := by rw [sizeLine_eq]; omega
  have aT : a ∉ cs.map (·.2) := by
    intro z
    rw [hT a z] at ha
    have z' : Data.fields #[] = Data.seq vs.toArray _ := congrArg Obj.data (Option.some.inj ha)
    cases z'
  generalize ho : ({ cls := .type "list", data := .seq vs.toArray } : Obj) = o at ha
  generalize hH : scriptTab K a (cs.map (·.2)) o (ns.map V.int) = H
  have atT : ∀ T ∈ cs.map (·.2), H T = some (.tbl #[]) := fun T m => by rw [← hH]; exact if_pos m
  have told : ∀ {b u}, H b = some u → b ∉ cs.map (·.2) → b = a ∧ K.lookup a = none ∧ u = .frz o (.lst (ns.map V.int)) := fun {b u} z n => onlyScript_some (by rw [← hH] at z; exact (if_neg n).symm.trans z)
  have script : SqL K H a (ns.map V.int) := by
    cases e : K.lookup a with
    | none =>
      refine .inl (.inr ⟨o, ?_⟩)
      rw [← hH]
      unfold scriptTab onlyScript
      rw [if_neg aT, if_pos ⟨rfl, by rw [e]; rfl⟩]
    | some ob =>
      have z := (KX a ob e).symm.trans ha
      cases z
      subst ho
      exact .inr ⟨_, vs.toArray, _, e, rfl, rfl, rfl, by rw [List.size_toArray, hi.length]; exact small, by simpa using rv⟩
  have good : HOk P w H s₁.heap := fun b u z => by
    by_cases hbT : b ∈ cs.map (·.2)
    · rw [atT b hbT] at z
      cases z
      exact hT b hbT
    · obtain ⟨rfl, _, rfl⟩ := told z hbT
      subst ho
      exact ⟨ha, by rw [List.length_map]; exact small, vs, _, rv, ha⟩
  have base : ∀ {b : Addr} {ob : Obj}, s₁.heap.get? b = some ob → (b = a → ob = o → K.lookup a ≠ none) → ob.data ≠ .fields #[] → (hidT s₁.heap H).get? b = some ob := fun {b ob} z nz nf => hidT_get z (by
    cases e : H b with
    | none => rfl
    | some u =>
      by_cases hbT : b ∈ cs.map (·.2)
      · rw [hT b hbT] at z
        cases z
        exact absurd rfl nf
      · obtain ⟨rfl, q, _⟩ := told e hbT
        rw [ha] at z
        exact absurd q (nz rfl (Option.some.inj z).symm))
  have space : ∀ {b : Addr} {m : Str → Option Value}, s₁.heap.Ns b m → (hidT s₁.heap H).Ns b m := fun {b m} ⟨ob, es, ep, e, d, r⟩ => ⟨ob, es, ep, base e (fun _ z => by subst z; subst ho; cases d) (fun z => by rw [d] at z; cases z), d, r⟩
  have inK : K.In (hidT s₁.heap H) := fun b ob e => hidT_get (KX b ob e) (by
    cases q : H b with
    | none => rfl
    | some u =>
      by_cases hbT : b ∈ cs.map (·.2)
      · rw [nT b hbT] at e; cases e
      · obtain ⟨rfl, q2, _⟩ := told q hbT
        rw [q2] at e; cases e)
  have TB : ∀ p ∈ cs, TabB (hidT s₁.heap H) mg p.1 p.2 := by
    intro p hp
    have mT : p.2 ∈ cs.map (·.2) := List.mem_map.mpr ⟨p, hp, rfl⟩
    refine ⟨?_, ?_, fun z => ?_⟩
    · obtain ⟨oc, us, file, tf, flags, tg, inF, text, tt, e1, r1, r2, r3, r4, r5, r6, r7, r8, hne⟩ := C p hp
      refine ⟨oc, us, file, tf, flags, tg, inF, text, tt, base e1 (fun _ z => ?_) (fun z => ?_), r1, r2, r3, r4, r5, r6, r7, r8, hne⟩
      · subst z; subst ho; cases r2
      · rw [r2] at z; cases z; simp at r3
    · obtain ⟨bm, om, b1, b2, b3, b4, b5, b6⟩ := hbm
      refine ⟨bm, om, b1, b2, fun q => ?_, fun q => ?_, base b3 (fun _ z => ?_) (fun z => ?_), b4, b5, b6⟩
      · obtain ⟨od, es, ep, e, hd, _⟩ := hns
        rw [q, e] at b3
        cases b3
        rw [hd] at b6; cases b6
      · rw [q, hT _ mT] at b3; cases b3; cases b6
      · subst z; subst ho; cases b6
      · rw [b6] at z; cases z
    · obtain ⟨od, es, ep, e, hd, _⟩ := hns
      rw [z, hT _ mT] at e; cases e; cases hd
  have e0 : Env0 P w K mg (hidT s₁.heap H) callerA [] s₁ H :=
    ⟨rfl, ⟨inK, space hns, ⟨mb, space hb, hbb⟩, by obtain ⟨mc, h1, h2⟩ := hlim; exact ⟨mc, space h1, h2⟩⟩, fun b ob e => of_hidT e, Nat.le_of_eq (hidT_size _ _), trivial, fun b hm => (by cases hm), good, .of_eq hg⟩
  refine codeAny_mono ((F _ inK (space hns) TB).run (us := [.ref a]) hr e0 (hbind s₁ (.ref a)) (vs := [.ref a]) (.cons rfl .nil) (hsp H atT script)) ?_
  rintro (er | fl) s2 h
  · obtain ⟨_, _, _, _, _, _, _, _, _, _, _, _, z⟩ := h
    exact z.elim
  · cases fl with
    | ret u =>
      obtain ⟨v, H', os, bare, un, good2, rr, q⟩ := h
      have q : v = .bl true := q
      subst q
      obtain rfl : u = Value.bool true := rr
      have kept : ∀ b ob, b ∉ cs.map (·.2) → s₁.heap.get? b = some ob → s2.heap.get? b = some ob := fun b ob n e => by
        cases z : H b with
        | none => exact un.keep b ob e z (fun m => by cases m) (fun m => by cases m)
        | some t =>
          obtain ⟨rfl, _, rfl⟩ := told z n
          rw [ha] at e; cases e
          exact (good2 b _ (un.frzs b o _ z)).1
      have tabs : ∀ T ∈ cs.map (·.2), ∃ more : Array Value, s2.heap.get? T = some { cls := .none, data := .fields (#[] ++ more) } := fun T mT => by
        obtain ⟨more, hm⟩ := un.tbls T #[] (atT T mT)
        exact ⟨more, good2 T _ hm⟩
      refine ⟨rfl, ⟨fun b ob e => ?_, fun b ob e => ?_⟩, os, bare⟩
      · by_cases hbT : b ∈ cs.map (·.2)
        · rw [hT b hbT] at e; cases e
          obtain ⟨more, hm2⟩ := tabs b hbT
          obtain ⟨p, hp, rfl⟩ := List.mem_map.mp hbT
          exact .inr (.inl ⟨((C p hp).tab (hT p.2 hbT)).isCodeTable, rfl, #[], more, rfl, hm2⟩)
        · exact .inl (kept b ob hbT e)
      · by_cases hbT : b ∈ cs.map (·.2)
        · obtain ⟨more, hm2⟩ := tabs b hbT
          exact ⟨_, hm2⟩
        · exact ⟨ob, kept b ob hbT e⟩
    | _ => exact h.elim
end
/-- the store a law with n tables begins with -/
def tabS (n : Nat) : Store := (List.range n).map Cell.tab
theorem start_tab {G : Gc} {H : Hp} {a : Addr} {ns : List Int} {ts : List Addr} (nd : ts.Nodup) (hG : ∀ (k : Nat) (T : Addr), ts[k]? = some T → G.tab k = T) (h : SqL G.K H a (ns.map V.int)) (hT : ∀ T ∈ ts, H T = some (.tbl #[])) (h0 : G.W0 = ⟨[], fun _ => none⟩) :
    ∃ W, SR G W H (tabS ts.length) ∧ Reps G W [.src (ns.map Da.int)] [.ref a] := by
  refine ⟨⟨ts, fun b => if b ∈ ts then none else H b⟩, ⟨fun b o e => ?_, nd, by simp [tabS], fun j c e => ?_, fun b hb => ?_, ?_⟩, .cons ?_ .nil⟩
  · have e : (if b ∈ ts then none else H b) = some o := e
    by_cases hb : b ∈ ts
    · rw [if_pos hb] at e; cases e
    · rw [if_neg hb] at e; exact e
  · unfold tabS at e
    rw [List.getElem?_map] at e
    obtain ⟨k, ek, rfl⟩ := Option.map_eq_some_iff.mp e
    have hj : j < ts.length := by
      have := (List.getElem?_eq_some_iff.mp ek).1
      simpa using this
    rw [List.getElem?_range hj] at ek
    cases ek
    have eT : ts[j]? = some ts[j] := by simp [hj]
    refine ⟨ts[j], eT, (hG j _ eT).symm, #[], hT _ (List.getElem_mem hj), True.intro, fun pos cv hc => ?_⟩
    have z : codeAmong pos ([] : List Value) = some cv := hc
    simp [codeAmong] at z
  · exact if_pos hb
  · rw [h0]; exact ⟨fun j a h => by simp at h, fun a o h => nomatch h⟩
  · rw [Rep]
    refine ⟨a, _, rfl, ?_, reps_ints ns⟩
    rcases h with (q | ⟨o, q⟩) | q
    · have n : a ∉ ts := fun z => by rw [hT a z] at q; cases q
      exact .inl (.inl ((if_neg n).trans q))
    · have n : a ∉ ts := fun z => by rw [hT a z] at q; cases q
      exact .inl (.inr ⟨o, (if_neg n).trans q⟩)
    · exact .inr q
theorem law_spT {G : Gc} {m : Mf} {n : Nat} {ts : List Addr} (hn : ts.length = n) (hm : ∀ ns : List Int, ns.length ≤ 63 → ∃ S, m [.src (ns.map Da.int)] (tabS n) = .ok (.bl true) S) {H : Hp} {a : Addr} {ns : List Int} (hl : ns.length ≤ 63) (nd : ts.Nodup) (hG : ∀ (k : Nat) (T : Addr), ts[k]? = some T → G.tab k = T)
    (h : SqL G.K H a (ns.map V.int)) (hT : ∀ T ∈ ts, H T = some (.tbl #[])) (h0 : G.W0 = ⟨[], fun _ => none⟩) :
    spM G 1 m [.ref a] H (fun v _ => v = .bl true) fun _ _ _ => False := by
  obtain ⟨W, s, r⟩ := start_tab nd hG h hT h0
  refine ⟨rfl, W, _, _, s, r, ?_⟩
  obtain ⟨S, e⟩ := hm ns hl
  rw [hn, e]
  exact fun b W' H' x s' r' => r'.bl_inv
theorem walkT {l : PySem.W.OpenLaw} {k n : Nat} {m : Mf} {xs : List Str} (hm : ∀ ns : List Int, ns.length ≤ 63 → ∃ S, m [.src (ns.map Da.int)] (tabS n) = .ok (.bl true) S) {qq : Program} {loose : List Str} {XP : (Str → Option Value) → Heap → Prop} {YP : World → Heap → Prop} {d : DefRec} {K : Params → PySem.W.Frag}
    (hn : l.most = some 63) (hdf : d.params.defaults = []) (hxs : xs.length = n) (hrec : ∀ x ∈ xs, ∃ e, (recsOf qq).find? (fun e => e.name == x) = some e) (hr : RoomG k callerA) (hY : ∀ (w : World) (h : Heap), YP w h → (K w.params).In h)
    (F : ∀ (w : World) (mg : Str → Option Value) (fa : Addr) (h : Heap), (K w.params).In h → h.Ns mainGlobals mg → mg d.name = some (.ref fa) →
      ∃ (fd : FuncData) (cs : List (Addr × Addr)), cs.length = n ∧ (∀ (i : Nat) (x : Str) (p : Addr × Addr), xs[i]? = some x → cs[i]? = some p → PySem.W.tabIn (K w.params) x = some p) ∧ (∀ T ∈ cs.map (·.2), (K w.params).lookup T = none) ∧ (cs.map (·.2)).Nodup ∧ (∀ (s : Shared) (u : Value), BindsTo s fd ⟨[u], []⟩ [("script", u)]) ∧
        ∀ base : Heap, (K w.params).In base → base.Ns mainGlobals mg → (∀ p ∈ cs, TabB base mg p.1 p.2) → FnG l.prog w (K w.params) mg base k fa fd ["script"] (fun vs H Q E => ∀ G : Gc, G.K = K w.params → G.W0 = ⟨[], fun _ => none⟩ → (∀ (k : Nat) (T : Addr), (cs.map (·.2))[k]? = some T → G.tab k = T) → spM G 1 m vs H Q E)) :
    PySem.W.WalkO qq loose XP YP l.row.toRowW d [] (fun f vs => PySem.call f vs) := by
  refine Att.attach_callB hn hdf fun w s₀ s₁ mg mb fa o pm cd doc a vs ns gr Y ho hd hcd hmg hobj hints hlen hbits hg => ?_
  have KX := hY w _ Y
  obtain ⟨fd, cs, hcn, ht, nT, nd, hb, hF⟩ := F w mg fa _ KX gr.T.g hmg
  have both : ∀ p ∈ cs, PySem.W.CodeHd s₁.heap p.1 p.2 ∧ s₁.heap.get? p.2 = some { cls := .none, data := .fields #[] } := fun p hp => by
    obtain ⟨i, hi, e⟩ := List.mem_iff_getElem.mp hp
    have hi2 : i < xs.length := by omega
    have ep : cs[i]? = some p := by simp [hi, e]
    have ex : xs[i]? = some xs[i] := by simp [hi2]
    obtain ⟨er, her⟩ := hrec xs[i] (List.getElem_mem hi2)
    exact PySem.W.tab_of gr.T KX her (ht i _ p ex ep)
  have hT : ∀ T ∈ cs.map (·.2), s₁.heap.get? T = some { cls := .none, data := .fields #[] } := fun T m => by
    obtain ⟨p, hp, rfl⟩ := List.mem_map.mp m
    exact (both p hp).2
  exact call_lawT KX gr.T.g gr.T.b gr.T.builtins gr.T.nolimit hg hT nT (fun p hp => (both p hp).1) gr.T.bmain hobj hints hlen hr hF hb fun H hH hS G hG h0 ht => law_spT (by simpa using hcn) hm hlen nd ht (by rw [hG]; exact hS) hH h0
end NL

set_option Elab.async false
set_option linter.all false
set_option autoImplicit false
set_option maxRecDepth 100000
set_option maxHeartbeats 4100000
namespace NL
open PySem PySem.Spec PyProof.Rows L2
/-! ### list.count, list.index over truths -/
section
variable {X : Cx}
def rCntF (K : PySem.W.Frag) : V → List V → Hp → VK → Prop := fun x xs H Q => ∃ (a : Addr) (ys : List V) (y : V), x = V.ref a ∧ xs = [y] ∧ SqL K H a ys ∧ flatV y = true ∧ ys.all flatV = true ∧ Q (.int (ys.countP (fun z => eqV z y) : Nat)) H
theorem count_vals {y : V} : ∀ {ys : List V} {us : List Value}, Vals ys us → ys.all flatV = true → us.countP (eqU y) = ys.countP (fun z => eqV z y) := fun {ys us} h => by
  induction h with
  | nil => intro _; rfl
  | cons ru r ih =>
    intro f
    rw [List.all_cons] at f
    rw [Bool.and_eq_true] at f
    rw [List.countP_cons, List.countP_cons, ih f.2, eqU_of ru f.1]
theorem mt_countF : MtR X "list.count" (rCntF X.K) := by
  intro pins s σ H x xs v us Q I rx rxs hq
  obtain ⟨a, ys, y, rfl, rfl, hs, fy, fys, q⟩ := hq
  cases rx
  obtain ⟨uy, rfl, ry⟩ := rxs.one
  obtain ⟨its, rv, ⟨⟨cl0, dd, data, sl⟩, n, ho, hc, hdn, hd⟩, hlen⟩ := I.list hs
  simp only at hc hd
  subst hc hd
  refine call_meets PySem.F.slot_list_count ⟨_, ho, rfl⟩
    PySem.F.entry_list_count (PySem.F.args_list_count_2 _ _) (SeqAt.list_countAt a its.toArray n dd sl uy (eqU y)) ⟨ho, fun u' hu' => mem_eqAt ry fy rv fys u' (by simpa using hu'), ?_⟩
  refine ⟨.int (ys.countP (fun z => eqV z y) : Nat), H, I.tok _, ⟨s.toks, ?_⟩, q⟩
  have e : its.toArray.toList.countP (eqU y) = ys.countP (fun z => eqV z y) := count_vals (by simpa using rv) fys
  rw [e]
end
def blsOf : List Da → Option (List Bool)
  | [] => some []
  | .bl b :: l => (blsOf l).map (b :: ·)
  | _ :: _ => none
theorem blsOf_eq : ∀ {l : List Da} {bs : List Bool}, blsOf l = some bs → l = bs.map Da.bl := fun {l} => by
  induction l with
  | nil => intro bs h; cases h; rfl
  | cons d l ih =>
    intro bs h
    cases d with
    | bl b =>
      unfold blsOf at h
      obtain ⟨cs, e, rfl⟩ := Option.map_eq_some_iff.mp h
      rw [ih e]; rfl
    | _ => cases h
section
variable {X : Cx} {G : Gc} {Wx : WX} {o e : Expr} {fo fe : M Da}
theorem reps_bls {W : Wd} : ∀ {bs : List Bool} {vs : List V}, Reps G W (bs.map Da.bl) vs → vs = bs.map V.bl := fun {bs} => by
  induction bs with
  | nil => intro vs h; exact h.inv_nil
  | cons b bs ih =>
    intro vs h
    obtain ⟨v, t, rfl, h1, h2⟩ := h.inv_cons
    rw [h1.bl_inv, ih h2]; rfl
theorem bls_flat (bs : List Bool) : (bs.map V.bl).all flatV = true := by
  induction bs with
  | nil => rfl
  | cons b bs ih => rw [List.map_cons, List.all_cons, ih]; rfl
theorem eqV_bl (x y : Bool) : eqV (.bl x) (.bl y) = (x == y) := by cases x <;> cases y <;> decide +kernel
theorem bls_count (b : Bool) (bs : List Bool) : (bs.map V.bl).countP (fun z => eqV z (.bl b)) = bs.count b := by
  rw [List.countP_map]
  show _ = bs.countP (· == b)
  refine List.countP_congr fun x _ => ?_
  show eqV (.bl x) (.bl b) = true ↔ _
  rw [eqV_bl]
def cntBM (fo fe : M Da) : M Da := fun ρ S => (fo ρ S).bind fun d S1 => match d with
  | .lst l => (fe ρ S1).bind fun y S2 => match y with
    | .bl b => match blsOf l with
      | some bs => .ok (.int (bs.count b : Nat)) S2
      | none => .bad
    | _ => .bad
  | _ => .bad
def idxBM (fo fe : M Da) : M Da := fun ρ S => (fo ρ S).bind fun d S1 => match d with
  | .lst l => (fe ρ S1).bind fun y S2 => match y with
    | .bl b => match blsOf l with
      | some bs => if bs.idxOf b < bs.length then .ok (.int (bs.idxOf b : Nat)) S2 else .bad
      | none => .bad
    | _ => .bad
  | _ => .bad
theorem pd_cntB {apos cpos : Pos} (ho : PE X o (tM G Wx fo)) (he : PE X e (tM G Wx fe)) (hbase : attributeBase o "count" X.env (eval o X.env) = eval o X.env := by rfl)
    (hfew : ((backTo cpos (starEach [e] X.env)).all (fun x => !x.1) && (backToKw cpos (keywordEach [] X.env)).all (fun x => x.1.isSome) && decide ([e].length + ([] : List Keyword).length + (if ([] : List Keyword).isEmpty then 0 else 1) < 30)) = true := by rfl) (hline : (apos.endLine == cpos.line) = true := by rfl) (hs : starEach [e] X.env = (false, eval e X.env) :: starEach [] X.env := by rfl) (hplain : (backTo cpos (starEach [] X.env)).any (·.1) = false := by rfl) (hK : G.K = X.K := by rfl) :
    PE X (.Call (.Attribute o "count" apos) [e] [] cpos) (tM G Wx (cntBM fo fe)) :=
  (pe_bm PySem.F.plainAttrs_list PySem.F.slot_list_count PySem.F.type_list_count mt_countF ho (pa_cons he pa_nil hs) hbase hfew hline hs hplain).imp fun σ H Q ⟨W, S, ρ, s, r, q⟩ => ⟨W, S, ρ, s, r, q.bind fun d S1 v W1 H1 x1 s1 q1 k1 => by
    cases d with
    | lst l =>
      obtain ⟨a, vs, rfl, hl, rs⟩ := q1.lst_inv
      rw [hK] at hl
      refine ⟨.inl ⟨rfl, vs, s1.sqL hl⟩, W1, S1, ρ, s1, r.mono x1.le, k1.bind fun y S2 u W2 H2 x2 s2 q2 k2 => ?_⟩
      cases y with
      | bl b =>
        dsimp only at k2
        cases eb : blsOf l with
        | none => rw [eb] at k2; exact k2.elim
        | some bs =>
          rw [eb] at k2
          rw [blsOf_eq eb] at rs
          have hv := reps_bls rs
          subst hv
          rw [q2.bl_inv]
          exact ⟨a, bs.map V.bl, .bl b, rfl, rfl, s2.sqL (SqL.mono hl x2.le.F), rfl, bls_flat bs, by rw [bls_count]; exact k2.here s2 (repI W2 _)⟩
      | _ => exact k2.elim
    | _ => exact k1.elim⟩
theorem bls_index {b : Bool} : ∀ {bs : List Bool}, bs.idxOf b < bs.length → (∃ z, (bs.map V.bl)[bs.idxOf b]? = some z ∧ eqV z (.bl b) = true) ∧ ∀ (m : Nat) (z : V), m < bs.idxOf b → (bs.map V.bl)[m]? = some z → eqV z (.bl b) = false := fun {bs} => by
  induction bs with
  | nil => exact fun h => absurd h (Nat.lt_irrefl 0)
  | cons x bs ih =>
    intro h
    by_cases e : x = b
    · subst e
      have h0 : (x :: bs).idxOf x = 0 := by simp
      rw [h0]
      exact ⟨⟨.bl x, rfl, by rw [eqV_bl]; simp⟩, fun m z hm => absurd hm (Nat.not_lt_zero m)⟩
    · have h1 : (x :: bs).idxOf b = bs.idxOf b + 1 := by
        rw [List.idxOf_cons]
        have hb : (x == b) = false := beq_eq_false_iff_ne.mpr e
        rw [hb]
        rfl
      rw [h1] at h ⊢
      obtain ⟨⟨z, z1, z2⟩, h3⟩ := ih (by simpa using h)
      refine ⟨⟨z, by simpa using z1, z2⟩, fun m z hm hz => ?_⟩
      cases m with
      | zero =>
        cases hz
        rw [eqV_bl]
        simpa using e
      | succ m => exact h3 m z (by omega) (by simpa using hz)
theorem pd_idxB {apos cpos : Pos} (ho : PE X o (tM G Wx fo)) (he : PE X e (tM G Wx fe)) (hbase : attributeBase o "index" X.env (eval o X.env) = eval o X.env := by rfl)
    (hfew : ((backTo cpos (starEach [e] X.env)).all (fun x => !x.1) && (backToKw cpos (keywordEach [] X.env)).all (fun x => x.1.isSome) && decide ([e].length + ([] : List Keyword).length + (if ([] : List Keyword).isEmpty then 0 else 1) < 30)) = true := by rfl) (hline : (apos.endLine == cpos.line) = true := by rfl) (hs : starEach [e] X.env = (false, eval e X.env) :: starEach [] X.env := by rfl) (hplain : (backTo cpos (starEach [] X.env)).any (·.1) = false := by rfl) (hK : G.K = X.K := by rfl) :
    PE X (.Call (.Attribute o "index" apos) [e] [] cpos) (tM G Wx (idxBM fo fe)) :=
  (pe_bm PySem.F.plainAttrs_list PySem.F.slot_list_index PySem.F.type_list_index mt_index ho (pa_cons he pa_nil hs) hbase hfew hline hs hplain).imp fun σ H Q ⟨W, S, ρ, s, r, q⟩ => ⟨W, S, ρ, s, r, q.bind fun d S1 v W1 H1 x1 s1 q1 k1 => by
    cases d with
    | lst l =>
      obtain ⟨a, vs, rfl, hl, rs⟩ := q1.lst_inv
      rw [hK] at hl
      refine ⟨.inl ⟨rfl, vs, s1.sqL hl⟩, W1, S1, ρ, s1, r.mono x1.le, k1.bind fun y S2 u W2 H2 x2 s2 q2 k2 => ?_⟩
      cases y with
      | bl b =>
        dsimp only at k2
        cases eb : blsOf l with
        | none => rw [eb] at k2; exact k2.elim
        | some bs =>
          rw [eb] at k2
          rw [blsOf_eq eb] at rs
          have hv := reps_bls rs
          subst hv
          rw [q2.bl_inv]
          dsimp only at k2
          by_cases hi : bs.idxOf b < bs.length
          · rw [if_pos hi] at k2
            obtain ⟨⟨z, z1, z2⟩, h3⟩ := bls_index hi
            exact ⟨a, bs.map V.bl, .bl b, bs.idxOf b, z, rfl, rfl, s2.sqL (SqL.mono hl x2.le.F), rfl, bls_flat bs, z1, z2, h3, k2.here s2 (repI W2 _)⟩
          · rw [if_neg hi] at k2; exact k2.elim
      | _ => exact k2.elim
    | _ => exact k1.elim⟩
end
/-! ### a def's promise, its own code told -/
theorem fngC {P : Program} {w : World} {K : PySem.W.Frag} {mg : Str → Option Value} {base : Heap} {x qual : Str} {st : Stmt} {f : Addr} {fd : FuncData} {N ps : List Str} {k : Nat} {sp : Sp} (F : Fun K x qual st f fd) (Sc : FnScope N ps (defScope st)) (len : ∀ vs H Q E, sp vs H Q E → vs.length = ps.length)
    (hb : ∀ (A : Around) (outer : List Env) (s : Shared) (H : Hp) (vs : List V) (Q : VK) (E : XK), RoomG k (A.deeper (envOfC qual (defScope st) s.heap.objs.size f fd.code)) → sp vs H Q E →
      ∃ t, PSs (cxOf (L2.CX P w) P w K mg base N qual (defScope st) f fd.code A outer s H E) (defBody st) t ∧ t { nx := fun _ H' => Q .non H', rt := Q } (L2.start N vs) H) : FnG P w K mg base (k + 1) f fd ps sp := by
  obtain ⟨oc, od, kV, doc, pm, an, cdv, ct, osl, e, lk, hcd⟩ := F.ex
  subst e
  refine ⟨len, fun {A outer s H args us vs Q E} hr e0 hbind r hsp => ?_⟩
  have inK : K.In s.heap := e0.mod.kin.keeps fun b o z => (e0.bs b o z).1
  refine codeAny_call_function hr.rm.depth (inK _ _ lk) rfl Sc.co Sc.gen rfl (PySem.W.codeRec_of inK hcd) (hbind _ _ _ _ (wpAny_newFunctionEnv_cells Sc.kind (fun y hy => ?_) fun env he s1 new => ?_))
  · rcases Sc.par y.1 (List.of_mem_zip hy).1 with q | q
    · exact .inl q
    · exact Or.inr ⟨q, PySem.W.cellsFrom_some _ _ _ (Or.inl q)⟩
  · subst he
    obtain ⟨t, ht, hq⟩ := hb A outer s H vs Q E (hr.into _) hsp
    refine ⟨(e0.mod.nolimit.keeps fun b o z => (e0.bs b o z).1).keeps new.toInCall.keep, codeAny_func (wpAny_mono (ht.run [] s1 (L2.start N vs) H _ (inv_start Sc hr.rm.hd e0 (len _ _ _ _ hsp) r new) hq) (fun fl s2 hs => ?_) fun e s2 z => z)⟩
    obtain ⟨u, hu, c⟩ := back_of hs
    rcases hu with rfl | ⟨rfl, rfl⟩ <;> exact c
theorem defkC {P : Program} {w : World} {mg : Str → Option Value} {base : Heap} {G : Gc} {x qual : Str} {st : Stmt} {f : Addr} {fd : FuncData} {N ps : List Str} (k n nn : Nat) (m : Mf) (body : MS) (hm : m = defM nn body) (hN : N.length = nn) (hn : ps.length = n) (F : Fun G.K x qual st f fd) (Sc : FnScope N ps (defScope st))
    (hb : ∀ (A : Around) (outer : List Env) (s : Shared) (H : Hp) (E : XK), RoomG k (A.deeper (envOfC qual (defScope st) s.heap.objs.size f fd.code)) →
      PSs (cxOf (L2.CX P w) P w G.K mg base N qual (defScope st) f fd.code A outer s H E) (defBody st) (tS G (fun cls dx _ H => E cls dx H) body)) : FnG P w G.K mg base (k + 1) f fd ps (spM G n m) := by
  subst hm hN hn
  exact fngC F Sc (fun vs H Q E h => h.1) fun A outer s H vs Q E hr h => ⟨_, hb A outer s H E hr, def_fin h⟩
end NL

set_option Elab.async false
set_option linter.all false
set_option autoImplicit false
set_option maxRecDepth 100000
set_option maxHeartbeats 4100000
namespace NL
open PySem PySem.Spec PyProof.Rows L2
/-! ### repr of any plain datum -/
def reprAD : List Da → Store → Option Da := fun l S => match l with
  | [.non] => some (.str "None")
  | [.bl b] => some (.str (if b then "True" else "False"))
  | [.int i] => reprID [.int i] S
  | [.str x] => if (reprText x).length ≤ sizeLine then some (.str (reprText x)) else none
  | [d] => reprPD [d] S
  | _ => none
section
variable {X : Cx} {G : Gc}
theorem cr_reprA (hu : X.A.units + 64 < cLine) (hgd : X.A.guards = some []) (hK : G.K = X.K := by rfl) : CallR X (.builtin "repr") (rdn G reprAD) := by
  rintro pins s σ H xs us Q I r ⟨W, S, l, sr, rs, q⟩
  match l, rs, q with
  | [], rs, q => exact q.elim
  | d :: _ :: _, rs, q => cases d <;> exact q.elim
  | [.int i], rs, q => exact cr_reprI pins s σ H xs us Q I r ⟨W, S, _, sr, rs, q⟩
  | [.tup l], rs, q => exact cr_reprP hu hgd hK pins s σ H xs us Q I r ⟨W, S, _, sr, rs, q⟩
  | [.lst l], rs, q => exact cr_reprP hu hgd hK pins s σ H xs us Q I r ⟨W, S, _, sr, rs, q⟩
  | [.cell j], rs, q => exact cr_reprP hu hgd hK pins s σ H xs us Q I r ⟨W, S, _, sr, rs, q⟩
  | [.exc a b c d], rs, q => exact cr_reprP hu hgd hK pins s σ H xs us Q I r ⟨W, S, _, sr, rs, q⟩
  | [.src l], rs, q => exact cr_reprP hu hgd hK pins s σ H xs us Q I r ⟨W, S, _, sr, rs, q⟩
  | [.fn k f c], rs, q => exact cr_reprP hu hgd hK pins s σ H xs us Q I r ⟨W, S, _, sr, rs, q⟩
  | [.non], rs, q =>
    obtain ⟨v, rfl, rv⟩ := rs.one
    rw [rv.non_inv] at r
    obtain ⟨u0, rfl, ru⟩ := vals1 r
    obtain rfl : u0 = Value.none := ru
    exact PySem.P.repr_of_none ⟨.str "None", H, I.tok _, ⟨_, rfl⟩, q.here sr (repS W _)⟩
  | [.bl b], rs, q =>
    obtain ⟨v, rfl, rv⟩ := rs.one
    rw [rv.bl_inv] at r
    obtain ⟨u0, rfl, ru⟩ := vals1 r
    obtain rfl : u0 = Value.bool b := ru
    exact PySem.P.repr_of_bool ⟨.str (if b then "True" else "False"), H, I.tok _, ⟨_, rfl⟩, q.here sr (repS W _)⟩
  | [.str x], rs, q =>
    obtain ⟨v, rfl, rv⟩ := rs.one
    rw [rv.str_inv] at r
    obtain ⟨u0, rfl, t0, rfl⟩ := vals1 r
    have q := q
    unfold reprAD at q
    dsimp only at q
    by_cases hz : (reprText x).length ≤ sizeLine
    · rw [if_pos hz] at q
      exact PySem.P.repr_of_str ⟨.str (reprText x), H, I.tok _, ⟨_, rfl⟩, q.here sr (repS W _)⟩ hz
    · rw [if_neg hz] at q; exact q.elim
end
end NL

set_option Elab.async false
set_option linter.all false
set_option autoImplicit false
set_option maxRecDepth 100000
set_option maxHeartbeats 4100000
namespace NL
open PySem PySem.Spec PyProof.Rows
open L2 LamX
/-! ### two runs that differ in what one slot holds -/
section
variable (i : Nat) (x y : Da)
/-- alike but for the slot i -/
def RE (ρ ρ' : En) : Prop := ∃ ρ0 : En, ρ = ρ0.set i (some x) ∧ ρ' = ρ0.set i (some y)
def AgM {α : Type} (f g : M α) : Prop := ∀ ρ ρ' S, RE i x y ρ ρ' → f ρ S = g ρ' S
inductive RRS : RS → RS → Prop
  | nx {ρ ρ' S} (h : RE i x y ρ ρ') : RRS (.nx ρ S) (.nx ρ' S)
  | bk {ρ ρ' S} (h : RE i x y ρ ρ') : RRS (.bk ρ S) (.bk ρ' S)
  | ct {ρ ρ' S} (h : RE i x y ρ ρ') : RRS (.ct ρ S) (.ct ρ' S)
  | rt {d S} : RRS (.rt d S) (.rt d S)
  | exc {c d ρ ρ' S} (h : RE i x y ρ ρ') : RRS (.exc c d ρ S) (.exc c d ρ' S)
  | bad : RRS .bad .bad
def AgS (f g : MS) : Prop := ∀ ρ ρ' S, RE i x y ρ ρ' → RRS i x y (f ρ S) (g ρ' S)
end
section
variable {i : Nat} {x y : Da} {α : Type}
theorem RE.len {ρ ρ' : En} (h : RE i x y ρ ρ') : ρ.length = ρ'.length := by
  obtain ⟨ρ0, rfl, rfl⟩ := h
  rw [List.length_set, List.length_set]
theorem RE.get {ρ ρ' : En} (h : RE i x y ρ ρ') {j : Nat} (hj : j ≠ i) : ρ[j]? = ρ'[j]? := by
  obtain ⟨ρ0, rfl, rfl⟩ := h
  rw [List.getElem?_set_ne (Ne.symm hj), List.getElem?_set_ne (Ne.symm hj)]
theorem RE.set {ρ ρ' : En} (h : RE i x y ρ ρ') {j : Nat} (hj : j ≠ i) (o : Option Da) : RE i x y (ρ.set j o) (ρ'.set j o) := by
  obtain ⟨ρ0, rfl, rfl⟩ := h
  exact ⟨ρ0.set j o, (List.set_comm _ _ (Ne.symm hj)), (List.set_comm _ _ (Ne.symm hj))⟩
theorem RE.wipe {ρ ρ' : En} (h : RE i x y ρ ρ') : ρ.set i none = ρ'.set i none := by
  obtain ⟨ρ0, rfl, rfl⟩ := h
  rw [List.set_set, List.set_set]
theorem RE.setAll : ∀ {is : List Nat} {ds : List Da} {ρ ρ' : En}, RE i x y ρ ρ' → i ∉ is → RE i x y (NL.setAll ρ (is.zip ds)) (NL.setAll ρ' (is.zip ds))
  | [], ds, ρ, ρ', h, _ => h
  | j :: is, [], ρ, ρ', h, _ => h
  | j :: is, d :: ds, ρ, ρ', h, n => by
    rw [List.mem_cons, not_or] at n
    show RE i x y (NL.setAll (ρ.set j (some d)) (is.zip ds)) (NL.setAll (ρ'.set j (some d)) (is.zip ds))
    exact RE.setAll (h.set (Ne.symm n.1) _) n.2
theorem ag_var {j : Nat} (hj : j ≠ i) : AgM i x y (varM j) (varM j) := fun ρ ρ' S h => by unfold varM; rw [h.get hj]
theorem ag_same {f : M α} (hf : ∀ ρ ρ' S, f ρ S = f ρ' S) : AgM i x y f f := fun ρ ρ' S _ => hf ρ ρ' S
theorem ag_c {d : Da} : AgM i x y (cM d) (cM d) := fun _ _ _ _ => rfl
theorem ag_nil : AgM i x y nilM nilM := fun _ _ _ _ => rfl
theorem ag_noPart : AgM i x y noPartM noPartM := fun _ _ _ _ => rfl
theorem ag_part {f g : M Da} (h : AgM i x y f g) : AgM i x y (partM f) (partM g) := fun ρ ρ' S r => by unfold partM; rw [h ρ ρ' S r]
theorem ag_cons {f f' : M Da} {g g' : M (List Da)} (h : AgM i x y f f') (k : AgM i x y g g') : AgM i x y (consM f g) (consM f' g') := fun ρ ρ' S r => by
  unfold consM; rw [h ρ ρ' S r]; congr 1; funext a S1; rw [k ρ ρ' S1 r]
theorem ag_op {op : Da → Da → Store → Option Da} {f f' g g' : M Da} (h : AgM i x y f f') (k : AgM i x y g g') : AgM i x y (opM op f g) (opM op f' g') := fun ρ ρ' S r => by
  unfold opM; rw [h ρ ρ' S r]; congr 1; funext a S1; rw [k ρ ρ' S1 r]
theorem ag_un {op : Da → Store → Option Da} {f f' : M Da} (h : AgM i x y f f') : AgM i x y (unM op f) (unM op f') := fun ρ ρ' S r => by unfold unM; rw [h ρ ρ' S r]
theorem ag_tst {f f' : M Da} (h : AgM i x y f f') : AgM i x y (tstM f) (tstM f') := fun ρ ρ' S r => by unfold tstM; rw [h ρ ρ' S r]
theorem ag_notT {f f' : M Bool} (h : AgM i x y f f') : AgM i x y (notT f) (notT f') := fun ρ ρ' S r => by unfold notT; rw [h ρ ρ' S r]
theorem ag_andT {f f' g g' : M Bool} (h : AgM i x y f f') (k : AgM i x y g g') : AgM i x y (andT f g) (andT f' g') := fun ρ ρ' S r => by
  unfold andT; rw [h ρ ρ' S r]; congr 1; funext a S1; rw [k ρ ρ' S1 r]
theorem ag_orT {f f' g g' : M Bool} (h : AgM i x y f f') (k : AgM i x y g g') : AgM i x y (orT f g) (orT f' g') := fun ρ ρ' S r => by
  unfold orT; rw [h ρ ρ' S r]; congr 1; funext a S1; rw [k ρ ρ' S1 r]
theorem ag_not {f f' : M Da} (h : AgM i x y f f') : AgM i x y (notM f) (notM f') := fun ρ ρ' S r => by unfold notM; rw [ag_tst h ρ ρ' S r]
theorem ag_and {f f' g g' : M Da} (h : AgM i x y f f') (k : AgM i x y g g') : AgM i x y (andM f g) (andM f' g') := fun ρ ρ' S r => by
  unfold andM; rw [ag_tst h ρ ρ' S r]; congr 1; funext a S1; rw [k ρ ρ' S1 r]
theorem ag_or {f f' g g' : M Da} (h : AgM i x y f f') (k : AgM i x y g g') : AgM i x y (orM f g) (orM f' g') := fun ρ ρ' S r => by
  unfold orM; rw [ag_tst h ρ ρ' S r]; congr 1; funext a S1; rw [k ρ ρ' S1 r]
theorem ag_if {c c' : M Bool} {f f' g g' : M Da} (q : AgM i x y c c') (h : AgM i x y f f') (k : AgM i x y g g') : AgM i x y (ifM c f g) (ifM c' f' g') := fun ρ ρ' S r => by
  unfold ifM; rw [q ρ ρ' S r]; congr 1; funext a S1; rw [h ρ ρ' S1 r, k ρ ρ' S1 r]
theorem ag_disp {k : List Da → Da} {f f' : M (List Da)} (h : AgM i x y f f') : AgM i x y (dispM k f) (dispM k f') := fun ρ ρ' S r => by unfold dispM; rw [h ρ ρ' S r]
theorem ag_list {f f' : M (List Da)} (h : AgM i x y f f') : AgM i x y (listM f) (listM f') := fun ρ ρ' S r => by unfold listM; rw [h ρ ρ' S r]
theorem ag_frz {f f' : M (List Da)} (h : AgM i x y f f') : AgM i x y (frzM f) (frzM f') := fun ρ ρ' S r => by unfold frzM; rw [h ρ ρ' S r]
theorem ag_call {op : List Da → Store → Option Da} {f f' : M (List Da)} (h : AgM i x y f f') : AgM i x y (callM op f) (callM op f') := fun ρ ρ' S r => by unfold callM; rw [h ρ ρ' S r]
theorem ag_slice {op : Da → Option Int → Option Int → Store → Option Da} {f f' : M Da} {l l' k k' : M (Option Int)} (h : AgM i x y f f') (h1 : AgM i x y l l') (h2 : AgM i x y k k') : AgM i x y (sliceM op f l k) (sliceM op f' l' k') := fun ρ ρ' S r => by
  unfold sliceM; rw [h ρ ρ' S r]; congr 1; funext a S1; rw [h1 ρ ρ' S1 r]; congr 1; funext b S2; rw [h2 ρ ρ' S2 r]
theorem ag_cntB {f f' g g' : M Da} (h : AgM i x y f f') (k : AgM i x y g g') : AgM i x y (cntBM f g) (cntBM f' g') := fun ρ ρ' S r => by
  unfold cntBM; rw [h ρ ρ' S r]; congr 1; funext a S1; cases a <;> first | rfl | (dsimp only; rw [k ρ ρ' S1 r])
theorem ag_idxB {f f' g g' : M Da} (h : AgM i x y f f') (k : AgM i x y g g') : AgM i x y (idxBM f g) (idxBM f' g') := fun ρ ρ' S r => by
  unfold idxBM; rw [h ρ ρ' S r]; congr 1; funext a S1; cases a <;> first | rfl | (dsimp only; rw [k ρ ρ' S1 r])
theorem ag_callF {n : Nat} {m : Mf} {f f' : M (List Da)} (h : AgM i x y f f') : AgM i x y (callF n m f) (callF n m f') := fun ρ ρ' S r => by unfold callF; rw [h ρ ρ' S r]
theorem ag_itL {f f' : M Da} (h : AgM i x y f f') : AgM i x y (itL f) (itL f') := fun ρ ρ' S r => by unfold itL; rw [h ρ ρ' S r]
theorem ag_itT {f f' : M Da} (h : AgM i x y f f') : AgM i x y (itT f) (itT f') := fun ρ ρ' S r => by unfold itT; rw [h ρ ρ' S r]
theorem ag_itET {f f' : M Da} (h : AgM i x y f f') : AgM i x y (itET f) (itET f') := fun ρ ρ' S r => by unfold itET; rw [h ρ ρ' S r]
/-! the held exception -/
theorem ag_isX {a : Addr} {dx : Option Addr} {c : Str} {d : Da} {t : Option Bool} : AgM i (.exc a dx c d) (.exc 0 none c d) (isXM a dx c i t) (isXM 0 none c i t) := fun ρ ρ' S ⟨ρ0, h1, h2⟩ => by
  rw [h1, h2, isXM_at, isXM_at]
theorem ag_xf {a : Addr} {dx : Option Addr} {c : Str} {d : Da} {t : Bool} : AgM i (.exc a dx c d) (.exc 0 none c d) (xfM a dx c i t) (xfM 0 none c i t) := fun ρ ρ' S ⟨ρ0, h1, h2⟩ => by
  rw [h1, h2, xfM_at, xfM_at]
/-- an exception's slot, told of another slot's runs -/
theorem ag_isX2 {j : Nat} {c : Str} {t : Option Bool} (hj : j ≠ i) : AgM i x y (isXM 0 none c j t) (isXM 0 none c j t) := fun ρ ρ' S h => by unfold isXM; rw [h.get hj]
theorem ag_xf2 {j : Nat} {c : Str} {t : Bool} (hj : j ≠ i) : AgM i x y (xfM 0 none c j t) (xfM 0 none c j t) := fun ρ ρ' S h => by unfold xfM; rw [h.get hj]
/-! the lambda -/
theorem ag_act {tk : Nat} {f c : Addr} {n : Nat} {k : Mf} {t t' : M (List Da)} (h : AgM i (.fn tk f c) (.fn tk 0 0) t t') : AgM i (.fn tk f c) (.fn tk 0 0) (actN i tk f c n k t) (actN i tk 0 0 n k t') := fun ρ ρ' S r => by
  have e := h ρ ρ' S r
  obtain ⟨ρ0, h1, h2⟩ := r
  unfold actN
  rw [e]
  rw [h1, h2]
  by_cases hl : i < ρ0.length
  · rw [List.getElem?_set_self hl, List.getElem?_set_self hl]
    dsimp only
    rw [if_pos ⟨rfl, rfl, rfl⟩, if_pos ⟨rfl, rfl, rfl⟩]
  · rw [List.getElem?_eq_none (by simpa using hl), List.getElem?_eq_none (by simpa using hl)]
/-! statements -/
theorem RRS.thenS {r : Res α} {k k' : α → Store → RS} {ρ ρ' : En} (h : RE i x y ρ ρ') (hk : ∀ a S, RRS i x y (k a S) (k' a S)) : RRS i x y (r.thenS ρ k) (r.thenS ρ' k') := by
  cases r with
  | ok a S => exact hk a S
  | exc c d S => exact .exc h
  | bad => exact .bad
theorem ags_skip : AgS i x y skipS skipS := fun ρ ρ' S h => .nx h
theorem ags_retN : AgS i x y retN retN := fun ρ ρ' S h => .rt
theorem ags_never : AgS i x y neverS neverS := fun ρ ρ' S h => .bad
theorem ags_break : AgS i x y breakS breakS := fun ρ ρ' S h => .bk h
theorem ags_cont : AgS i x y contS contS := fun ρ ρ' S h => .ct h
theorem ags_ret {f f' : M Da} (h : AgM i x y f f') : AgS i x y (retS f) (retS f') := fun ρ ρ' S r => by
  unfold retS; rw [h ρ ρ' S r]; exact .thenS r fun a S => .rt
theorem ags_drop {f f' : M Da} (h : AgM i x y f f') : AgS i x y (dropS f) (dropS f') := fun ρ ρ' S r => by
  unfold dropS; rw [h ρ ρ' S r]; exact .thenS r fun a S => .nx r
theorem ags_set {j : Nat} (hj : j ≠ i) {f f' : M Da} (h : AgM i x y f f') : AgS i x y (setS j f) (setS j f') := fun ρ ρ' S r => by
  unfold setS; rw [h ρ ρ' S r]; exact .thenS r fun a S => .nx (r.set hj _)
theorem ags_if {c c' : M Bool} {f f' g g' : MS} (hc : AgM i x y c c') (h : AgS i x y f f') (k : AgS i x y g g') : AgS i x y (ifS c f g) (ifS c' f' g') := fun ρ ρ' S r => by
  unfold ifS; rw [hc ρ ρ' S r]
  refine .thenS r fun a S => ?_
  cases a
  · exact k ρ ρ' S r
  · exact h ρ ρ' S r
theorem ags_seq {f f' g g' : MS} (h : AgS i x y f f') (k : AgS i x y g g') : AgS i x y (seqS f g) (seqS f' g') := fun ρ ρ' S r => by
  unfold seqS
  have q := h ρ ρ' S r
  revert q
  cases f ρ S <;> cases f' ρ' S <;> intro q <;> cases q
  · exact k _ _ _ ‹_›
  · exact .rt
  · exact .bk ‹_›
  · exact .ct ‹_›
  · exact .exc ‹_›
  · exact .bad
theorem re_bindT {t : Tg} (hi : i ∉ t.slots) {d : Da} {ρ ρ' : En} (r : RE i x y ρ ρ') : (bindT t d ρ = none ∧ bindT t d ρ' = none) ∨ ∃ ρ1 ρ2, bindT t d ρ = some ρ1 ∧ bindT t d ρ' = some ρ2 ∧ RE i x y ρ1 ρ2 := by
  cases t with
  | one j => exact .inr ⟨_, _, rfl, rfl, r.set (fun e => hi (by simp [Tg.slots, e])) _⟩
  | many is =>
    cases d with
    | tup l =>
      show ((if l.length = is.length then some (NL.setAll ρ (is.zip l)) else none) = none ∧ (if l.length = is.length then some (NL.setAll ρ' (is.zip l)) else none) = none) ∨ ∃ ρ1 ρ2, (if l.length = is.length then some (NL.setAll ρ (is.zip l)) else none) = some ρ1 ∧ (if l.length = is.length then some (NL.setAll ρ' (is.zip l)) else none) = some ρ2 ∧ RE i x y ρ1 ρ2
      by_cases hl : l.length = is.length
      · rw [if_pos hl, if_pos hl]; exact .inr ⟨_, _, rfl, rfl, r.setAll hi⟩
      · rw [if_neg hl, if_neg hl]; exact .inl ⟨rfl, rfl⟩
    | _ => exact .inl ⟨rfl, rfl⟩
theorem ags_forL {t : Tg} (hi : i ∉ t.slots) {b b' : MS} (h : AgS i x y b b') : ∀ ds : List Da, AgS i x y (forL t b ds) (forL t b' ds)
  | [], ρ, ρ', S, r => .nx r
  | d :: ds, ρ, ρ', S, r => by
    unfold forL
    rcases re_bindT hi (d := d) r with ⟨e1, e2⟩ | ⟨ρ1, ρ2, e1, e2, r2⟩
    · rw [e1, e2]; exact .bad
    · rw [e1, e2]
      dsimp only
      have q := h ρ1 ρ2 S r2
      revert q
      cases b ρ1 S <;> cases b' ρ2 S <;> intro q <;> cases q
      · exact ags_forL hi h ds _ _ _ ‹_›
      · exact .rt
      · exact .nx ‹_›
      · exact ags_forL hi h ds _ _ _ ‹_›
      · exact .exc ‹_›
      · exact .bad
theorem ags_for {t : Tg} (hi : i ∉ t.slots) {src src' : M (List Da)} {b b' : MS} (hs : AgM i x y src src') (h : AgS i x y b b') : AgS i x y (forS t src b) (forS t src' b') := fun ρ ρ' S r => by
  unfold forS; rw [hs ρ ρ' S r]
  exact .thenS r fun ds S => ags_forL hi h ds _ _ _ r
theorem ags_tryAs {mat : Str → Option Bool} {j : Nat} (hj : j ≠ i) {f f' : MS} {g : Hd} (h : AgS i x y f f') (k : ∀ c, AgS i x y (g 0 none c) (g 0 none c)) : AgS i x y (tryAsS mat j f g) (tryAsS mat j f' g) := fun ρ ρ' S r => by
  unfold tryAsS
  have q := h ρ ρ' S r
  revert q
  cases f ρ S <;> cases f' ρ' S <;> intro q <;> cases q
  · exact .nx ‹_›
  · exact .rt
  · exact .bk ‹_›
  · exact .ct ‹_›
  · rename_i c d ρ1 S1 ρ2 h
    dsimp only
    cases mat c with
    | none => exact .bad
    | some b =>
      cases b with
      | false => exact .exc h
      | true =>
        dsimp only
        have q := k c _ _ S1 (h.set hj (some (.exc 0 none c d)))
        revert q
        cases g 0 none c (ρ1.set j (some (.exc 0 none c d))) S1 <;> cases g 0 none c (ρ2.set j (some (.exc 0 none c d))) S1 <;> intro q <;> cases q
        · exact .nx (RE.set ‹_› hj _)
        · exact .rt
        · exact .bk (RE.set ‹_› hj _)
        · exact .ct (RE.set ‹_› hj _)
        · exact .bad
        · exact .bad
  · exact .bad
/-- the suite's answer hangs on no address -/
theorem ags_hind {g : Hd} {a : Addr} {dx : Option Addr} {c : Str} {d : Da} (h : AgS i (.exc a dx c d) (.exc 0 none c d) (g a dx c) (g 0 none c)) (ρ : En) (S : Store) :
    wipeRS i (g a dx c (ρ.set i (some (.exc a dx c d))) S) = wipeRS i (g 0 none c (ρ.set i (some (.exc 0 none c d))) S) := by
  have q := h _ _ S ⟨ρ, rfl, rfl⟩
  revert q
  cases g a dx c (ρ.set i (some (.exc a dx c d))) S <;> cases g 0 none c (ρ.set i (some (.exc 0 none c d))) S <;> intro q <;> cases q
  · exact congrArg (fun z => RS.nx z _) (RE.wipe ‹_›)
  · rfl
  · exact congrArg (fun z => RS.bk z _) (RE.wipe ‹_›)
  · exact congrArg (fun z => RS.ct z _) (RE.wipe ‹_›)
  · rfl
  · rfl
/-- the def's answer hangs on no lambda's address -/
theorem ags_lind {n tk : Nat} {f c : Addr} {b b' : MS} (h : AgS i (.fn tk f c) (.fn tk 0 0) b b') (hn : i < n) {ds : List Da} (hl : ds.length = i) (S : Store) : defM n b (ds ++ [.fn tk f c]) S = defM n b' (ds ++ [.fn tk 0 0]) S := by
  unfold defM
  have e : ∀ z : Da, (ds ++ [z]).map some ++ List.replicate (n - (ds ++ [z]).length) none = (ds.map some ++ [none] ++ List.replicate (n - (i + 1)) none).set i (some z) := fun z => by
    rw [List.map_append, List.length_append, hl, List.append_assoc, List.append_assoc]
    rw [List.set_append_right _ _ (by rw [List.length_map, hl]; exact Nat.le_refl _)]
    rw [List.length_map, hl, Nat.sub_self]
    rfl
  rw [e, e]
  have q := h _ _ S ⟨ds.map some ++ [none] ++ List.replicate (n - (i + 1)) none, rfl, rfl⟩
  revert q
  cases b _ S <;> cases b' _ S <;> intro q <;> cases q <;> rfl
end
theorem lam_hi0 {N : List Str} : ∀ j : Nat, j < ([] : List Str).length → ∀ i : Nat, ([] : List Nat)[j]? = some i → N[i]? = ([] : List Str)[j]? := fun j h => absurd h (Nat.not_lt_zero j)
theorem lam_hi1 {N : List Str} {a : Str} {i0 : Nat} (h : N[i0]? = some a) : ∀ j : Nat, j < [a].length → ∀ i : Nat, [i0][j]? = some i → N[i]? = [a][j]?
  | 0, _, i, e => by cases e; exact h
  | j + 1, hj, _, _ => absurd hj (by simp)
theorem lam_hi2 {N : List Str} {a b : Str} {i0 i1 : Nat} (h : N[i0]? = some a) (k : N[i1]? = some b) : ∀ j : Nat, j < [a, b].length → ∀ i : Nat, [i0, i1][j]? = some i → N[i]? = [a, b][j]?
  | 0, _, i, e => by cases e; exact h
  | 1, _, i, e => by cases e; exact k
  | j + 2, hj, _, _ => absurd hj (by simp)
/-- where a def's code object and its table are -/
theorem tab_mk {K : PySem.W.Frag} {x : Str} {f c P : Addr} {oc tc : Value} {od td : Option Addr} {fd : FuncData} {sl ts : Array (Option Value)} {vs : Array Value} (a : PySem.W.nsIn K mainGlobals x = some (some (.ref f))) (l : K.lookup f = some ⟨oc, od, .func fd, sl⟩) (hc : fd.code = .ref c)
    (t : K.lookup c = some ⟨tc, td, .fields vs, ts⟩) (h : (vs[11]? : Option Value) = some (.ref P)) : PySem.W.tabIn K x = some (c, P) := by
  unfold PySem.W.tabIn
  rw [a]
  dsimp only
  rw [l]
  dsimp only
  rw [hc]
  dsimp only
  rw [t]
  dsimp only
  rw [h]
/-! ### what is known of a def that gets a lambda -/
section
variable (P : Program) (w : World) (K : PySem.W.Frag) (mg : Str → Option Value) (base : Heap) (G : Gc)
structure LamOk (x : Str) (kg ai np : Nat) (mk : Nat → Addr → Addr → Mf → Mf) : Prop where
  ex : ∃ (g : Addr) (fd : FuncData) (st : Stmt) (qual a : Str) (Ng ps : List Str) (bk : Nat → Addr → Addr → Mf → MS), (mk = fun tk f c k => defM Ng.length (bk tk f c k)) ∧ mg x = some (.ref g) ∧ PySem.W.keepIn K (.ref g) = true ∧ Fun K x qual st g fd ∧ Binds K fd ps [] ∧
    FnScope Ng ps (defScope st) ∧ Ng[ai]? = some a ∧ ps.length = ai + 1 ∧ Vis (defScope st) a ∧ (a == ("__debug__" : Str)) = false ∧ (a == ("__classdict__" : Str)) = false ∧ (∀ tk, LamDef P w K mg base G kg tk g st Ng qual a ai np (bk tk)) ∧
    ∀ (tk : Nat) (f c' : Addr) (k : Mf) (ds : List Da) (S : Store), ds.length = ai → defM Ng.length (bk tk f c' k) (ds ++ [.fn tk f c']) S = defM Ng.length (bk tk 0 0 k) (ds ++ [.fn tk 0 0]) S
end
section
variable {X : Cx} {G : Gc} {Wx : WX}
theorem pdc_lam {x : Str} {c : Addr} {lps : List Str} {kg kb k tk ai np : Nat} {params : Arguments} {body : Expr} {scope : Scope} {m : M Da} {mk : Nat → Addr → Addr → Mf → Mf} {p lpos pos : Pos} {is : List Nat} {es : List Expr} {t : M (List Da)}
    (C : LamOk X.prog X.w X.K X.mg X.base G x kg ai np mk) (hnp : lps.length = np) (hg : Gl X x) (TB : TabB X.base X.mg c (G.tab tk)) (hcode : X.env.code = .ref c) (hq : X.env.qual ++ "<lambda>" = G.tq tk)
    (L : LamP X.env.scope scope lps) (hdef : defaultsOf params X.env = ([], [])) (hbind : ∀ (q : Str) (cl : List (Str × Addr)) (pm cv ctv : Value) (us : List Value), us.length = lps.length → bindArgs (PySem.W.kla_fn "<lambda>" q params body scope cl pm cv ctv) ⟨us, []⟩ = pure (lps.zip us))
    (hXN : X.N.Nodup) (hil : is.length = lps.length) (nd : lps.Nodup) (hi : ∀ j : Nat, j < lps.length → ∀ i, is[j]? = some i → X.N[i]? = lps[j]?)
    (hr : RoomG k X.A) (hkg : kg + 1 ≤ k) (hkb : kb + 2 ≤ k) (tk0 : Takes X Wx) (hes : SpL X G Wx es (.Lambda params body scope lpos) t)
    (hargs : ∃ e r, es ++ [.Lambda params body scope lpos] = e :: r ∧ Arg1 X e r ∧ NoSt X pos r)
    (hbody : ∀ (A : Around) (outer : List Env) (s : Shared) (H : Hp) (E : XK) (f c' : Addr), RoomG kb (A.deeper (lamEnv X scope s.heap.objs.size f c')) → PE (lamCx X A outer s H E scope f c') body (tM G (fun cls d _ H => E cls d H) m))
    (hdb : (x == ("__debug__" : Str)) = false := by decide) : PE X (.Call (.Name x p) (es ++ [.Lambda params body scope lpos]) [] pos) (tM G Wx (lamF (mk tk) tk ai is t m)) := by
  obtain ⟨g, fd, st, qual, a, Ng, ps, bk, rfl, hm, hk, F, hb, Sc, hN, hps, hva, hd, hcd, hdefn, hind⟩ := C.ex
  subst hnp
  obtain ⟨k, rfl⟩ : ∃ j, k = j + 1 := ⟨k - 1, by omega⟩
  refine pd_lam (kg := k) (kb := kb) (bk := bk tk) hg hm hk F hb Sc hN hps hva TB hcode hq L hdef hbind hXN hil nd hi hr (by omega) tk0 hes hargs hbody (fun f c' B kk cdv A outer s H E hr2 act => hdefn tk f c' B kk cdv A outer s H E (hr2.mono (by omega)) act) (hind tk) hdb hd hcd
end
end NL

set_option Elab.async false
set_option linter.all false
set_option autoImplicit false
set_option maxRecDepth 100000
set_option maxHeartbeats 4100000
namespace NL
open PySem PySem.Spec PyProof.Rows L2
/-! ### keys of any depth -/
mutual
def KeyV (K : PySem.W.Frag) (H : Hp) : NestedKey → V → Prop
  | .none, v => v = .non
  | .num i, v => v = .int i ∨ ∃ b, v = .bl b ∧ i = if b = true then 1 else 0
  | .text x, v => v = .str x
  | .tup ks, v => ∃ a vs, v = .ref a ∧ SqT K H a vs ∧ KeyVs K H ks vs
def KeyVs (K : PySem.W.Frag) (H : Hp) : List NestedKey → List V → Prop
  | [], vs => vs = []
  | k :: ks, vs => ∃ v r, vs = v :: r ∧ KeyV K H k v ∧ KeyVs K H ks r
end
mutual
theorem KeyV.mono {K : PySem.W.Frag} {H H' : Hp} (e : ∀ a o, H a = some o → H' a = some o) : ∀ {k : NestedKey} {v : V}, KeyV K H k v → KeyV K H' k v
  | .none, v, h => by simpa [KeyV] using h
  | .num i, v, h => by simpa [KeyV] using h
  | .text x, v, h => by simpa [KeyV] using h
  | .tup ks, v, h => by
    rw [KeyV] at h ⊢
    obtain ⟨a, vs, h1, h2, h3⟩ := h
    exact ⟨a, vs, h1, SqT.mono h2 e, KeyVs.mono e h3⟩
theorem KeyVs.mono {K : PySem.W.Frag} {H H' : Hp} (e : ∀ a o, H a = some o → H' a = some o) : ∀ {k : List NestedKey} {v : List V}, KeyVs K H k v → KeyVs K H' k v
  | [], v, h => by simpa [KeyVs] using h
  | k :: ks, v, h => by
    rw [KeyVs] at h ⊢
    obtain ⟨a, r, h1, h2, h3⟩ := h
    exact ⟨a, r, h1, KeyV.mono e h2, KeyVs.mono e h3⟩
end
mutual
theorem KeyV.is {X : Cx} {pins : List (Addr × Obj)} {σ : L2.St} {H : Hp} {s : Shared} (I : Inv X pins σ H s) : ∀ {k : NestedKey} {v : V} {u : Value}, KeyV X.K H k v → RelV v u → NestedIs s.heap k u
  | .none, v, u, h, r => by
    rw [KeyV] at h; subst h
    obtain rfl : u = Value.none := r
    exact .none
  | .num i, v, u, h, r => by
    rw [KeyV] at h
    rcases h with rfl | ⟨b, rfl, hb⟩
    · obtain ⟨t, rfl⟩ := r
      exact .int i t
    · obtain rfl : u = Value.bool b := r
      exact .bool hb
  | .text x, v, u, h, r => by
    rw [KeyV] at h; subst h
    obtain ⟨t, rfl⟩ := r
    exact .text x t
  | .tup ks, v, u, h, r => by
    rw [KeyV] at h
    obtain ⟨a, vs, rfl, h2, h3⟩ := h
    obtain rfl : u = Value.ref a := r
    obtain ⟨its, rv, ⟨o, ho, hc, n, hd⟩, _⟩ := I.tuple h2
    exact .tup ho hc hd (by simpa using KeyVs.is I h3 rv)
theorem KeyVs.is {X : Cx} {pins : List (Addr × Obj)} {σ : L2.St} {H : Hp} {s : Shared} (I : Inv X pins σ H s) : ∀ {k : List NestedKey} {v : List V} {u : List Value}, KeyVs X.K H k v → Vals v u → NestedAll s.heap k u
  | [], v, u, h, r => by
    rw [KeyVs] at h; subst h
    cases r; exact .nil
  | k :: ks, v, u, h, r => by
    rw [KeyVs] at h
    obtain ⟨a, t, rfl, h2, h3⟩ := h
    cases r with
    | cons r1 r2 => exact .cons (KeyV.is I h2 r1) (KeyVs.is I h3 r2)
end
mutual
theorem Rep.key {G : Gc} {W : Wd} : ∀ {d : Da} {v : V} {k : NestedKey}, Rep G W d v → nkD d = some k → KeyV G.K W.F k v
  | .non, v, k, r, h => by rw [nkD] at h; cases h; rw [KeyV]; exact r.non_inv
  | .bl b, v, k, r, h => by rw [nkD] at h; cases h; rw [KeyV]; exact .inr ⟨b, r.bl_inv, rfl⟩
  | .int i, v, k, r, h => by rw [nkD] at h; cases h; rw [KeyV]; exact .inl r.int_inv
  | .str x, v, k, r, h => by rw [nkD] at h; cases h; rw [KeyV]; exact r.str_inv
  | .tup l, v, k, r, h => by
    rw [nkD] at h
    obtain ⟨ks, e, rfl⟩ := Option.map_eq_some_iff.mp h
    obtain ⟨a, vs, rfl, h2, h3⟩ := r.tup_inv
    rw [KeyV]
    exact ⟨a, vs, rfl, h2, Reps.key h3 e⟩
  | .lst l, v, k, r, h => by simp [nkD] at h
  | .cell j, v, k, r, h => by simp [nkD] at h
  | .exc a dx c d, v, k, r, h => by simp [nkD] at h
  | .src l, v, k, r, h => by simp [nkD] at h
  | .fn j f c, v, k, r, h => by simp [nkD] at h
theorem Reps.key {G : Gc} {W : Wd} : ∀ {d : List Da} {v : List V} {k : List NestedKey}, Reps G W d v → nkDs d = some k → KeyVs G.K W.F k v
  | [], v, k, r, h => by rw [nkDs] at h; cases h; rw [KeyVs]; exact r.inv_nil
  | d :: l, v, k, r, h => by
    obtain ⟨u, t, rfl, r1, r2⟩ := r.inv_cons
    rw [nkDs] at h
    split at h
    · rename_i k1 ks e1 e2
      cases h
      rw [KeyVs]
      exact ⟨u, t, rfl, Rep.key r1 e1, Reps.key r2 e2⟩
    · cases h
end
/-! ### the entries -/
def putX (xs : List (NestedKey × Addr × V)) (n : NestedKey) (p : Addr) (v : V) : List (NestedKey × Addr × V) := if (xs.any fun x => decide (x.1 = n)) = true then xs.map fun x => if x.1 = n then (x.1, x.2.1, v) else x else xs ++ [(n, p, v)]
theorem NRel.len {xs : List (NestedKey × Addr × V)} {zs : List (NestedKey × Addr × Value)} (h : NRel xs zs) : xs.length = zs.length := by
  induction h with
  | nil => rfl
  | cons _ _ ih => simp [ih]
theorem NRel.any {xs : List (NestedKey × Addr × V)} {zs : List (NestedKey × Addr × Value)} (h : NRel xs zs) (n : NestedKey) : (xs.any fun x => decide (x.1 = n)) = (atKey zs n).isSome := by
  induction h with
  | nil => rfl
  | @cons k p v u xs zs r t ih =>
    by_cases e : k = n
    · simp [atKey, e]
    · simpa [atKey, e] using ih
theorem NRel.map {xs : List (NestedKey × Addr × V)} {zs : List (NestedKey × Addr × Value)} (h : NRel xs zs) (n : NestedKey) {v : V} {u : Value} (r : RelV v u) : NRel (xs.map fun x => if x.1 = n then (x.1, x.2.1, v) else x) (zs.map (putAt n u)) := by
  induction h with
  | nil => exact .nil
  | @cons k p v' u' xs zs r' t ih =>
    by_cases e : k = n
    · simpa [putAt, e] using NRel.cons r ih
    · simpa [putAt, e] using NRel.cons r' ih
theorem NRel.snoc {xs : List (NestedKey × Addr × V)} {zs : List (NestedKey × Addr × Value)} (h : NRel xs zs) {k : NestedKey} {p : Addr} {v : V} {u : Value} (r : RelV v u) : NRel (xs ++ [(k, p, v)]) (zs ++ [(k, p, u)]) := by
  induction h with
  | nil => exact .cons r .nil
  | cons r' _ ih => exact .cons r' ih
theorem NRel.put {xs : List (NestedKey × Addr × V)} {zs : List (NestedKey × Addr × Value)} (h : NRel xs zs) (n : NestedKey) (p : Addr) {v : V} {u : Value} (r : RelV v u) : NRel (putX xs n p v) (storedH zs n p u) := by
  unfold putX storedH
  rw [h.any n]
  split
  · exact h.map n r
  · exact h.snoc r
theorem putX_len (xs : List (NestedKey × Addr × V)) (n : NestedKey) (p : Addr) (v : V) : (putX xs n p v).length ≤ xs.length + 1 := by
  unfold putX
  split <;> simp
theorem DNat.stay {w : World} {a : Addr} {xs : List (NestedKey × Addr × V)} {h1 h2 : Heap} (x : DNat w a xs h1) (k : ∀ o, h1.get? a = some o → h2.get? a = some o) : DNat w a xs h2 := by
  obtain ⟨z, hs, zs, r, o, es, ep, ho, q⟩ := x
  exact ⟨z, hs, zs, r, o, es, ep, k o ho, q⟩
theorem dn_ok {P : Program} {w : World} {H : Hp} {h : Heap} {a : Addr} {xs : List (NestedKey × Addr × V)} (x : DNat w a xs h) : ObjOk P w H h a (DNO w a xs) := by
  refine ⟨x, ?_, fun h1 h2 y k => y.stay k⟩
  obtain ⟨_, _, _, _, o, _, _, ho, _⟩ := x
  exact ⟨o, ho⟩
section
variable {X : Cx} {pins : List (Addr × Obj)} {σ : L2.St} {H : Hp} {s : Shared} {D p : Addr} {xs : List (NestedKey × Addr × V)} {A : Around} {E : Value → Shared → Prop}
/-- each key is there -/
def KeysX (K : PySem.W.Frag) (H : Hp) (xs : List (NestedKey × Addr × V)) : Prop := ∀ x ∈ xs, x.1.depth ≤ 8 ∧ KeyV K H x.1 (.ref x.2.1)
theorem dn_dict (I : Inv X pins σ H s) (hD : H D = some (DNO X.w D xs)) (hk : KeysX X.K H xs) : xs.length ≤ sizeLine ∧ (D == sysModules) = false ∧ ∃ zs, NRel xs zs ∧ s.heap.DictOfH (nestedKind X.prog X.w) D zs := by
  obtain ⟨⟨z, hs, zs, r, o, es, ep, ho, hc, hd, he, hn⟩, _, _⟩ := I.hok D _ hD
  refine ⟨z, hs, zs, r, o, es, ep, ho, hc, hd, he, ?_, hn⟩
  have all : ∀ {xs : List (NestedKey × Addr × V)} {zs : List (NestedKey × Addr × Value)}, NRel xs zs → KeysX X.K H xs → ∀ z ∈ zs, (nestedKind X.prog X.w).is s.heap z.1 z.2.1 := by
    intro xs zs r
    induction r with
    | nil => intro _ z hz; cases hz
    | @cons k p v u xs zs r t ih =>
      intro hk z hz
      rcases (List.mem_cons.mp hz) with rfl | hz
      · obtain ⟨h1, h2⟩ := hk _ List.mem_cons_self
        exact ⟨KeyV.is I h2 rfl, h1⟩
      · exact ih (fun x hx => hk x (List.mem_cons_of_mem _ hx)) z hz
  exact all r hk
theorem dn_type (I : Inv X pins σ H s) (hD : H D = some (DNO X.w D xs)) : s.TypeIs (.ref D) "dict" := by
  obtain ⟨⟨z, hs, zs, r, o, es, ep, ho, hc, _⟩, _, _⟩ := I.hok D _ hD
  exact ⟨o, ho, hc.1⟩
def atX (xs : List (NestedKey × Addr × V)) (n : NestedKey) : Option V := (xs.find? fun x => decide (x.1 = n)).map (·.2.2)
theorem NRel.at {xs : List (NestedKey × Addr × V)} {zs : List (NestedKey × Addr × Value)} (h : NRel xs zs) (n : NestedKey) : RelO (atX xs n) ((atKey zs n).map (·.2)) := by
  induction h with
  | nil => exact True.intro
  | @cons k p v u xs zs r t ih =>
    by_cases e : k = n
    · have r2 : RelO (some v) (some u) := r
      simpa [atX, atKey, e] using r2
    · simpa [atX, atKey, e] using ih
theorem dn_get {n : NestedKey} {v : V} {Q : Value → Shared → Prop} (hu : A.units + 9 < cLine) (I : Inv X pins σ H s) (hD : H D = some (DNO X.w D xs)) (hk : KeysX X.K H xs) (hn : n.depth ≤ 8) (kv : KeyV X.K H n (.ref p)) (e : atX xs n = some v)
    (h : ∀ u s', Inv X pins σ H s' → RelV v u → Q u s') : wpAny (model X.prog X.w) A (getItem (.ref D) (.ref p)) Q E s := by
  obtain ⟨z, hs, zs, r, dd⟩ := dn_dict I hD hk
  obtain ⟨u, hu2, ru⟩ := RelO.some_of (v := v) (o := (atKey zs n).map (·.2)) (by rw [← e]; exact r.at n)
  obtain ⟨q, hq, hq2⟩ := Option.map_eq_some_iff.mp hu2
  have room : (nestedKind X.prog X.w).room A.in1 := by show A.in1.units + 8 < cLine; have : A.in1.units = A.units + 1 := rfl; omega
  refine wpAny_getItem_heap room ⟨KeyV.is I kv rfl, hn⟩ dd hq ?_
  rw [hq2]
  exact h u _ (I.tok _) ru
theorem dn_in {n : NestedKey} {Q : Value → Shared → Prop} (hu : A.units + 9 < cLine) (I : Inv X pins σ H s) (hD : H D = some (DNO X.w D xs)) (hk : KeysX X.K H xs) (hn : n.depth ≤ 8) (kv : KeyV X.K H n (.ref p))
    (h : ∀ s', Inv X pins σ H s' → Q (.bool (atX xs n).isSome) s') : wpAny (model X.prog X.w) A (compareOp .In (.ref p) (.ref D)) Q E s := by
  obtain ⟨z, hs, zs, r, dd⟩ := dn_dict I hD hk
  have room : (nestedKind X.prog X.w).room A.in1 := by show A.in1.units + 8 < cLine; have : A.in1.units = A.units + 1 := rfl; omega
  refine wpAny_in_heap room ⟨KeyV.is I kv rfl, hn⟩ hs dd ?_
  have q := (r.at n).isSome_eq
  rw [Option.isSome_map] at q
  rw [← q]
  exact h _ (I.tok _)
theorem dn_new {zs : List (NestedKey × Addr × Value)} {h' : Heap} (hz : xs.length ≤ sizeLine) (hs : (D == sysModules) = false) (r : NRel xs zs) (dd : h'.DictOfH (nestedKind X.prog X.w) D zs) : DNat X.w D xs h' := by
  obtain ⟨o, es, ep, ho, hc, hd, he, _, hn⟩ := dd
  exact ⟨hz, hs, zs, r, o, es, ep, ho, hc, hd, he, hn⟩
theorem dn_set {n : NestedKey} {v : V} {u : Value} {Q : Unit → Shared → Prop} (hu : A.units + 9 < cLine) (I : Inv X pins σ H s) (hD : H D = some (DNO X.w D xs)) (hk : KeysX X.K H xs) (hl : xs.length < sizeLine) (hn : n.depth ≤ 8) (kv : KeyV X.K H n (.ref p)) (rv : RelV v u)
    (h : ∀ s', Inv X pins σ (upd H D (DNO X.w D (putX xs n p v))) s' → Q () s') : wpAny (model X.prog X.w) A (setItem (.ref D) (.ref p) u) Q E s := by
  obtain ⟨z, hs, zs, r, dd⟩ := dn_dict I hD hk
  have room : (nestedKind X.prog X.w).room A.in1 := by show A.in1.units + 8 < cLine; have : A.in1.units = A.units + 1 := rfl; omega
  refine wpAny_setItem_heap (hsz := by rw [← r.len]; exact z) room ⟨KeyV.is I kv rfl, hn⟩ dd fun h' dd' sb => h _ (d_write I (by rw [hD]; exact True.intro) sb ?_ (dn_ok (dn_new (by have := putX_len xs n p v; omega) hs (r.put n p rv) dd')))
  obtain ⟨o, _, _, ho, _⟩ := dd'
  exact ⟨o, ho⟩
theorem dn_put {n : NestedKey} {v : V} {u : Value} {Q : Unit → Shared → Prop} (hu : A.units + 9 < cLine) (I : Inv X pins σ H s) (hD : H D = some (DNO X.w D xs)) (hk : KeysX X.K H xs) (hl : xs.length < sizeLine) (hn : n.depth ≤ 8) (kv : KeyV X.K H n (.ref p)) (rv : RelV v u)
    (h : ∀ s', Inv X pins σ (upd H D (DNO X.w D (putX xs n p v))) s' → Q () s') : wpAny (model X.prog X.w) A (dictSet D (.ref p) u) Q E s := by
  obtain ⟨z, hs, zs, r, dd⟩ := dn_dict I hD hk
  have room : (nestedKind X.prog X.w).room A := by show A.units + 8 < cLine; omega
  refine wpAny_dictSet_heap (hsz := by rw [← r.len]; exact z) room ⟨KeyV.is I kv rfl, hn⟩ dd fun h' dd' sb => h _ (d_write I (by rw [hD]; exact True.intro) sb ?_ (dn_ok (dn_new (by have := putX_len xs n p v; omega) hs (r.put n p rv) dd')))
  obtain ⟨o, _, _, ho, _⟩ := dd'
  exact ⟨o, ho⟩
theorem dn_empty {P : Program} {w : World} {H : Hp} (h : Heap) (hb : sysModules < h.objs.size) : ObjOk P w H (h.push { cls := .type "dict", data := .dict #[] }) h.objs.size (DNO w h.objs.size []) :=
  dn_ok ⟨Nat.zero_le _, beq_eq_false_iff_ne.mpr (Ne.symm (Nat.ne_of_lt hb)), [], .nil, _, #[], 0, Heap.get?_push_size _ rfl, ⟨rfl, rfl, rfl⟩, rfl, rfl, List.nodup_nil⟩
theorem dn_len {Q : Value → Shared → Prop} (I : Inv X pins σ H s) (hD : H D = some (DNO X.w D xs)) (hk : KeysX X.K H xs) (h : ∀ t s', Inv X pins σ H s' → Q (.int xs.length t) s') : wpAny (model X.prog X.w) A (call (.builtin "len") [.ref D]) Q E s := by
  obtain ⟨z, hs, zs, r, dd⟩ := dn_dict I hD hk
  refine call_len_dictH hs dd (by rw [← r.len]; rw [sizeLine_eq] at z; omega) ?_
  rw [← r.len]
  exact h _ _ (I.tok _)
end
/-! ### as data -/
def lookN (n : NestedKey) : List (Da × Da) → Option Da
  | [] => none
  | (k, d) :: l => if nkD k = some n then some d else lookN n l
def hasN (n : NestedKey) : List (Da × Da) → Bool
  | [] => false
  | (k, d) :: l => decide (nkD k = some n) || hasN n l
def setN (n : NestedKey) (v : Da) : List (Da × Da) → List (Da × Da)
  | [] => []
  | (k, d) :: l => (if nkD k = some n then (k, v) else (k, d)) :: setN n v l
def putN (kd : Da) (n : NestedKey) (v : Da) (l : List (Da × Da)) : List (Da × Da) := if hasN n l = true then setN n v l else l ++ [(kd, v)]
section
variable {G : Gc} {W : Wd}
theorem RepN.len {l : List (Da × Da)} {xs : List (NestedKey × Addr × V)} (h : RepN G W l xs) : l.length = xs.length := by
  induction h with
  | nil => rfl
  | cons _ _ _ _ _ ih => simp [ih]
theorem RepN.look {l : List (Da × Da)} {xs : List (NestedKey × Addr × V)} (h : RepN G W l xs) {n : NestedKey} {d : Da} (e : lookN n l = some d) : ∃ v, atX xs n = some v ∧ Rep G W d v := by
  induction h with
  | nil => cases e
  | @cons k d' n' p v l xs hk hd rk rd t ih =>
    unfold lookN at e
    by_cases q : n' = n
    · rw [if_pos (by rw [hk, q])] at e
      cases e
      exact ⟨v, by simp [atX, q], rd⟩
    · rw [if_neg (by rw [hk]; simpa using q)] at e
      obtain ⟨v2, h1, h2⟩ := ih e
      exact ⟨v2, by simpa [atX, q] using h1, h2⟩
theorem RepN.has {l : List (Da × Da)} {xs : List (NestedKey × Addr × V)} (h : RepN G W l xs) (n : NestedKey) : hasN n l = (xs.any fun x => decide (x.1 = n)) := by
  induction h with
  | nil => rfl
  | @cons k d' n' p v l xs hk hd rk rd t ih =>
    unfold hasN
    rw [List.any_cons, ih, hk]
    congr 1
    simp
theorem any_at {xs : List (NestedKey × Addr × V)} {n : NestedKey} : (xs.any fun x => decide (x.1 = n)) = (atX xs n).isSome := by
  induction xs with
  | nil => rfl
  | cons x xs ih =>
    by_cases e : x.1 = n
    · simp [atX, e]
    · simpa [atX, e] using ih
theorem RepN.set {l : List (Da × Da)} {xs : List (NestedKey × Addr × V)} (h : RepN G W l xs) {n : NestedKey} {d : Da} {v : V} (r : Rep G W d v) : RepN G W (setN n d l) (xs.map fun x => if x.1 = n then (x.1, x.2.1, v) else x) := by
  induction h with
  | nil => exact .nil
  | @cons k d' n' p v' l xs hk hd rk rd t ih =>
    unfold setN
    rw [List.map_cons]
    by_cases q : n' = n
    · rw [if_pos (by rw [hk, q]), if_pos q]
      exact .cons hk hd rk r ih
    · rw [if_neg (by rw [hk]; simpa using q), if_neg q]
      exact .cons hk hd rk rd ih
theorem RepN.snoc {l : List (Da × Da)} {xs : List (NestedKey × Addr × V)} (h : RepN G W l xs) {k d : Da} {n : NestedKey} {p : Addr} {v : V} (hk : nkD k = some n) (hd : n.depth ≤ 8) (rk : Rep G W k (.ref p)) (rd : Rep G W d v) : RepN G W (l ++ [(k, d)]) (xs ++ [(n, p, v)]) := by
  induction h with
  | nil => exact .cons hk hd rk rd .nil
  | cons hk' hd' rk' rd' _ ih => exact .cons hk' hd' rk' rd' ih
theorem RepN.put {l : List (Da × Da)} {xs : List (NestedKey × Addr × V)} (h : RepN G W l xs) {k d : Da} {n : NestedKey} {p : Addr} {v : V} (hk : nkD k = some n) (hd : n.depth ≤ 8) (rk : Rep G W k (.ref p)) (rd : Rep G W d v) : RepN G W (putN k n d l) (putX xs n p v) := by
  unfold putN putX
  rw [h.has n]
  split
  · exact h.set rd
  · exact h.snoc hk hd rk rd
theorem RepN.keys {l : List (Da × Da)} {xs : List (NestedKey × Addr × V)} (h : RepN G W l xs) {K : PySem.W.Frag} {H : Hp} (hK : G.K = K) (sub : ∀ a o, W.F a = some o → H a = some o) : KeysX K H xs := by
  subst hK
  induction h with
  | nil => intro x hx; cases hx
  | @cons k d' n' p v' l xs hk hd rk rd t ih =>
    intro x hx
    rcases (List.mem_cons.mp hx) with rfl | hx
    · exact ⟨hd, (Rep.key rk hk).mono sub⟩
    · exact ih x hx
theorem putN_len (kd : Da) (n : NestedKey) (v : Da) (l : List (Da × Da)) : (putN kd n v l).length ≤ l.length + 1 := by
  have e : ∀ l, (setN n v l).length = l.length := fun l => by
    induction l with
    | nil => rfl
    | cons x l ih => simp [setN, ih]
  unfold putN
  split
  · rw [e]; omega
  · simp
end
/-- a key that is a tuple -/
def tupKey : Da → Option NestedKey
  | .tup l => match nkD (.tup l) with
    | some n => if n.depth ≤ 8 then some n else none
    | none => none
  | _ => none
theorem tupKey_some {d : Da} {n : NestedKey} (h : tupKey d = some n) : (∃ l, d = .tup l) ∧ nkD d = some n ∧ n.depth ≤ 8 := by
  cases d with
  | tup l =>
    unfold tupKey at h
    dsimp only at h
    split at h
    · rename_i m e
      split at h
      · cases h; exact ⟨⟨l, rfl⟩, e, ‹_›⟩
      · cases h
    · cases h
  | _ => cases h
/-- a dict at the cell j -/
def dctN (S : Store) : Da → Option (Nat × List (Da × Da))
  | .cell j => match S[j]? with
    | some (.dN l) => some (j, l)
    | _ => none
  | _ => none
theorem dctN_some {S : Store} {d : Da} {j : Nat} {l : List (Da × Da)} (h : dctN S d = some (j, l)) : d = .cell j ∧ S[j]? = some (.dN l) := by
  cases d with
  | cell i =>
    unfold dctN at h
    dsimp only at h
    split at h
    · rename_i l' e
      cases h
      exact ⟨rfl, e⟩
    · cases h
  | _ => cases h
def dgetD : Da → Da → Store → Option Da := fun o i S => match dctN S o with
  | some (_, l) => (tupKey i).bind fun n => lookN n l
  | none => none
def dinD : Da → Da → Store → Option Da := fun i o S => match dctN S o with
  | some (_, l) => (tupKey i).map fun n => .bl (hasN n l)
  | none => none
def dlenD : List Da → Store → Option Da
  | [d], S => (dctN S d).map fun jl => .int (jl.2.length : Nat)
  | _, _ => none
def dputS (fo fi fe : M Da) : MS := fun ρ S => (fe ρ S).thenS ρ fun v S1 => (fo ρ S1).thenS ρ fun o S2 => (fi ρ S2).thenS ρ fun i S3 => match dctN S3 o with
  | some (j, l) => match tupKey i with
    | some n => if l.length < 16000000 then .nx ρ (S3.set j (.dN (putN i n v l))) else .bad
    | none => .bad
  | none => .bad
def dnewM : M Da := fun _ S => .ok (.cell S.length) (S ++ [.dN []])
section
variable {X : Cx} {G : Gc} {Wx : WX}
theorem SR.dN {W : Wd} {H : Hp} {S : Store} {d : Da} {v : V} {j : Nat} {l : List (Da × Da)} (s : SR G W H S) (r : Rep G W d v) (h : dctN S d = some (j, l)) : ∃ a xs, v = .ref a ∧ W.ι[j]? = some a ∧ H a = some (DNO G.w a xs) ∧ RepN G W l xs := by
  obtain ⟨rfl, e⟩ := dctN_some h
  obtain ⟨a, ha, rfl⟩ := r.cell_inv
  obtain ⟨b, hb, xs, q1, q2⟩ := s.cell j _ e
  rw [ha] at hb; cases hb
  exact ⟨a, xs, rfl, ha, q1, q2⟩
theorem tupKey_rep {W : Wd} {H : Hp} {S : Store} {d : Da} {v : V} {n : NestedKey} (s : SR G W H S) (r : Rep G W d v) (h : tupKey d = some n) (hK : G.K = X.K) : ∃ p, v = .ref p ∧ n.depth ≤ 8 ∧ KeyV X.K H n (.ref p) := by
  obtain ⟨⟨l, rfl⟩, h2, h3⟩ := tupKey_some h
  have k := (Rep.key r h2).mono s.sub
  obtain ⟨a, vs, rfl, _, _⟩ := r.tup_inv
  exact ⟨a, rfl, h3, by rw [← hK]; exact k⟩
theorem ir_dN (hw : G.w = X.w) (hu : X.A.units + 64 < cLine) (hK : G.K = X.K := by rfl) : IxR X (rd2 G dgetD) := by
  rintro value slice pins s σ H x y v u Q I rx ry ⟨W, S, a, b, sr, r1, r2, q⟩ hs
  unfold dgetD at q
  cases e : dctN S a with
  | none => rw [e] at q; exact q.elim
  | some jl =>
    obtain ⟨j, l⟩ := jl
    rw [e] at q
    cases e2 : tupKey b with
    | none => simp only [e2] at q; exact q.elim
    | some n =>
      simp only [e2, Option.bind] at q
      cases e3 : lookN n l with
      | none => rw [e3] at q; exact q.elim
      | some d =>
        rw [e3] at q
        obtain ⟨D, xs, rfl, hj, hD, rn⟩ := sr.dN r1 e
        rw [hw] at hD
        obtain ⟨p, rfl, hn, kv⟩ := tupKey_rep (X := X) sr r2 e2 hK
        obtain ⟨w, hv, rd⟩ := rn.look e3
        obtain rfl : v = Value.ref D := rx
        obtain rfl : u = Value.ref p := ry
        refine tail_any (dn_type I hD) PySem.F.slot_dict_getitem.lookup ?_ hs
        exact dn_get (by omega) I hD (rn.keys hK sr.sub) hn kv hv fun u2 s2 I2 ru => ⟨w, H, I2, ru, q.here sr rd⟩
theorem or_inN (hw : G.w = X.w) (hu : X.A.units + 64 < cLine) (hK : G.K = X.K := by rfl) : OpR X (compareOp .In) (rd2 G dinD) := by
  rintro pins s σ H x y v u Q I rx ry ⟨W, S, a, b, sr, r1, r2, q⟩
  unfold dinD at q
  cases e : dctN S b with
  | none => rw [e] at q; exact q.elim
  | some jl =>
    obtain ⟨j, l⟩ := jl
    rw [e] at q
    cases e2 : tupKey a with
    | none => simp only [e2] at q; exact q.elim
    | some n =>
      simp only [e2, Option.map] at q
      obtain ⟨D, xs, rfl, hj, hD, rn⟩ := sr.dN r2 e
      rw [hw] at hD
      obtain ⟨p, rfl, hn, kv⟩ := tupKey_rep (X := X) sr r1 e2 hK
      obtain rfl : u = Value.ref D := ry
      obtain rfl : v = (Value.ref p) := rx
      refine dn_in (by omega) I hD (rn.keys hK sr.sub) hn kv fun s2 I2 => ⟨.bl (atX xs n).isSome, H, I2, rfl, ?_⟩
      rw [← any_at, ← rn.has n]
      exact q.here sr (repB W _)
theorem cr_dlen (hw : G.w = X.w) (hK : G.K = X.K := by rfl) : CallR X (.builtin "len") (rdn G dlenD) := by
  rintro pins s σ H xs us Q I r ⟨W, S, l, sr, rs, q⟩
  match l, rs, q with
  | [], rs, q => exact q.elim
  | _ :: _ :: _, rs, q => exact q.elim
  | [d], rs, q =>
    have q : AftO G W H S ((dctN S d).map fun jl => .int (jl.2.length : Nat)) Q := q
    cases e : dctN S d with
    | none => rw [e] at q; exact q.elim
    | some jl =>
      obtain ⟨j, l⟩ := jl
      rw [e] at q
      obtain ⟨v, rfl, rv⟩ := rs.one
      obtain ⟨D, xs, rfl, hj, hD, rn⟩ := sr.dN rv e
      rw [hw] at hD
      obtain ⟨u0, rfl, ru⟩ := vals1 r
      obtain rfl : u0 = Value.ref D := ru
      refine dn_len I hD (rn.keys hK sr.sub) fun t s2 I2 => ⟨.int (xs.length : Nat), H, I2, ⟨_, rfl⟩, ?_⟩
      have q2 : AftO G W H S (some (.int (l.length : Nat))) Q := q
      rw [rn.len] at q2
      exact q2.here sr (repI W _)
theorem pd_dnew {pos : Pos} (hw : G.w = X.w) : PE X (.Dict [] [] pos) (tM G Wx dnewM) := ⟨fun pins s σ H Q I ⟨W, S, ρ, sr, r, q⟩ => by
  have hn : H s.heap.objs.size = none := (I.hok).fresh (Nat.le_refl _)
  refine wpAny_Dict_empty ⟨.ref s.heap.objs.size, _, I.laid (a := s.heap.objs.size) (o := DNO X.w s.heap.objs.size []) (t' := s.toks) (fun _ _ q => Heap.get?_push_of_some _ q) (Nat.le_refl _) (dn_empty s.heap I.big), rfl, ?_⟩
  obtain ⟨x1, s1⟩ := Ext.add sr (o := DNO X.w s.heap.objs.size []) hn
  obtain ⟨x2, s2⟩ := Ext.cel (c := .dN []) s1 x1 hn ⟨[], by rw [hw]; exact upd_same, .nil⟩ (sr.notin hn) (sr.Fnone hn)
  refine q (.ref s.heap.objs.size) _ _ x2 s2 ?_
  show Rep G _ (.cell S.length) (.ref s.heap.objs.size)
  rw [Rep]
  refine ⟨_, ?_, rfl⟩
  show (W.ι ++ [s.heap.objs.size])[S.length]? = some s.heap.objs.size
  rw [← sr.len, List.getElem?_append_right (Nat.le_refl _), Nat.sub_self]; rfl⟩
theorem psd_dput {o i value : Expr} {fo fi fe : M Da} {pos pos' : Pos} (hw : G.w = X.w) (hu : X.A.units + 64 < cLine) (ho : PE X o (tM G Wx fo)) (hi : PE X i (tM G Wx fi)) (hv : PE X value (tM G Wx fe)) (hs : swapsWith value (some (.Subscript o i pos')) pos.line X.env = pure false := by rfl) (hK : G.K = X.K := by rfl) :
    PS X (.Assign [.Subscript o i pos'] value pos) (tS G Wx (dputS fo fi fe)) := by
  refine ⟨fun pins s σ H D I ⟨W, S, ρ, sr, re, q⟩ => ?_⟩
  refine wpAny_Assign_Subscript (thn (hv.run pins s σ H (fun v H1 => ∃ W1 S1 d, Ext W H W1 H1 ∧ SR G W1 H1 S1 ∧ Rep G W1 d v ∧ AftS G Wx W1 H1 ((fo ρ S1).thenS ρ fun o S2 => (fi ρ S2).thenS ρ fun i S3 => match dctN S3 o with
      | some (j, l) => match tupKey i with
        | some n => if l.length < 16000000 then .nx ρ (S3.set j (.dN (putN i n d l))) else .bad
        | none => .bad
      | none => .bad) D) I ⟨W, S, ρ, sr, re, q.bind re fun d S1 v W1 H1 x1 s1 q1 k1 => ⟨W1, S1, d, x1, s1, q1, k1⟩⟩) fun r s1 ⟨v, H1, I1, rv, W1, S1, d, x1, sr1, rd, q1⟩ => ?_) hs
  have re1 := re.mono x1.le
  refine thn (ho.run pins s1 σ H1 (fun v2 H2 => ∃ W2 S2 d2, Ext W1 H1 W2 H2 ∧ SR G W2 H2 S2 ∧ Rep G W2 d2 v2 ∧ AftS G Wx W2 H2 ((fi ρ S2).thenS ρ fun i S3 => match dctN S3 d2 with
      | some (j, l) => match tupKey i with
        | some n => if l.length < 16000000 then .nx ρ (S3.set j (.dN (putN i n d l))) else .bad
        | none => .bad
      | none => .bad) D) I1 ⟨W1, S1, ρ, sr1, re1, q1.bind re1 fun d2 S2 v2 W2 H2 x2 s2 q2 k2 => ⟨W2, S2, d2, x2, s2, q2, k2⟩⟩) fun u s2 ⟨v2, H2, I2, ru, W2, S2, d2, x2, sr2, rd2, q2⟩ => ?_
  have re2 := re1.mono x2.le
  refine thn (hi.run pins s2 σ H2 (fun v3 H3 => ∃ W3 S3 d3, Ext W2 H2 W3 H3 ∧ SR G W3 H3 S3 ∧ Rep G W3 d3 v3 ∧ AftS G Wx W3 H3 (match dctN S3 d2 with
      | some (j, l) => match tupKey d3 with
        | some n => if l.length < 16000000 then .nx ρ (S3.set j (.dN (putN d3 n d l))) else .bad
        | none => .bad
      | none => .bad) D) I2 ⟨W2, S2, ρ, sr2, re2, q2.bind re2 fun d3 S3 v3 W3 H3 x3 s3 q3 k3 => ⟨W3, S3, d3, x3, s3, q3, k3⟩⟩) fun iv s3 ⟨v3, H3, I3, ri, W3, S3, d3, x3, sr3, rd3, q3⟩ => ?_
  cases e : dctN S3 d2 with
  | none => rw [e] at q3; exact q3.elim
  | some jl =>
    obtain ⟨j, l⟩ := jl
    rw [e] at q3
    dsimp only at q3
    cases e2 : tupKey d3 with
    | none => rw [e2] at q3; exact q3.elim
    | some n =>
      rw [e2] at q3
      dsimp only at q3
      by_cases hl : l.length < 16000000
      case neg => rw [if_neg hl] at q3; exact q3.elim
      rw [if_pos hl] at q3
      obtain ⟨A, xs, rfl, hj, hA, rn⟩ := sr3.dN (rd2.mono x3.le) e
      rw [hw] at hA
      obtain ⟨p, rfl, hn, kv⟩ := tupKey_rep (X := X) sr3 rd3 e2 hK
      obtain ⟨_, hk2, _⟩ := tupKey_some e2
      obtain rfl : u = Value.ref A := ru
      obtain rfl : iv = Value.ref p := ri
      have le13 := x2.le.trans x3.le
      refine dn_set (by omega) I3 hA (rn.keys hK sr3.sub) (by rw [← rn.len, sizeLine_eq]; omega) hn kv rv fun s4 I4 => ?_
      obtain ⟨s5, x5⟩ := sr3.write (c := .dN (putN d3 n d l)) (o := DNO X.w A (putX xs n p v)) hj ⟨_, by rw [hw]; exact upd_same, rn.put hk2 hn rd3 (rd.mono le13)⟩
      exact ⟨σ, _, I4, q3 σ _ _ x5 s5 (re2.mono (x3.le))⟩
end
end NL

set_option Elab.async false
set_option linter.all false
set_option autoImplicit false
set_option maxRecDepth 100000
set_option maxHeartbeats 4100000
namespace NL
open PySem PySem.Spec PyProof.Rows L2
/-! ### dict comprehensions whose keys are tuples -/
/-- D[y] = z, in the comprehension's turn -/
def PutN (w : World) (K : PySem.W.Frag) (D : Addr) (y z : V) (H5 : Hp) (Nx : Hp → Prop) : Prop := ∃ xs n p, y = .ref p ∧ H5 D = some (DNO w D xs) ∧ xs.length < sizeLine ∧ n.depth ≤ 8 ∧ KeyV K H5 n (.ref p) ∧ KeysX K H5 xs ∧ Nx (upd H5 D (DNO w D (putX xs n p z)))
def tDn (w : World) (K : PySem.W.Frag) (wi : TI) (g : TG) (tt : TT) (tk tv : TE) (vs : List Nat) : TE := fun σ H Q => wi σ H fun J H1 => ∀ D, H1 D = none → ∃ Wn : Nat → Nat → Hp → Prop, (∃ m, Wn 0 m (upd H1 D (DNO w D []))) ∧ ∀ i m H, Wn i m H →
  (J.stop i H ∧ Q (.ref D) H) ∨ (J.go i H ∧ ∃ Nx : Hp → Prop, (∀ H', Nx H' → ∃ m', m' < m ∧ Wn (i + 1) m' H') ∧ ∀ x H', J.yld i H x H' → g x (wipe σ vs) H' fun σ2 H2 => wipe σ2 vs = wipe σ vs ∧ tt σ2 H2 fun b H3 =>
    if b = true then tk σ2 H3 fun y H4 => tv σ2 H4 fun z H5 => PutN w K D y z H5 Nx else Nx H3)
section
variable {X : Cx}
theorem dn_core {pins : List (Addr × Obj)} {s : Shared} {σ : L2.St} {H : Hp} {Q : VK} {kx vx tg iter : Expr} {ifs : List Expr} {scope : Scope} {own : List (Str × Nat)} {pos pos' : Pos} {wi : TI} {g : TG} {tt : TT} {tk tv : TE} {use : Option (Value → Sem Unit)} {Qf : Value → Shared → Prop}
    (hu : X.A.units + 64 < cLine) (hc : X.calm = true) (hN : X.N.Nodup) (I : Inv X pins σ H s) (hi : PI X tg iter wi) (ok : BlkOk X.N X.env.scope scope own)
    (hg : ∀ (s : Shared) (H : Hp) (C : Addr) (cl : List (Str × Addr)) (fp : List Addr), PG (X.blk s H scope (compEnvC scope cl C X.env) fp) tg (g)) (ht : ∀ (s : Shared) (H : Hp) (C : Addr) (cl : List (Str × Addr)) (fp : List Addr), PTs (X.blk s H scope (compEnvC scope cl C X.env) fp) ifs tt)
    (hk : ∀ (s : Shared) (H : Hp) (C : Addr) (cl : List (Str × Addr)) (fp : List Addr), PE (X.blk s H scope (compEnvC scope cl C X.env) fp) kx tk) (he : ∀ (s : Shared) (H : Hp) (C : Addr) (cl : List (Str × Addr)) (fp : List Addr), PE (X.blk s H scope (compEnvC scope cl C X.env) fp) vx tv)
    (hs : ∀ x, foldedSetIterable iter X.env x = pure x) (h : tDn X.w X.K wi g tt tk tv (own.map (·.2)) σ H Q)
    (hRR : ∀ D C s1 m H1, Inv X pins σ H1 s1 → Q (.ref D) H1 → s1.heap.Ns C m → FpOk X pins H1 C → compPost (model X.prog X.w) X.A X.xe use Qf (.ref D) C (.ok .next) s1) :
    wpAny (model X.prog X.w) X.A (comprehension (Expr.DictComp kx vx [⟨tg, iter, ifs, 0⟩] scope pos) scope X.env pos' newDict false (eval iter X.env) use) Qf X.xe s := by
  have free : ∀ y ∈ scope.names, y.2 = .free → ∃ c, X.env.cells.lookup y.1 = some c := fun y hy e => (ok.free y hy e).elim (fun k => I.ok.has _ (.inl k)) fun k => I.ok.has _ (.inr k)
  refine wpAny_comprehension_free (use := use) rfl hs (closure_ok free) ok.kind (fun y hy e => by rw [ok.uniq y hy, e]) (thn (hi.run pins s σ H _ I h) fun xv sa hx => thn hx fun itv sb hb => ?_)
  obtain ⟨it, fp, tn, J, Hb, e, Ib, T, stb, fb, q⟩ := hb
  subst e
  refine wpAny_newObj_type (A := X.A) (newEnv_comp ?_)
  generalize hD : sb.heap.objs.size = D
  have nD : Hb D = none := Ib.hok.fresh (Nat.le_of_eq hD)
  obtain ⟨Wn, ⟨m0, w0⟩, turn⟩ := q D nD
  generalize hsc : ({ sb with heap := sb.heap.push { cls := .type "dict", data := .dict #[] } } : Shared) = sc
  have hcH : sc.heap = sb.heap.push { cls := .type "dict", data := .dict #[] } := by rw [← hsc]
  have Ic : Inv X pins σ (upd Hb D (DNO X.w D [])) sc := by
    rw [← hsc]
    refine Ib.laid (t' := sb.toks) (fun b o e => Heap.get?_push_of_some _ e) (Nat.le_of_eq hD) ?_
    rw [← hD]
    exact dn_empty sb.heap Ib.big
  have low : ∀ b ∈ fp, b < sb.heap.objs.size := fun b hm => by
    obtain ⟨o, e, _⟩ := T.obj _ _ stb b hm
    exact Heap.lt_size e
  have fc : ∀ b ∈ fp, FpOk X pins (upd Hb D (DNO X.w D [])) b ∧ b < sc.heap.objs.size := fun b hm => by
    have lt := low b hm
    have ne : b ≠ D := by rw [← hD]; exact Nat.ne_of_lt lt
    exact ⟨⟨by rw [upd_ne ne]; exact (fb b hm).1, (fb b hm).2⟩, by rw [hcH, Heap.size_push]; exact Nat.lt_succ_of_lt lt⟩
  have stc : tn 0 sc.heap := T.keep _ _ _ stb fun b _ o e => by rw [hcH]; exact Heap.get?_push_of_some _ e
  have Id := block_start Ic ok hN fc
  generalize hL : sc.heap.objs.size = L at Id
  have pg := hg sc (upd Hb D (DNO X.w D [])) L (cellsFrom (L + 1) scope.names (cloFrom X.env.cells scope.names [])) fp
  have pt := ht sc (upd Hb D (DNO X.w D [])) L (cellsFrom (L + 1) scope.names (cloFrom X.env.cells scope.names [])) fp
  have pk := hk sc (upd Hb D (DNO X.w D [])) L (cellsFrom (L + 1) scope.names (cloFrom X.env.cells scope.names [])) fp
  have pe := he sc (upd Hb D (DNO X.w D [])) L (cellsFrom (L + 1) scope.names (cloFrom X.env.cells scope.names [])) fp
  subst hL
  show codeAny _ _ (.compStart (.DictComp kx vx [⟨tg, iter, ifs, 0⟩] scope pos) 0 (.ref it) (.ref D) (compEnvC scope (cellsFrom (sc.heap.objs.size + 1) scope.names (cloFrom X.env.cells scope.names [])) sc.heap.objs.size X.env)) (compPost (model X.prog X.w) X.A X.xe use Qf (.ref D) sc.heap.objs.size) { sc with heap := pushCells (sc.heap.push { cls := .type "dict", data := .dict #[] }) scope.names }
  have nfp : ∀ b ∈ fp, (upd Hb D (DNO X.w D [])) b = none := fun b hm => (fc b hm).1.1
  generalize hce : compEnvC scope (cellsFrom (sc.heap.objs.size + 1) scope.names (cloFrom X.env.cells scope.names [])) sc.heap.objs.size X.env = ce at Id pg pt pk pe ⊢
  have locE : ce.locals = sc.heap.objs.size := by rw [← hce] <;> rfl
  generalize hHc : upd Hb D (DNO X.w D []) = Hc at Ic Id pg pt pk pe w0 nfp fc
  generalize hsd : ({ sc with heap := pushCells (sc.heap.push { cls := .type "dict", data := .dict #[] }) scope.names } : Shared) = sd at Id ⊢
  have std : tn 0 sd.heap := T.keep _ _ _ stc fun b _ o e => by rw [← hsd]; exact pushCells_keeps _ _ _ _ (Heap.get?_push_of_some _ e)
  have still : ∀ {σ1 : L2.St} {H1 : Hp} {s1 : Shared}, Inv (X.blk sc Hc scope ce fp) [] σ1 H1 s1 → (∀ b ∈ fp, H1 b = none) → ∀ b ∈ fp, FpOk (X.blk sc Hc scope ce fp) [] H1 b := fun {σ1 H1 s1} I1 hn b hm =>
    ⟨hn b hm, (I1.ok.exf b hm).1, I1.ok.exfs b hm, .inl hm, fun x c e => (I1.ok.exf b hm).2 x c e, fun p hp => absurd (show p ∈ ([] : List (Addr × Obj)) ++ [] from hp) (by simp)⟩
  have loop : codeAny (model X.prog X.w) X.A (.compLoop (.DictComp kx vx [⟨tg, iter, ifs, 0⟩] scope pos) 0 (.ref it) (.ref D) ce) (compPost (model X.prog X.w) X.A X.xe use Qf (.ref D) sc.heap.objs.size) sd := by
    refine compLoop_anyD (fun n s1 => ∃ i H1, Inv (X.blk sc Hc scope ce fp) [] (wipe σ (own.map (·.2))) H1 s1 ∧ tn i s1.heap ∧ (∀ b ∈ fp, H1 b = none) ∧ Wn i n H1) ?_ m0 ⟨0, Hc, Id, std, nfp, w0⟩
    rintro n se ⟨i, He, Ie, ste, nfe, we⟩
    rcases turn i n He we with ⟨stop, qq⟩ | ⟨go, Nx, hNx, step⟩
    · refine thnF (T.done (X.blk sc Hc scope ce fp) rfl rfl rfl hc i [] se _ He (fun _ _ => False) Ie (still Ie nfe) ste stop) fun r sf ⟨hr, If⟩ => ?_
      subst hr
      have Ig : Inv X pins σ He sf := Ic.call' (ch := fp) If.os If.base If.hok If.bare fun b hm => ⟨(fc b hm).1.2.2.2.1, (fc b hm).1.2.1, (fc b hm).1.2.2.2.2.1, (fc b hm).1.2.2.2.2.2⟩
      have nL : He sc.heap.objs.size = none := by rw [← locE]; exact If.free
      obtain ⟨m, hn, _⟩ := If.loc
      have hn : sf.heap.Ns sc.heap.objs.size m := by rw [← locE]; exact hn
      exact hRR D sc.heap.objs.size sf m He Ig qq hn (Ic.fpOk (Nat.le_refl _) nL)
    · refine thnF (T.item (X.blk sc Hc scope ce fp) rfl rfl rfl hc i [] se _ He (fun _ _ => False) Ie (still Ie nfe) ste go) fun r sf ⟨u, hr, hf⟩ => ?_
      subst hr
      refine thnF hf fun _ sg ⟨x, Hg, Ig, rg, yg, stg, nfg⟩ => ?_
      have Ip := Ig.pinned (still Ig nfg) (T.obj _ _ stg)
      refine thnF (pg.run _ sg _ Hg x u _ Ip rg (step x Hg yg)) fun _ sh ⟨σh, Hh, Ih, hwh, qh⟩ => ?_
      refine thnF (pt.run _ sh σh Hh _ Ih qh) fun b si ⟨Hi, Ii, qi⟩ => ?_
      have fin : ∀ {s1 : Shared} {H1 : Hp}, Inv (X.blk sc Hc scope ce fp) ([] ++ pinsAt fp sg.heap) σh H1 s1 → Nx H1 → ∃ m, m < n ∧ ∃ i H1, Inv (X.blk sc Hc scope ce fp) [] (wipe σ (own.map (·.2))) H1 s1 ∧ tn i s1.heap ∧ (∀ b ∈ fp, H1 b = none) ∧ Wn i m H1 := fun {s1 H1} I1 nx => by
        obtain ⟨m1, hm, w1⟩ := hNx H1 nx
        have pinned : ∀ b ∈ fp, ∀ o, sg.heap.get? b = some o → s1.heap.get? b = some o ∧ H1 b = none := fun b hb o e => by
          have z := I1.pin (b, o) (List.mem_append_right _ (List.mem_append_right _ (mem_pinsAt hb e)))
          exact ⟨z.1, z.2.1⟩
        have ln : (wipe σ (own.map (·.2))).length = σh.length := (congrArg List.length hwh).symm.trans (wipe_length _ _)
        refine ⟨m1, hm, i + 1, H1, (I1.unpinned (pins := [])).weak ln (fun j v e => ?_), T.keep _ _ _ stg fun b hb o e => (pinned b hb o e).1, fun b hb => ?_, w1⟩
        · rw [← hwh] at e
          exact (wipe_some e).1
        · obtain ⟨o, e, _⟩ := T.obj _ _ stg b hb
          exact (pinned b hb o e).2
      cases b with
      | false =>
        simp only [Bool.false_eq_true, if_false] at qi ⊢
        exact fin Ii qi
      | true =>
        simp only [if_true] at qi ⊢
        refine thnF (pk.run _ si σh Hi _ Ii qi) fun z sj ⟨yk, Hj, Ij, rj, qj⟩ => ?_
        refine thnF (pe.run _ sj σh Hj _ Ij qj) fun z2 sk ⟨yv, Hk, Ik, rk, xs, nk, p, ek, hDk, hlk, hnk, kvk, kxs, nx⟩ => ?_
        subst ek
        obtain rfl : z = Value.ref p := rj
        exact dn_put (X := X.blk sc Hc scope ce fp) (A := X.A) (by omega) Ik hDk kxs hlk hnk kvk rk fun sl Il => fin Il nx
  exact codeAny_compStart_dict loop (T.self X.A 0 _ _ _ std loop)
theorem pe_dn {kx vx tg iter : Expr} {ifs : List Expr} {scope : Scope} {own : List (Str × Nat)} {pos : Pos} {wi : TI} {g : TG} {tt : TT} {tk tv : TE} (hu : X.A.units + 64 < cLine) (hc : X.calm = true) (hN : X.N.Nodup) (hi : PI X tg iter wi) (ok : BlkOk X.N X.env.scope scope own)
    (hg : ∀ (s : Shared) (H : Hp) (C : Addr) (cl : List (Str × Addr)) (fp : List Addr), PG (X.blk s H scope (compEnvC scope cl C X.env) fp) tg (g)) (ht : ∀ (s : Shared) (H : Hp) (C : Addr) (cl : List (Str × Addr)) (fp : List Addr), PTs (X.blk s H scope (compEnvC scope cl C X.env) fp) ifs tt)
    (hk : ∀ (s : Shared) (H : Hp) (C : Addr) (cl : List (Str × Addr)) (fp : List Addr), PE (X.blk s H scope (compEnvC scope cl C X.env) fp) kx tk) (he : ∀ (s : Shared) (H : Hp) (C : Addr) (cl : List (Str × Addr)) (fp : List Addr), PE (X.blk s H scope (compEnvC scope cl C X.env) fp) vx tv) (hs : ∀ x, foldedSetIterable iter X.env x = pure x := by intro _; rfl) :
    PE X (.DictComp kx vx [⟨tg, iter, ifs, 0⟩] scope pos) (tDn X.w X.K wi g tt tk tv (own.map (·.2))) := by
  refine ⟨fun pins s σ H Q I h => ?_⟩
  rw [arm_eval_DictComp]
  refine dn_core hu hc hN I hi ok hg ht hk he hs h fun D C s1 m H1 I1 q hn f => ⟨m, hn, fun h2 sb => ?_⟩
  obtain ⟨g0, g1, g2, g3, g4, g5⟩ := f
  exact ⟨.ref D, H1, I1.turned (t' := s1.toks) (fun b o hb e => (sb.2 b hb).trans e) g0 g1 g3 g4 g5, rfl, q⟩
end
/-- the turns of a dict comprehension -/
def dcL (tg : Tg) (cond : M Bool) (key val : M Da) (ρ : En) : List Da → List (Da × Da) → Store → Option (List (Da × Da) × Store)
  | [], acc, S => some (acc, S)
  | d :: ds, acc, S => match bindT tg d ρ with
    | none => none
    | some ρ1 => match cond ρ1 S with
      | .ok true S1 => match key ρ1 S1 with
        | .ok k S2 => match val ρ1 S2 with
          | .ok v S3 => match tupKey k with
            | some n => dcL tg cond key val ρ ds (putN k n v acc) S3
            | none => none
          | _ => none
        | _ => none
      | .ok false S1 => dcL tg cond key val ρ ds acc S1
      | _ => none
def celN : Option (List (Da × Da) × Store) → Res Da
  | some (l, S) => .ok (.cell S.length) (S ++ [.dN l])
  | none => .bad
def dcM (own : List Nat) (tg : Tg) (src : M (List Da)) (cond : M Bool) (key val : M Da) : M Da := fun ρ S => (src ρ S).bind fun ds S1 => if ds.length ≤ 1000000 then celN (dcL tg cond key val (wipeD ρ own) ds [] S1) else .bad
theorem AftI.bindV {G : Gc} {Wx : WX} {σ : L2.St} {W : Wd} {H : Hp} {r : Res (List Da)} {k : List Da → Store → Res Da} {Q : VK} {R : It → Hp → Prop} (h : Aft (RV G) G Wx σ W H (r.bind k) Q)
    (step : ∀ ds S J W' H', Ext W H W' H' → SR G W' H' S → ItD G W' J ds → Aft (RV G) G Wx σ W' H' (k ds S) Q → R J H') : AftI G Wx σ W H r R := by
  cases r with
  | ok a S => exact fun b W' H' x s q => step a S b W' H' x s q (h.later x)
  | exc c d S => exact h
  | bad => exact h
theorem dc_imp {G : Gc} {Wx : WX} {w : World} {K : PySem.W.Frag} {own : List Nat} {tg : Tg} {src : M (List Da)} {cond : M Bool} {key val : M Da} (hw : G.w = w) (hK : G.K = K) (hsl : ∀ i ∈ tg.slots, i ∈ own) {σ : L2.St} {H : Hp} {Q : VK} (k : tM G Wx (dcM own tg src cond key val) σ H Q) :
    tDn w K (tI G Wx src) (gT G tg) (tMb G WN cond) (tM G WN key) (tM G WN val) own σ H Q := by
  subst hw hK
  obtain ⟨W, S, ρ, s, r, q⟩ := k
  refine ⟨W, S, ρ, s, r, AftI.bindV q fun ds S1 J W1 H1 x1 s1 it k1 => ?_⟩
  by_cases hl : ds.length ≤ 1000000
  case neg => rw [if_neg hl] at k1; exact k1.elim
  rw [if_pos hl] at k1
  cases hR : dcL tg cond key val (wipeD ρ own) ds [] S1 with
  | none => rw [hR] at k1; exact k1.elim
  | some LS =>
    obtain ⟨L, SL⟩ := LS
    rw [hR] at k1
    have k1 : ∀ v W' H', Ext W1 H1 W' H' → SR G W' H' (SL ++ [.dN L]) → Rep G W' (.cell SL.length) v → Q v H' := k1
    intro D hD
    have rw1 : RepE G W1 (L2.wipe σ own) (wipeD ρ own) := (r.mono x1.le).wipe own
    refine ⟨fun i n H2 => n = ds.length - i ∧ i ≤ ds.length ∧ ∃ W2 S2 acc xs, Ext W1 H1 W2 H2 ∧ SR G W2 H2 S2 ∧ H2 D = some (DNO G.w D xs) ∧ RepN G W2 acc xs ∧ D ∉ W2.ι ∧ W2.F D = none ∧ acc.length ≤ i ∧
      dcL tg cond key val (wipeD ρ own) (ds.drop i) acc S2 = some (L, SL), ⟨ds.length, by simp, Nat.zero_le _, ?_⟩, ?_⟩
    · obtain ⟨x2, s2⟩ := Ext.add s1 (o := DNO G.w D []) hD
      exact ⟨W1, S1, [], [], x2, s2, upd_same, .nil, s1.notin hD, s1.Fnone hD, Nat.le_refl _, hR⟩
    rintro i n H2 ⟨rfl, hi, W2, S2, acc, xs, x2, s2, hd, rs, hn, hf, hac, hq⟩
    by_cases hlt : i < ds.length
    · refine .inr ⟨it.go i W2 H2 S2 hlt x2.le s2, fun H3 => ∃ W3 S3 acc xs, Ext W1 H1 W3 H3 ∧ SR G W3 H3 S3 ∧ H3 D = some (DNO G.w D xs) ∧ RepN G W3 acc xs ∧ D ∉ W3.ι ∧ W3.F D = none ∧ acc.length ≤ i + 1 ∧
        dcL tg cond key val (wipeD ρ own) (ds.drop (i + 1)) acc S3 = some (L, SL), fun H' h => ⟨ds.length - (i + 1), by omega, rfl, hlt, h⟩, fun x H3 y => ?_⟩
      obtain ⟨d, W3, hdd, x3, s3, q3⟩ := it.yld i W2 H2 S2 x H3 hlt x2.le s2 y
      have ed : ds.drop i = d :: ds.drop (i + 1) := by
        obtain ⟨h1, h2⟩ := List.getElem?_eq_some_iff.mp hdd
        rw [← h2]; exact List.drop_eq_getElem_cons h1
      rw [ed] at hq
      unfold dcL at hq
      cases hb : bindT tg d (wipeD ρ own) with
      | none => rw [hb] at hq; cases hq
      | some ρ1 =>
        rw [hb] at hq
        obtain ⟨hd3, hn3, hf3⟩ := x3.unknown hd hn hf
        refine ⟨W3, S2, wipeD ρ own, d, ρ1, s3, rw1.mono (x2.le.trans x3.le), q3, hb, fun σ2 r2 but => ⟨wipe_but but hsl, W3, S2, ρ1, s3, r2, ?_⟩⟩
        have x23 := x2.trans x3
        cases hc : cond ρ1 S2 with
        | exc c d0 S0 => simp only [hc] at hq; cases hq
        | bad => simp only [hc] at hq; cases hq
        | ok b S4 =>
          intro b' W4 H4 x4 s4 eb
          have eb : b = b' := eb
          subst eb
          obtain ⟨hd4, hn4, hf4⟩ := x4.unknown hd3 hn3 hf3
          cases b with
          | false =>
            simp only [hc] at hq
            rw [if_neg (by decide)]
            exact ⟨W4, S4, acc, xs, x23.trans x4, s4, hd4, rs.mono (x3.le.trans x4.le), hn4, hf4, by omega, hq⟩
          | true =>
            simp only [hc] at hq
            simp only [if_true]
            refine ⟨W4, S4, ρ1, s4, r2.mono x4.le, ?_⟩
            cases hk : key ρ1 S4 with
            | exc c d0 S0 => simp only [hk] at hq; cases hq
            | bad => simp only [hk] at hq; cases hq
            | ok kd S5 =>
              intro kv W5 H5 x5 s5 q5
              obtain ⟨hd5, hn5, hf5⟩ := x5.unknown hd4 hn4 hf4
              simp only [hk] at hq
              refine ⟨W5, S5, ρ1, s5, r2.mono (x4.le.trans x5.le), ?_⟩
              cases he : val ρ1 S5 with
              | exc c d0 S0 => simp only [he] at hq; cases hq
              | bad => simp only [he] at hq; cases hq
              | ok y6 S6 =>
                intro v W6 H6 x6 s6 q6
                obtain ⟨hd6, hn6, hf6⟩ := x6.unknown hd5 hn5 hf5
                simp only [he] at hq
                cases ht : tupKey kd with
                | none => simp only [ht] at hq; cases hq
                | some nk =>
                  simp only [ht] at hq
                  have x16 := ((x23.trans x4).trans x5).trans x6
                  have rs6 : RepN G W6 acc xs := rs.mono (((x3.le.trans x4.le).trans x5.le).trans x6.le)
                  have q56 := q5.mono x6.le
                  obtain ⟨⟨lt, rfl⟩, hk2, hk3⟩ := tupKey_some ht
                  obtain ⟨p, vs, rfl, _, _⟩ := q56.tup_inv
                  have kk := (Rep.key q56 hk2).mono s6.sub
                  obtain ⟨x7, s7⟩ := Ext.alter x16 s6 (o := DNO G.w D (putX xs nk p v)) hD hn6 hf6
                  exact ⟨xs, nk, p, rfl, hd6, by rw [← rs6.len, sizeLine_eq]; omega, hk3, kk, rs6.keys rfl s6.sub, W6, S6, putN (.tup lt) nk y6 acc, putX xs nk p v, x7, s7, upd_same, rs6.put hk2 hk3 q56 q6, hn6, hf6, by have := putN_len (.tup lt) nk y6 acc; omega, hq⟩
    · have e : i = ds.length := by omega
      subst e
      rw [List.drop_length] at hq
      have hq : some (acc, S2) = some (L, SL) := hq
      have st := it.stop W2 H2 S2 x2.le s2
      cases hq
      obtain ⟨x8, s8⟩ := Ext.cel (c := .dN L) s2 x2 hD ⟨xs, hd, rs⟩ hn hf
      refine .inl ⟨st, k1 (.ref D) _ H2 x8 s8 ?_⟩
      rw [Rep]
      refine ⟨D, ?_, rfl⟩
      show (W2.ι ++ [D])[SL.length]? = some D
      rw [← s2.len, List.getElem?_append_right (Nat.le_refl _), Nat.sub_self]; rfl
section
variable {X : Cx} {G : Gc} {Wx : WX}
theorem pd_dc {kx vx tg iter : Expr} {ifs : List Expr} {scope : Scope} {own : List (Str × Nat)} {pos : Pos} {src : M (List Da)} {t : Tg} {ct : M Bool} {mk mv : M Da} (hw : G.w = X.w) (hu : X.A.units + 64 < cLine) (hc : X.calm = true) (hN : X.N.Nodup) (hi : PI X tg iter (tI G Wx src)) (ok : BlkOk X.N X.env.scope scope own)
    (hg : ∀ (s : Shared) (H : Hp) (C : Addr) (cl : List (Str × Addr)) (fp : List Addr), PG (X.blk s H scope (compEnvC scope cl C X.env) fp) tg (gT G t)) (ht : ∀ (s : Shared) (H : Hp) (C : Addr) (cl : List (Str × Addr)) (fp : List Addr), PTs (X.blk s H scope (compEnvC scope cl C X.env) fp) ifs (tMb G WN ct))
    (hk : ∀ (s : Shared) (H : Hp) (C : Addr) (cl : List (Str × Addr)) (fp : List Addr), PE (X.blk s H scope (compEnvC scope cl C X.env) fp) kx (tM G WN mk)) (he : ∀ (s : Shared) (H : Hp) (C : Addr) (cl : List (Str × Addr)) (fp : List Addr), PE (X.blk s H scope (compEnvC scope cl C X.env) fp) vx (tM G WN mv)) (hsl : ∀ i ∈ t.slots, i ∈ own.map (·.2) := by decide) (hs : ∀ x, foldedSetIterable iter X.env x = pure x := by intro _; rfl) (hK : G.K = X.K := by rfl) :
    PE X (.DictComp kx vx [⟨tg, iter, ifs, 0⟩] scope pos) (tM G Wx (dcM (own.map (·.2)) t src ct mk mv)) := (pe_dn hu hc hN hi ok hg ht hk he hs).imp fun _ _ _ k => dc_imp hw hK hsl k
end
end NL

set_option Elab.async false
set_option linter.all false
set_option autoImplicit false
set_option maxRecDepth 100000
set_option maxHeartbeats 4100000
namespace NL
open PySem PySem.Spec PyProof.Rows L2
/-! ### a text turned round -/
def revT (x : Str) : Str := ⟨((Builtin.Str.strSliceIndices none none (-1) x.length).filterMap (x.cps[·]?)).toArray⟩
def revSM (f : M Da) : M Da := fun ρ S => (f ρ S).bind fun d S1 => match d with
  | .str x => if (revT x).length ≤ big then .ok (.str (revT x)) S1 else .bad
  | _ => .bad
section
variable {X : Cx} {G : Gc} {Wx : WX}
theorem pd_revS {e : Expr} {f : M Da} {k : Nat} {p1 p2 p3 pos : Pos} (he : PE X e (tM G Wx f)) : PE X (.Subscript e (.Slice none none (some (.UnaryOp .USub (.Constant (.int 1) k p1) p2)) p3) pos) (tM G Wx (revSM f)) := by
  refine ⟨fun pins s σ H Q I ⟨W, S, ρ, sr, re, q⟩ => ?_⟩
  refine Subscript_ (thn (he.run pins s σ H (fun v H1 => ∃ x, v = .str x ∧ (revT x).length ≤ sizeLine ∧ Q (.str (revT x)) H1) I ⟨W, S, ρ, sr, re, q.bind fun d S1 v W1 H1 x1 s1 q1 k1 => ?_⟩) fun v s1 ⟨y, H1, I1, r1, x, ey, hz, q⟩ => ?_)
  · cases d with
    | str x =>
      dsimp only at k1
      by_cases hl : (revT x).length ≤ big
      · rw [if_pos hl] at k1
        exact ⟨x, q1.str_inv, by rw [← big_eq]; exact hl, k1.here s1 (repS W1 _)⟩
      · rw [if_neg hl] at k1; exact k1.elim
    | _ => exact k1.elim
  · subst ey
    obtain ⟨t, rfl⟩ := r1
    have minus : PO X (some (.UnaryOp .USub (.Constant (.int 1) k p1) p2)) (tPart (tUn (rU fun i => .int (-i)) (tC (.int 1)))) := po_some (pe_un un_neg pe_int)
    refine wpAny_Slice (thn (po_none.run pins s1 σ H1 (fun z H2 => z = none ∧ H2 = H1) I1 ⟨rfl, rfl⟩) fun vl s2 ⟨l, H2, I2, pl, el, e2⟩ => ?_)
    obtain ⟨rfl, rfl⟩ := And.intro el e2
    refine thn (po_none.run pins s2 σ H2 (fun z H3 => z = none ∧ H3 = H2) I2 ⟨rfl, rfl⟩) fun vu s3 ⟨u, H3, I3, pu, eu, e3⟩ => ?_
    obtain ⟨rfl, rfl⟩ := And.intro eu e3
    refine thn (minus.run pins s3 σ H3 (fun o H4 => o = some (-1) ∧ H4 = H3) I3 ⟨1, rfl, -1, rfl, rfl, rfl⟩) fun vs s4 ⟨o, H4, I4, ps, eo, e4⟩ => ?_
    obtain ⟨rfl, rfl⟩ := And.intro eo e4
    have I5 : Inv X pins σ H4 { s4 with heap := s4.heap.push { cls := .type "slice", data := .fields #[vl, vu, vs] } } := I4.kept (t' := s4.toks) fun b z q => Heap.get?_push_of_some _ q
    obtain ⟨l0, rfl, hl0⟩ := IsPart.raw pl
    obtain ⟨u0, rfl, hu0⟩ := IsPart.raw pu
    obtain ⟨w0, rfl, hw0⟩ := IsPart.raw ps
    obtain ⟨⟨j, tj⟩, rfl⟩ : ∃ q, w0 = some q := by cases w0 with | none => cases hw0 | some q => exact ⟨q, rfl⟩
    have hj : j = -1 := by simpa using hw0
    subst hj
    cases l0 with
    | some z => cases hl0
    | none =>
    cases u0 with
    | some z => cases hu0
    | none =>
    show wpAny (model X.prog X.w) X.A (subscriptTail e (.Slice none none (some (.UnaryOp .USub (.Constant (.int 1) k p1) p2)) p3) (.str x t) (.ref s4.heap.objs.size)) (EP X pins σ Q) X.xe _
    refine tail_any (ops := [.str x t, .ref s4.heap.objs.size]) (typeIs_str _ _ _) F.slot_str_getitem.lookup ?_ (by with_unfolding_all rfl)
    refine wpAny_getItem_str_slice (l := none) (u := none) (st := some (-1, tj)) ⟨_, Heap.get?_push_size _ rfl, rfl, rfl⟩ (by rfl) ?_
    have em : sliceMade x t none none (some (-1, tj)) = Made.str (revT x) := by
      unfold sliceMade
      exact if_neg (by simp)
    rw [em]
    exact ⟨hz, .str _, H4, I5.tok _, ⟨_, rfl⟩, q⟩
end
/-! ### a def without parameters, called -/
theorem pdc_call0 {X : Cx} {G : Gc} {Wx : WX} {k : Nat} {x : Str} {p pos : Pos} {mf : Mf} (C : CallOk X.prog X.w X.K X.mg X.base G x k 0 mf) (hr : RoomG k X.A) (tk : Takes X Wx) (hg : Gl X x := by rfl) (hdb : (x == ("__debug__" : Str)) = false := by decide) :
    PE X (.Call (.Name x p) [] [] pos) (tM G Wx (callF0 mf)) := by
  obtain ⟨f, fd, ps, F, hm, hk, hb⟩ := C.ex
  exact pd_call0 F hr tk hm hk hb hg hdb
/-! ### a tuple of the module's own -/
/-- the name x is bound to the tuple of the texts zs -/
def GTup (K : PySem.W.Frag) (mg : Str → Option Value) (x : Str) (zs : List Str) : Prop := ∃ a o its n, mg x = some (.ref a) ∧ K.lookup a = some o ∧ o.cls = .type "tuple" ∧ o.data = .seq its n ∧ its.size ≤ sizeLine ∧ Vals (zs.map V.str) its.toList
section
variable {X : Cx} {G : Gc} {Wx : WX}
theorem pd_gtup {x : Str} {zs : List Str} {pos : Pos} (hm : GTup X.K X.mg x zs) (hg : Gl X x := by rfl) (hd : (x == ("__debug__" : Str)) = false := by decide) (hn : x ≠ "__name__" := by decide) (hK : G.K = X.K := by rfl) : PE X (.Name x pos) (tM G Wx (cM (.tup (zs.map Da.str)))) := by
  obtain ⟨a, o, its, n, hm, hk, hc, hdt, hz, r⟩ := hm
  refine (pe_glob (v := V.ref a) hg hm rfl hd).imp fun σ H Q ⟨W, S, ρ, s, re, q⟩ => ?_
  refine q.here s ?_
  show Rep G W (.tup _) (.ref a)
  rw [Rep]
  exact ⟨a, _, rfl, .inr ⟨o, its, n, by rw [hK]; exact hk, hc, hdt, hz, r⟩, reps_strs zs⟩
end
end NL

set_option Elab.async false
set_option linter.all false
set_option autoImplicit false
set_option maxRecDepth 100000
set_option maxHeartbeats 4100000
namespace NL
open PySem PySem.Spec PyProof.Rows L2
/-! ### mirrors and plain functions: what a mirror gives, told by a plain function where that one gives something -/
/-- the store begins with the law's n tables -/
def NTb (n : Nat) (S : Store) : Prop := ∃ R, S = tabS n ++ R
theorem NTb.app {n : Nat} {S X : Store} (h : NTb n S) : NTb n (S ++ X) := by
  obtain ⟨R, rfl⟩ := h
  exact ⟨R ++ X, by rw [List.append_assoc]⟩
section
variable {α β γ δ ε : Type} (n : Nat)
def Ev (g : M β) (ρ : En) (e : α → β) (p : Option α) : Prop := ∀ a, p = some a → ∀ S, NTb n S → ∃ X, g ρ S = .ok (e a) (S ++ X)
/-- .. of a def -/
def Fn1 (m : Mf) (e1 : α → Da) (e : γ → Da) (p : α → Option γ) : Prop := ∀ a r S, NTb n S → p a = some r → ∃ X, m [e1 a] S = .ok (e r) (S ++ X)
def Fn2 (m : Mf) (e1 : α → Da) (e2 : β → Da) (e : γ → Da) (p : α → β → Option γ) : Prop := ∀ a b r S, NTb n S → p a b = some r → ∃ X, m [e1 a, e2 b] S = .ok (e r) (S ++ X)
def Fn3 (m : Mf) (e1 : α → Da) (e2 : β → Da) (e3 : δ → Da) (e : γ → Da) (p : α → β → δ → Option γ) : Prop := ∀ a b c r S, NTb n S → p a b c = some r → ∃ X, m [e1 a, e2 b, e3 c] S = .ok (e r) (S ++ X)
def Fn4 (m : Mf) (e1 : α → Da) (e2 : β → Da) (e3 : δ → Da) (e4 : ε → Da) (e : γ → Da) (p : α → β → δ → ε → Option γ) : Prop := ∀ a b c d r S, NTb n S → p a b c d = some r → ∃ X, m [e1 a, e2 b, e3 c, e4 d] S = .ok (e r) (S ++ X)
/-- .. of statements that return -/
def EvS (s : MS) (ρ : En) (e : γ → Da) (p : Option γ) : Prop := ∀ r, p = some r → ∀ S, NTb n S → ∃ X, s ρ S = .rt (e r) (S ++ X)
end
/-! data -/
abbrev eI : Int → Da := .int
abbrev eB : Bool → Da := .bl
abbrev eS : Str → Da := .str
abbrev eN : Unit → Da := fun _ => .non
def eT {α : Type} (e : α → Da) (l : List α) : Da := .tup (l.map e)
def eL {α : Type} (e : α → Da) (l : List α) : Da := .lst (l.map e)
def eP {α β : Type} (e : α → Da) (f : β → Da) (p : α × β) : Da := .tup [e p.1, f p.2]
def eP3 {α β γ : Type} (e : α → Da) (f : β → Da) (g : γ → Da) (p : α × β × γ) : Da := .tup [e p.1, f p.2.1, g p.2.2]
def eO {α : Type} (e : α → Da) : Option α → Da
  | none => .non
  | some a => e a
section
variable {n : Nat} {α β γ δ ε ζ : Type} {ρ : En} {e : α → Da} {e1 : β → Da} {e2 : γ → Da} {e3 : δ → Da} {e4 : ε → Da}
theorem Ev.val {g : M β} {h : α → β} {a : α} (k : ∀ S, g ρ S = .ok (h a) S) : Ev n g ρ h (some a) := fun b hb S _ => by
  cases hb
  exact ⟨[], by rw [List.append_nil]; exact k S⟩
theorem evp_var {i : Nat} {a : α} (h : ρ[i]? = some (some (e a))) : Ev n (varM i) ρ e (some a) := .val fun S => ev_var h
theorem evp_c {d : Da} {a : α} (h : e a = d) : Ev n (cM d) ρ e (some a) := .val fun S => by rw [h]; rfl
theorem Ev.bind {g : M β} {h : α → β} {p : Option α} (hg : Ev n g ρ h p) {κ : Type} {g2 : M κ} {k : β → Store → Res κ} (hk : ∀ S, g2 ρ S = (g ρ S).bind k) {h2 : γ → κ} {q : α → Option γ} (hq : ∀ a c, q a = some c → ∀ S, NTb n S → ∃ X, k (h a) S = .ok (h2 c) (S ++ X)) : Ev n g2 ρ h2 (p.bind q) := fun c hc S ht => by
  obtain ⟨a, ha, hc⟩ := Option.bind_eq_some_iff.mp hc
  obtain ⟨X, hX⟩ := hg a ha S ht
  obtain ⟨Y, hY⟩ := hq a c hc (S ++ X) ht.app
  refine ⟨X ++ Y, ?_⟩
  rw [hk, hX, ← List.append_assoc]
  exact hY
/-- an operator that looks at no store -/
theorem evp_op {op : Da → Da → Store → Option Da} {f g : M Da} {p : Option β} {q : Option γ} {r : β → γ → Option α} (hf : Ev n f ρ e1 p) (hg : Ev n g ρ e2 q) (ho : ∀ a b c S, r a b = some c → op (e1 a) (e2 b) S = some (e c)) : Ev n (opM op f g) ρ e (p.bind fun a => q.bind fun b => r a b) :=
  hf.bind (fun S => rfl) fun a c hc S ht => by
    obtain ⟨b, hb, hc⟩ := Option.bind_eq_some_iff.mp hc
    obtain ⟨X, hX⟩ := hg b hb S ht
    exact ⟨X, by rw [hX]; simp only [Res.bind, ho a b c _ hc, ofO]⟩
theorem evp_un {op : Da → Store → Option Da} {f : M Da} {p : Option β} {r : β → Option α} (hf : Ev n f ρ e1 p) (ho : ∀ a c S, r a = some c → op (e1 a) S = some (e c)) : Ev n (unM op f) ρ e (p.bind r) :=
  hf.bind (fun S => rfl) fun a c hc S ht => ⟨[], by rw [ho a c _ hc, List.append_nil]; rfl⟩
theorem evp_nil : Ev n nilM ρ (id : List Da → List Da) (some []) := .val fun S => rfl
theorem evp_cons {f : M Da} {t : M (List Da)} {p : Option β} {q : Option (List Da)} (hf : Ev n f ρ e1 p) (ht : Ev n t ρ (id : List Da → List Da) q) : Ev n (consM f t) ρ (id : List Da → List Da) (p.bind fun a => q.bind fun l => some (e1 a :: l)) :=
  hf.bind (fun S => rfl) fun a c hc S hS => by
    obtain ⟨l, hl, hc⟩ := Option.bind_eq_some_iff.mp hc
    obtain ⟨X, hX⟩ := ht l hl S hS
    cases hc
    exact ⟨X, by rw [hX]; rfl⟩
/-- a built-in's call -/
theorem evp_call1 {op : List Da → Store → Option Da} {f : M Da} {p : Option β} {r : β → Option α} (hf : Ev n f ρ e1 p) (ho : ∀ a c S, r a = some c → op [e1 a] S = some (e c)) : Ev n (callM op (consM f nilM)) ρ e (p.bind r) :=
  hf.bind (fun S => show (Res.bind (consM f nilM ρ S) _) = (f ρ S).bind fun a S1 => ofO (op [a] S1) S1 by unfold consM; cases f ρ S <;> rfl) fun a c hc S ht => ⟨[], by rw [ho a c _ hc, List.append_nil]; rfl⟩
theorem evp_fn1 {m : Mf} {f : M Da} {p : Option β} {pf : β → Option α} (hm : Fn1 n m e1 e pf) (hf : Ev n f ρ e1 p) : Ev n (callF 1 m (consM f nilM)) ρ e (p.bind pf) :=
  hf.bind (fun S => show (Res.bind (consM f nilM ρ S) _) = (f ρ S).bind fun a S1 => m [a] S1 by unfold consM; cases f ρ S <;> rfl) fun a c hc S ht => hm a c S ht hc
theorem evp_fn2 {m : Mf} {f g : M Da} {p : Option β} {q : Option γ} {pf : β → γ → Option α} (hm : Fn2 n m e1 e2 e pf) (hf : Ev n f ρ e1 p) (hg : Ev n g ρ e2 q) : Ev n (callF 2 m (consM f (consM g nilM))) ρ e (p.bind fun a => q.bind fun b => pf a b) :=
  hf.bind (fun S => show (Res.bind (consM f (consM g nilM) ρ S) _) = (f ρ S).bind fun a S1 => (g ρ S1).bind fun b S2 => m [a, b] S2 by
    unfold consM
    cases f ρ S with
    | ok a S1 => dsimp only [Res.bind]; cases g ρ S1 <;> rfl
    | _ => rfl) fun a c hc S ht => by
    obtain ⟨b, hb, hc⟩ := Option.bind_eq_some_iff.mp hc
    obtain ⟨X, hX⟩ := hg b hb S ht
    obtain ⟨Y, hY⟩ := hm a b c _ ht.app hc
    exact ⟨X ++ Y, by rw [hX, ← List.append_assoc]; exact hY⟩
theorem evp_fn3 {m : Mf} {f g h : M Da} {p : Option β} {q : Option γ} {r : Option δ} {pf : β → γ → δ → Option α} (hm : Fn3 n m e1 e2 e3 e pf) (hf : Ev n f ρ e1 p) (hg : Ev n g ρ e2 q) (hh : Ev n h ρ e3 r) :
    Ev n (callF 3 m (consM f (consM g (consM h nilM)))) ρ e (p.bind fun a => q.bind fun b => r.bind fun c => pf a b c) :=
  hf.bind (fun S => show (Res.bind (consM f (consM g (consM h nilM)) ρ S) _) = (f ρ S).bind fun a S1 => (g ρ S1).bind fun b S2 => (h ρ S2).bind fun c S3 => m [a, b, c] S3 by
    unfold consM
    cases f ρ S with
    | ok a S1 =>
      dsimp only [Res.bind]
      cases g ρ S1 with
      | ok b S2 => dsimp only [Res.bind]; cases h ρ S2 <;> rfl
      | _ => rfl
    | _ => rfl) fun a d hd S ht => by
    obtain ⟨b, hb, hd⟩ := Option.bind_eq_some_iff.mp hd
    obtain ⟨c, hc, hd⟩ := Option.bind_eq_some_iff.mp hd
    obtain ⟨X, hX⟩ := hg b hb S ht
    obtain ⟨Z, hZ⟩ := hh c hc _ ht.app
    obtain ⟨Y, hY⟩ := hm a b c d _ ht.app.app hd
    exact ⟨X ++ (Z ++ Y), by rw [hX, ← List.append_assoc, ← List.append_assoc]; simp only [Res.bind]; rw [hZ]; exact hY⟩
/-! tests -/
theorem evp_tst {f : M Da} {p : Option Bool} (hf : Ev n f ρ eB p) : Ev n (tstM f) ρ (id : Bool → Bool) p := fun b hb S ht => by
  obtain ⟨X, hX⟩ := hf b hb S ht
  exact ⟨X, by unfold tstM; rw [hX]; rfl⟩
theorem evp_notT {f : M Bool} {p : Option Bool} (hf : Ev n f ρ (id : Bool → Bool) p) : Ev n (notT f) ρ (id : Bool → Bool) (p.bind fun b => some (!b)) :=
  hf.bind (fun S => rfl) fun a c hc S ht => by cases hc; exact ⟨[], by rw [List.append_nil]; rfl⟩
theorem evp_andT {f g : M Bool} {p q : Option Bool} (hf : Ev n f ρ (id : Bool → Bool) p) (hg : Ev n g ρ (id : Bool → Bool) q) : Ev n (andT f g) ρ (id : Bool → Bool) (p.bind fun b => if b = true then q else some false) :=
  hf.bind (fun S => rfl) fun a c hc S ht => by
    cases a with
    | true => exact hg c hc S ht
    | false => cases hc; exact ⟨[], by rw [List.append_nil]; rfl⟩
theorem evp_orT {f g : M Bool} {p q : Option Bool} (hf : Ev n f ρ (id : Bool → Bool) p) (hg : Ev n g ρ (id : Bool → Bool) q) : Ev n (orT f g) ρ (id : Bool → Bool) (p.bind fun b => if b = true then some true else q) :=
  hf.bind (fun S => rfl) fun a c hc S ht => by
    cases a with
    | false => exact hg c hc S ht
    | true => cases hc; exact ⟨[], by rw [List.append_nil]; rfl⟩
theorem evp_not {f : M Da} {p : Option Bool} (hf : Ev n f ρ eB p) : Ev n (notM f) ρ eB (p.bind fun b => some (!b)) :=
  (evp_tst hf).bind (fun S => rfl) fun a c hc S ht => by cases hc; exact ⟨[], by rw [List.append_nil]; rfl⟩
theorem evp_and {f g : M Da} {p q : Option Bool} (hf : Ev n f ρ eB p) (hg : Ev n g ρ eB q) : Ev n (andM f g) ρ eB (p.bind fun b => if b = true then q else some false) :=
  (evp_tst hf).bind (fun S => rfl) fun a c hc S ht => by
    cases a with
    | true => exact hg c hc S ht
    | false => cases hc; exact ⟨[], by rw [List.append_nil]; rfl⟩
theorem evp_or {f g : M Da} {p q : Option Bool} (hf : Ev n f ρ eB p) (hg : Ev n g ρ eB q) : Ev n (orM f g) ρ eB (p.bind fun b => if b = true then some true else q) :=
  (evp_tst hf).bind (fun S => rfl) fun a c hc S ht => by
    cases a with
    | false => exact hg c hc S ht
    | true => cases hc; exact ⟨[], by rw [List.append_nil]; rfl⟩
theorem evp_if {c : M Bool} {f g : M Da} {pc : Option Bool} {p q : Option α} (hc : Ev n c ρ (id : Bool → Bool) pc) (hf : Ev n f ρ e p) (hg : Ev n g ρ e q) : Ev n (ifM c f g) ρ e (pc.bind fun b => if b = true then p else q) :=
  hc.bind (fun S => rfl) fun a c hc S ht => by
    cases a with
    | true => exact hf c hc S ht
    | false => exact hg c hc S ht
theorem evp_as {f : M β} {h h2 : α → β} {p : Option α} (hf : Ev n f ρ h p) (k : ∀ a, h a = h2 a) : Ev n f ρ h2 p := fun a ha S ht => by
  obtain ⟨X, hX⟩ := hf a ha S ht
  exact ⟨X, by rw [hX, k]⟩
/-- the same plain answer -/
theorem evp_eq {f : M β} {h : α → β} {p q : Option α} (hf : Ev n f ρ h p) (k : q = p) : Ev n f ρ h q := k ▸ hf
/-! displays -/
def smallP {τ : Type} (l : List τ) : Option (List τ) := if l.length ≤ big then some l else none
theorem evp_tup {t : M (List Da)} {q : Option (List Da)} (ht : Ev n t ρ (id : List Da → List Da) q) {k : List Da → Option α} (hk : ∀ l a, k l = some a → l.length ≤ big ∧ .tup l = e a) : Ev n (tupM t) ρ e (q.bind k) :=
  ht.bind (fun S => rfl) fun l a hc S hS => by
    obtain ⟨h1, h2⟩ := hk l a hc
    exact ⟨[], by simp only [id, h1, if_true]; rw [List.append_nil, h2]⟩
theorem evp_list {t : M (List Da)} {q : Option (List Da)} (ht : Ev n t ρ (id : List Da → List Da) q) {h : α → List Da} {k : List Da → Option α} (hk : ∀ l a, k l = some a → l.length ≤ big ∧ l = h a) : Ev n (listM t) ρ h (q.bind k) :=
  ht.bind (fun S => rfl) fun l a hc S hS => by
    obtain ⟨h1, h2⟩ := hk l a hc
    exact ⟨[], by simp only [id, h1, if_true]; rw [List.append_nil, ← h2]⟩
theorem evp_frz {t : M (List Da)} {q : Option (List β)} (ht : Ev n t ρ (List.map e1) q) : Ev n (frzM t) ρ (eL e1) q := fun l hl S hS => by
  obtain ⟨X, hX⟩ := ht l hl S hS
  exact ⟨X, by unfold frzM; rw [hX]; rfl⟩
/-! iterables -/
theorem evp_itT {f : M Da} {p : Option (List β)} (hf : Ev n f ρ (eT e1) p) : Ev n (itT f) ρ (List.map e1) p := fun l hl S hS => by
  obtain ⟨X, hX⟩ := hf l hl S hS
  exact ⟨X, by unfold itT; rw [hX]; rfl⟩
theorem evp_itL {f : M Da} {p : Option (List β)} (hf : Ev n f ρ (eL e1) p) : Ev n (itL f) ρ (List.map e1) p := fun l hl S hS => by
  obtain ⟨X, hX⟩ := hf l hl S hS
  exact ⟨X, by unfold itL; rw [hX]; rfl⟩
/-- 0, 1, .. below k -/
def rngP (k : Int) : Option (List Int) := if 0 ≤ k ∧ k ≤ 16777216 then some ((List.range k.toNat).map fun (i : Nat) => (i : Int)) else none
theorem rngP_some {k : Int} {l : List Int} (h : rngP k = some l) : 0 ≤ k ∧ k ≤ 16777216 ∧ rngL 0 k.toNat = l.map eI := by
  unfold rngP at h
  split at h
  · rename_i q
    cases h
    refine ⟨q.1, q.2, ?_⟩
    unfold rngL
    rw [List.map_map]
    apply List.map_congr_left
    intro i _
    simp
  · cases h
theorem evp_rng {f : M Da} {p : Option Int} (hf : Ev n f ρ eI p) : Ev n (itR1 f) ρ (List.map eI) (p.bind rngP) :=
  hf.bind (fun S => rfl) fun k l hc S hS => by
    obtain ⟨h0, h1, h2⟩ := rngP_some hc
    refine ⟨[], ?_⟩
    show (if -rngB ≤ k ∧ k < rngB then Res.ok (rngL 0 k.toNat) S else .bad) = _
    rw [if_pos (by unfold rngB; omega), h2, List.append_nil]
theorem evp_lrg {f : M Da} {p : Option Int} (hf : Ev n f ρ eI p) : Ev n (lrgF f) ρ (List.map eI) (p.bind rngP) :=
  hf.bind (fun S => rfl) fun k l hc S hS => by
    obtain ⟨h0, h1, h2⟩ := rngP_some hc
    refine ⟨[], ?_⟩
    show (if 0 ≤ k ∧ k ≤ 16777216 then Res.ok (rngL 0 k.toNat) S else .bad) = _
    rw [if_pos ⟨h0, h1⟩, h2, List.append_nil]
/-! comprehensions -/
def lcP {τ κ : Type} (c : τ → Option Bool) (v : τ → Option κ) : List τ → Option (List κ)
  | [] => some []
  | x :: l => (c x).bind fun b => if b = true then (v x).bind fun y => (lcP c v l).bind fun r => some (y :: r) else lcP c v l
theorem evp_lc {own : List Nat} {tg : Tg} {src : M (List Da)} {cond : M Bool} {elt : M Da} {p : Option (List β)} {c : β → Option Bool} {v : β → Option γ} {ρ0 : En} {ρ1 : β → En} (hs : Ev n src ρ (List.map e1) p) (hw : wipeD ρ own = ρ0) (hb : ∀ x, bindT tg (e1 x) ρ0 = some (ρ1 x)) (hc : ∀ x, Ev n cond (ρ1 x) (id : Bool → Bool) (c x)) (he : ∀ x, Ev n elt (ρ1 x) e2 (v x)) :
    Ev n (lcM own tg src cond elt) ρ (List.map e2) (p.bind fun l => (smallP l).bind (lcP c v)) := by
  have key : ∀ (l : List β) (r : List γ), lcP c v l = some r → ∀ S, NTb n S → ∃ X, lcL tg cond elt ρ0 (l.map e1) S = some (r.map e2, S ++ X) := fun l => by
    induction l with
    | nil => intro r h S hS; cases h; exact ⟨[], by rw [List.append_nil]; rfl⟩
    | cons x l ih =>
      intro r h S hS
      unfold lcP at h
      obtain ⟨b, hb1, h⟩ := Option.bind_eq_some_iff.mp h
      obtain ⟨X, hX⟩ := hc x b hb1 S hS
      rw [List.map_cons]
      unfold lcL
      rw [hb x]
      dsimp only
      rw [hX]
      cases b with
      | false =>
        simp only [if_false, Bool.false_eq_true] at h
        obtain ⟨Y, hY⟩ := ih r h (S ++ X) hS.app
        exact ⟨X ++ Y, by simp only [id]; rw [hY, List.append_assoc]⟩
      | true =>
        simp only [if_true] at h
        obtain ⟨y, hy, h⟩ := Option.bind_eq_some_iff.mp h
        obtain ⟨t, ht, h⟩ := Option.bind_eq_some_iff.mp h
        cases h
        obtain ⟨Y, hY⟩ := he x y hy (S ++ X) hS.app
        obtain ⟨Z, hZ⟩ := ih t ht (S ++ X ++ Y) hS.app.app
        exact ⟨X ++ (Y ++ Z), by simp only [id]; rw [hY]; simp only; rw [hZ]; simp [List.append_assoc]⟩
  refine hs.bind (fun S => rfl) fun l r hr S hS => ?_
  obtain ⟨l2, hl2, hr⟩ := Option.bind_eq_some_iff.mp hr
  unfold smallP at hl2
  split at hl2
  · rename_i hl
    cases hl2
    obtain ⟨X, hX⟩ := key l r hr S hS
    refine ⟨X, ?_⟩
    rw [hw, if_pos (by rw [List.length_map]; exact hl), hX]
    rfl
  · cases hl2
theorem evp_yes : Ev n yesM ρ (id : Bool → Bool) (some true) := .val fun S => rfl
/-! statements -/
theorem evs_ret {f : M Da} {p : Option α} (hf : Ev n f ρ e p) : EvS n (retS f) ρ e p := fun a ha S hS => by
  obtain ⟨X, hX⟩ := hf a ha S hS
  exact ⟨X, by unfold retS; rw [hX]; rfl⟩
theorem evs_set {i : Nat} {f : M Da} {s : MS} {p : Option β} {k : β → Option α} {ρ1 : β → En} (hf : Ev n f ρ e1 p) (hρ : ∀ b, ρ.set i (some (e1 b)) = ρ1 b) (hs : ∀ b, EvS n s (ρ1 b) e (k b)) : EvS n (seqS (setS i f) s) ρ e (p.bind k) := fun a ha S hS => by
  obtain ⟨b, hb, ha⟩ := Option.bind_eq_some_iff.mp ha
  obtain ⟨X, hX⟩ := hf b hb S hS
  obtain ⟨Y, hY⟩ := hs b a ha (S ++ X) hS.app
  exact ⟨X ++ Y, by rw [ev_seq_set hX (hρ b) rfl, hY, List.append_assoc]⟩
theorem evs_drop {f : M Da} {s : MS} {p : Option β} {k : Option α} (hf : Ev n f ρ e1 p) (hs : EvS n s ρ e k) : EvS n (seqS (dropS f) s) ρ e (p.bind fun _ => k) := fun a ha S hS => by
  obtain ⟨b, hb, ha⟩ := Option.bind_eq_some_iff.mp ha
  obtain ⟨X, hX⟩ := hf b hb S hS
  obtain ⟨Y, hY⟩ := hs a ha (S ++ X) hS.app
  refine ⟨X ++ Y, ?_⟩
  unfold seqS dropS
  rw [hX]
  show s ρ (S ++ X) = _
  rw [hY, List.append_assoc]
theorem evs_if {c : M Bool} {f g : MS} {pc : Option Bool} {p q : Option α} (hc : Ev n c ρ (id : Bool → Bool) pc) (hf : EvS n f ρ e p) (hg : EvS n g ρ e q) : EvS n (ifS c f g) ρ e (pc.bind fun b => if b = true then p else q) := fun a ha S hS => by
  obtain ⟨b, hb, ha⟩ := Option.bind_eq_some_iff.mp ha
  obtain ⟨X, hX⟩ := hc b hb S hS
  unfold ifS
  rw [hX]
  cases b with
  | true =>
    obtain ⟨Y, hY⟩ := hf a ha (S ++ X) hS.app
    exact ⟨X ++ Y, by rw [← List.append_assoc]; exact hY⟩
  | false =>
    obtain ⟨Y, hY⟩ := hg a ha (S ++ X) hS.app
    exact ⟨X ++ Y, by rw [← List.append_assoc]; exact hY⟩
/-- if c: .. return; and on -/
theorem evs_ifr {c : M Bool} {f g s : MS} {pc : Option Bool} {p q : Option α} (hc : Ev n c ρ (id : Bool → Bool) pc) (hf : EvS n f ρ e p) (hg : EvS n (seqS g s) ρ e q) : EvS n (seqS (ifS c f g) s) ρ e (pc.bind fun b => if b = true then p else q) := fun a ha S hS => by
  obtain ⟨b, hb, ha⟩ := Option.bind_eq_some_iff.mp ha
  obtain ⟨X, hX⟩ := hc b hb S hS
  unfold seqS ifS
  rw [hX]
  cases b with
  | true =>
    obtain ⟨Y, hY⟩ := hf a ha (S ++ X) hS.app
    refine ⟨X ++ Y, ?_⟩
    show (f ρ (S ++ X)).seq s = _
    rw [hY, ← List.append_assoc]
    rfl
  | false =>
    obtain ⟨Y, hY⟩ := hg a ha (S ++ X) hS.app
    exact ⟨X ++ Y, by rw [← List.append_assoc]; exact hY⟩
theorem evs_skip {s : MS} {p : Option α} (h : EvS n s ρ e p) : EvS n (seqS skipS s) ρ e p := h
/-- where something is raised nothing is told -/
theorem evs_none {s : MS} : EvS n s ρ e none := fun a ha => nomatch ha
theorem evs_retN : EvS n retN ρ eN (some ()) := fun a ha S hS => ⟨[], by rw [List.append_nil]; rfl⟩
/-- a body of a def without a value: it comes to its end -/
def EvE (n : Nat) (s : MS) (ρ : En) (p : Option Unit) : Prop := ∀ r, p = some r → ∀ S, NTb n S → ∃ X, (s ρ S).res = .ok .non (S ++ X)
theorem eve_skip : EvE n skipS ρ (some ()) := fun a ha S hS => ⟨[], by rw [List.append_nil]; rfl⟩
theorem eve_none {s : MS} : EvE n s ρ none := fun a ha => nomatch ha
theorem eve_if {c : M Bool} {f g : MS} {pc : Option Bool} {p q : Option Unit} (hc : Ev n c ρ (id : Bool → Bool) pc) (hf : EvE n f ρ p) (hg : EvE n g ρ q) : EvE n (ifS c f g) ρ (pc.bind fun b => if b = true then p else q) := fun a ha S hS => by
  obtain ⟨b, hb, ha⟩ := Option.bind_eq_some_iff.mp ha
  obtain ⟨X, hX⟩ := hc b hb S hS
  unfold ifS
  rw [hX]
  cases b with
  | true =>
    obtain ⟨Y, hY⟩ := hf a ha (S ++ X) hS.app
    exact ⟨X ++ Y, by rw [← List.append_assoc]; exact hY⟩
  | false =>
    obtain ⟨Y, hY⟩ := hg a ha (S ++ X) hS.app
    exact ⟨X ++ Y, by rw [← List.append_assoc]; exact hY⟩
/-- if c: raise ..; and on -/
theorem eve_ifx {c : M Bool} {f s : MS} {pc : Option Bool} {q : Option Unit} (hc : Ev n c ρ (id : Bool → Bool) pc) (hg : EvE n s ρ q) : EvE n (seqS (ifS c f skipS) s) ρ (pc.bind fun b => if b = true then none else q) := fun a ha S hS => by
  obtain ⟨b, hb, ha⟩ := Option.bind_eq_some_iff.mp ha
  obtain ⟨X, hX⟩ := hc b hb S hS
  unfold seqS ifS
  rw [hX]
  cases b with
  | true => cases ha
  | false =>
    obtain ⟨Y, hY⟩ := hg a ha (S ++ X) hS.app
    exact ⟨X ++ Y, by rw [← List.append_assoc]; exact hY⟩
theorem eve_set {i : Nat} {f : M Da} {s : MS} {p : Option β} {k : β → Option Unit} {ρ1 : β → En} (hf : Ev n f ρ e1 p) (hρ : ∀ b, ρ.set i (some (e1 b)) = ρ1 b) (hs : ∀ b, EvE n s (ρ1 b) (k b)) : EvE n (seqS (setS i f) s) ρ (p.bind k) := fun a ha S hS => by
  obtain ⟨b, hb, ha⟩ := Option.bind_eq_some_iff.mp ha
  obtain ⟨X, hX⟩ := hf b hb S hS
  obtain ⟨Y, hY⟩ := hs b a ha (S ++ X) hS.app
  refine ⟨X ++ Y, ?_⟩
  rw [ev_seq_set hX (hρ b) rfl, hY, List.append_assoc]
theorem eve_drop {f : M Da} {s : MS} {p : Option β} {k : Option Unit} (hf : Ev n f ρ e1 p) (hs : EvE n s ρ k) : EvE n (seqS (dropS f) s) ρ (p.bind fun _ => k) := fun a ha S hS => by
  obtain ⟨b, hb, ha⟩ := Option.bind_eq_some_iff.mp ha
  obtain ⟨X, hX⟩ := hf b hb S hS
  obtain ⟨Y, hY⟩ := hs a ha (S ++ X) hS.app
  refine ⟨X ++ Y, ?_⟩
  unfold seqS dropS
  rw [hX]
  show (s ρ (S ++ X)).res = _
  rw [hY, List.append_assoc]
theorem eve_drop1 {f : M Da} {p : Option β} (hf : Ev n f ρ e1 p) : EvE n (dropS f) ρ (p.bind fun _ => some ()) := fun a ha S hS => by
  obtain ⟨b, hb, ha⟩ := Option.bind_eq_some_iff.mp ha
  obtain ⟨X, hX⟩ := hf b hb S hS
  exact ⟨X, by unfold dropS; rw [hX]; rfl⟩
/-! defs -/
theorem fn1_of {N : Nat} {b : MS} {p : β → Option α} (h : ∀ x, EvS n b (some (e1 x) :: List.replicate (N - 1) none) e (p x)) : Fn1 n (defM N b) e1 e p := fun x r S hS hr => by
  obtain ⟨X, hX⟩ := h x r hr S hS
  exact ⟨X, show RS.res (b _ S) = _ by exact congrArg RS.res hX⟩
theorem fn2_of {N : Nat} {b : MS} {p : β → γ → Option α} (h : ∀ x y, EvS n b (some (e1 x) :: some (e2 y) :: List.replicate (N - 2) none) e (p x y)) : Fn2 n (defM N b) e1 e2 e p := fun x y r S hS hr => by
  obtain ⟨X, hX⟩ := h x y r hr S hS
  exact ⟨X, show RS.res (b _ S) = _ by exact congrArg RS.res hX⟩
theorem fn3_of {N : Nat} {b : MS} {p : β → γ → δ → Option α} (h : ∀ x y z, EvS n b (some (e1 x) :: some (e2 y) :: some (e3 z) :: List.replicate (N - 3) none) e (p x y z)) : Fn3 n (defM N b) e1 e2 e3 e p := fun x y z r S hS hr => by
  obtain ⟨X, hX⟩ := h x y z r hr S hS
  exact ⟨X, show RS.res (b _ S) = _ by exact congrArg RS.res hX⟩
theorem fn1_ofE {N : Nat} {b : MS} {p : β → Option Unit} (h : ∀ x, EvE n b (some (e1 x) :: List.replicate (N - 1) none) (p x)) : Fn1 n (defM N b) e1 eN p := fun x r S hS hr => h x r hr S hS
theorem fn2_ofE {N : Nat} {b : MS} {p : β → γ → Option Unit} (h : ∀ x y, EvE n b (some (e1 x) :: some (e2 y) :: List.replicate (N - 2) none) (p x y)) : Fn2 n (defM N b) e1 e2 eN p := fun x y r S hS hr => h x y r hr S hS
end
/-! ### operators -/
section
variable {n : Nat} {α β γ : Type} {ρ : En} {e : α → Da} {f g : M Da} {p q : Option Int}
theorem evp_addI (hf : Ev n f ρ eI p) (hg : Ev n g ρ eI q) : Ev n (opM addD f g) ρ eI (p.bind fun a => q.bind fun b => some (a + b)) := evp_op hf hg fun a b c S h => by cases h; rfl
theorem evp_subI (hf : Ev n f ρ eI p) (hg : Ev n g ρ eI q) : Ev n (opM subD f g) ρ eI (p.bind fun a => q.bind fun b => some (a - b)) := evp_op hf hg fun a b c S h => by cases h; rfl
def mulP (a b : Int) : Option Int := if (-lim64 < a ∧ a < lim64) ∨ (-lim64 < b ∧ b < lim64) then some (a * b) else none
theorem evp_mulI (hf : Ev n f ρ eI p) (hg : Ev n g ρ eI q) : Ev n (opM mulD f g) ρ eI (p.bind fun a => q.bind fun b => mulP a b) := evp_op hf hg fun a b c S h => by
  unfold mulP at h
  split at h
  · rename_i k
    cases h
    show (if _ then some (Da.int (a * b)) else none) = _
    rw [if_pos k]
  · cases h
def modP (a b : Int) : Option Int := if 0 < b then some (a % b) else none
theorem evp_modI (hf : Ev n f ρ eI p) (hg : Ev n g ρ eI q) : Ev n (opM modD f g) ρ eI (p.bind fun a => q.bind fun b => modP a b) := evp_op hf hg fun a b c S h => by
  unfold modP at h
  split at h
  · rename_i k
    cases h
    show (if _ then some (Da.int (a % b)) else none) = _
    rw [if_pos k]
  · cases h
theorem evp_ltI (hf : Ev n f ρ eI p) (hg : Ev n g ρ eI q) : Ev n (opM ltD f g) ρ eB (p.bind fun a => q.bind fun b => some (decide (a < b))) := evp_op hf hg fun a b c S h => by cases h; rfl
theorem evp_leI (hf : Ev n f ρ eI p) (hg : Ev n g ρ eI q) : Ev n (opM leD f g) ρ eB (p.bind fun a => q.bind fun b => some (decide (a ≤ b))) := evp_op hf hg fun a b c S h => by cases h; rfl
theorem evp_gtI (hf : Ev n f ρ eI p) (hg : Ev n g ρ eI q) : Ev n (opM gtD f g) ρ eB (p.bind fun a => q.bind fun b => some (decide (b < a))) := evp_op hf hg fun a b c S h => by cases h; rfl
theorem evp_geI (hf : Ev n f ρ eI p) (hg : Ev n g ρ eI q) : Ev n (opM geD f g) ρ eB (p.bind fun a => q.bind fun b => some (decide (b ≤ a))) := evp_op hf hg fun a b c S h => by cases h; rfl
theorem eqvI (a b : Int) (S : Store) : eqvD S (.int a) (.int b) = some (decide (a = b)) := by
  have e : eqvD S (.int a) (.int b) = some (a == b) := rfl
  rw [e]
  by_cases h : a = b <;> simp [h]
theorem evp_eqI (hf : Ev n f ρ eI p) (hg : Ev n g ρ eI q) : Ev n (opM eqD f g) ρ eB (p.bind fun a => q.bind fun b => some (decide (a = b))) := evp_op hf hg fun a b c S h => by cases h; show (eqvD S _ _).map _ = _; rw [eqvI]; rfl
theorem evp_neI (hf : Ev n f ρ eI p) (hg : Ev n g ρ eI q) : Ev n (opM neD f g) ρ eB (p.bind fun a => q.bind fun b => some (!decide (a = b))) := evp_op hf hg fun a b c S h => by cases h; show (eqvD S _ _).map _ = _; rw [eqvI]; rfl
theorem evp_neg (hf : Ev n f ρ eI p) : Ev n (unM negD f) ρ eI (p.bind fun a => some (-a)) := evp_un hf fun a c S h => by cases h; rfl
theorem evp_eqS {p q : Option Str} (hf : Ev n f ρ eS p) (hg : Ev n g ρ eS q) : Ev n (opM eqD f g) ρ eB (p.bind fun a => q.bind fun b => some (decide (a = b))) := evp_op hf hg fun a b c S h => by cases h; rfl
theorem evp_neS {p q : Option Str} (hf : Ev n f ρ eS p) (hg : Ev n g ρ eS q) : Ev n (opM neD f g) ρ eB (p.bind fun a => q.bind fun b => some (!decide (a = b))) := evp_op hf hg fun a b c S h => by cases h; rfl
theorem flat_I (l : List Int) : (l.map Da.int).all flatD = true := by induction l with | nil => rfl | cons x l ih => simpa [flatD] using ih
theorem any_I (a : Int) (l : List Int) : ((l.map Da.int).any fun y => eqF y (.int a)) = decide (a ∈ l) := by
  induction l with
  | nil => rfl
  | cons x l ih =>
    rw [List.map_cons, List.any_cons, ih]
    have e : eqF (.int x) (.int a) = (x == a) := rfl
    rw [e]
    by_cases h : x = a
    · subst h; simp
    · have h2 : ¬ a = x := fun z => h z.symm
      simp [h, h2]
theorem inB_T (a : Int) (l : List Int) (S : Store) : inB S (.int a) (eT eI l) = some (decide (a ∈ l)) := by
  unfold inB eT seqOf
  simp only [flat_I, flatD, any_I, and_self, if_true]
theorem inB_L (a : Int) (l : List Int) (S : Store) : inB S (.int a) (eL eI l) = some (decide (a ∈ l)) := by
  unfold inB eL seqOf asL
  simp only [flat_I, flatD, any_I, and_self, if_true]
theorem evp_inT {q : Option (List Int)} (hf : Ev n f ρ eI p) (hg : Ev n g ρ (eT eI) q) : Ev n (opM inD f g) ρ eB (p.bind fun a => q.bind fun l => some (decide (a ∈ l))) := evp_op hf hg fun a b c S h => by cases h; unfold inD; rw [inB_T]; rfl
theorem evp_inL {q : Option (List Int)} (hf : Ev n f ρ eI p) (hg : Ev n g ρ (eL eI) q) : Ev n (opM inD f g) ρ eB (p.bind fun a => q.bind fun l => some (decide (a ∈ l))) := evp_op hf hg fun a b c S h => by cases h; unfold inD; rw [inB_L]; rfl
theorem evp_notinT {q : Option (List Int)} (hf : Ev n f ρ eI p) (hg : Ev n g ρ (eT eI) q) : Ev n (opM notInD f g) ρ eB (p.bind fun a => q.bind fun l => some (!decide (a ∈ l))) := evp_op hf hg fun a b c S h => by cases h; unfold notInD; rw [inB_T]; rfl
theorem evp_notinL {q : Option (List Int)} (hf : Ev n f ρ eI p) (hg : Ev n g ρ (eL eI) q) : Ev n (opM notInD f g) ρ eB (p.bind fun a => q.bind fun l => some (!decide (a ∈ l))) := evp_op hf hg fun a b c S h => by cases h; unfold notInD; rw [inB_L]; rfl
/-! sequences -/
def catP {τ : Type} (a b : List τ) : Option (List τ) := if a.length + b.length ≤ big then some (a ++ b) else none
theorem catP_some {τ : Type} {a b c : List τ} (h : catP a b = some c) : a.length + b.length ≤ big ∧ c = a ++ b := by
  unfold catP at h
  split at h
  · cases h; exact ⟨‹_›, rfl⟩
  · cases h
theorem evp_addT {p q : Option (List α)} (hf : Ev n f ρ (eT e) p) (hg : Ev n g ρ (eT e) q) : Ev n (opM addD f g) ρ (eT e) (p.bind fun a => q.bind fun b => catP a b) := evp_op hf hg fun a b c S h => by
  obtain ⟨h1, rfl⟩ := catP_some h
  show (if (a.map e).length + (b.map e).length ≤ big then some (Da.tup (a.map e ++ b.map e)) else none) = _
  rw [List.length_map, List.length_map, if_pos h1, ← List.map_append]
  rfl
theorem evp_catF {p q : Option (List α)} (hf : Ev n f ρ (eL e) p) (hg : Ev n g ρ (eL e) q) : Ev n (catF f g) ρ (List.map e) (p.bind fun a => q.bind fun b => catP a b) :=
  hf.bind (fun S => rfl) fun a c hc S ht => by
    obtain ⟨b, hb, hc⟩ := Option.bind_eq_some_iff.mp hc
    obtain ⟨h1, rfl⟩ := catP_some hc
    obtain ⟨X, hX⟩ := hg b hb S ht
    refine ⟨X, ?_⟩
    rw [hX]
    show (if (a.map e).length + (b.map e).length ≤ big then Res.ok (a.map e ++ b.map e) (S ++ X) else .bad) = _
    rw [List.length_map, List.length_map, if_pos h1, ← List.map_append]
theorem atI_map (l : List α) (i : Int) : L2.atI (l.map e) i = (L2.atI l i).map e := by
  unfold L2.atI
  rw [List.length_map]
  cases ixN l.length i with
  | none => rfl
  | some j => simp
theorem evp_ixT {p : Option (List α)} (hf : Ev n f ρ (eT e) p) (hg : Ev n g ρ eI q) : Ev n (opM ixD f g) ρ e (p.bind fun l => q.bind fun i => L2.atI l i) := evp_op hf hg fun l i c S h => by
  show L2.atI (l.map e) i = _
  rw [atI_map, h]; rfl
theorem evp_ixL {p : Option (List α)} (hf : Ev n f ρ (eL e) p) (hg : Ev n g ρ eI q) : Ev n (opM ixD f g) ρ e (p.bind fun l => q.bind fun i => L2.atI l i) := evp_op hf hg fun l i c S h => by
  show L2.atI (l.map e) i = _
  rw [atI_map, h]; rfl
theorem cutD_map (l : List α) (lo hi : Option Int) : cutD (l.map e) lo hi = (cutD l lo hi).map e := by
  unfold cutD
  rw [List.length_map, List.map_take, List.map_drop]
theorem evp_part (hf : Ev n f ρ eI p) : Ev n (partM f) ρ (some : Int → Option Int) p := fun a ha S hS => by
  obtain ⟨X, hX⟩ := hf a ha S hS
  exact ⟨X, by unfold partM; rw [hX]; rfl⟩
theorem evp_noPart : Ev n noPartM ρ (id : Option Int → Option Int) (some none) := .val fun S => rfl
theorem evp_partO {lo : M (Option Int)} {a : Option Int} (h : Ev n lo ρ (some : Int → Option Int) a) : Ev n lo ρ (id : Option Int → Option Int) (a.map some) := fun o ho S hS => by
  obtain ⟨i, hi, rfl⟩ := Option.map_eq_some_iff.mp ho
  exact h i hi S hS
theorem evp_slT {p : Option (List α)} {lo hi : M (Option Int)} {pl ph : Option (Option Int)} (hf : Ev n f ρ (eT e) p) (hl : Ev n lo ρ (id : Option Int → Option Int) pl) (hh : Ev n hi ρ (id : Option Int → Option Int) ph) : Ev n (sliceM slTD f lo hi) ρ (eT e) (p.bind fun l => pl.bind fun a => ph.bind fun b => some (cutD l a b)) :=
  hf.bind (fun S => rfl) fun l c hc S ht => by
    obtain ⟨a, ha, hc⟩ := Option.bind_eq_some_iff.mp hc
    obtain ⟨b, hb, hc⟩ := Option.bind_eq_some_iff.mp hc
    cases hc
    obtain ⟨X, hX⟩ := hl a ha S ht
    obtain ⟨Y, hY⟩ := hh b hb _ ht.app
    refine ⟨X ++ Y, ?_⟩
    rw [hX]
    simp only [Res.bind]
    rw [hY]
    show Res.ok (Da.tup (cutD (l.map e) a b)) (S ++ X ++ Y) = _
    rw [cutD_map, List.append_assoc]
    rfl
theorem evp_slL {p : Option (List α)} {lo hi : M (Option Int)} {pl ph : Option (Option Int)} (hf : Ev n f ρ (eL e) p) (hl : Ev n lo ρ (id : Option Int → Option Int) pl) (hh : Ev n hi ρ (id : Option Int → Option Int) ph) : Ev n (sliceM slLD f lo hi) ρ (eL e) (p.bind fun l => pl.bind fun a => ph.bind fun b => some (cutD l a b)) :=
  hf.bind (fun S => rfl) fun l c hc S ht => by
    obtain ⟨a, ha, hc⟩ := Option.bind_eq_some_iff.mp hc
    obtain ⟨b, hb, hc⟩ := Option.bind_eq_some_iff.mp hc
    cases hc
    obtain ⟨X, hX⟩ := hl a ha S ht
    obtain ⟨Y, hY⟩ := hh b hb _ ht.app
    refine ⟨X ++ Y, ?_⟩
    rw [hX]
    simp only [Res.bind]
    rw [hY]
    show Res.ok (Da.lst (cutD (l.map e) a b)) (S ++ X ++ Y) = _
    rw [cutD_map, List.append_assoc]
    rfl
theorem evp_lenT {p : Option (List α)} (hf : Ev n f ρ (eT e) p) : Ev n (callM lenD (consM f nilM)) ρ eI (p.bind fun l => some (l.length : Int)) := evp_call1 hf fun l c S h => by
  cases h
  show some (Da.int ((l.map e).length : Nat)) = _
  rw [List.length_map]
theorem evp_lenL {p : Option (List α)} (hf : Ev n f ρ (eL e) p) : Ev n (callM lenD (consM f nilM)) ρ eI (p.bind fun l => some (l.length : Int)) := evp_call1 hf fun l c S h => by
  cases h
  show some (Da.int ((l.map e).length : Nat)) = _
  rw [List.length_map]
theorem evp_tupleL {p : Option (List α)} (hf : Ev n f ρ (eL e) p) : Ev n (callM tupleD (consM f nilM)) ρ (eT e) p := fun l hl S hS => by
  obtain ⟨X, hX⟩ := hf l hl S hS
  exact ⟨X, by unfold callM consM; rw [hX]; rfl⟩
theorem evp_listOfT {p : Option (List α)} (hf : Ev n f ρ (eT e) p) {m : M (List Da)} (hm : ∀ l S S1, f ρ S = .ok (eT e l) S1 → m ρ S = .ok (l.map e) S1) : Ev n m ρ (List.map e) p := fun l hl S hS => by
  obtain ⟨X, hX⟩ := hf l hl S hS
  exact ⟨X, hm l S _ hX⟩
theorem truths_B (l : List Bool) : truths (l.map eB) = some l := by
  induction l with
  | nil => rfl
  | cons b l ih => rw [List.map_cons, truths, ih]; rfl
theorem evp_all {p : Option (List Bool)} (hf : Ev n f ρ (eL eB) p) : Ev n (callM allD (consM f nilM)) ρ eB (p.bind fun l => some (l.all id)) := evp_call1 hf fun l c S h => by
  cases h
  show (truths (l.map eB)).map (fun bs => Da.bl (bs.all id)) = _
  rw [truths_B]; rfl
theorem evp_any {p : Option (List Bool)} (hf : Ev n f ρ (eL eB) p) : Ev n (callM anyD (consM f nilM)) ρ eB (p.bind fun l => some (l.any id)) := evp_call1 hf fun l c S h => by
  cases h
  show (truths (l.map eB)).map (fun bs => Da.bl (bs.any id)) = _
  rw [truths_B]; rfl
theorem evp_int (hf : Ev n f ρ eI p) : Ev n (callM intD (consM f nilM)) ρ eI p := fun a ha S hS => by
  obtain ⟨X, hX⟩ := hf a ha S hS
  exact ⟨X, by unfold callM consM; rw [hX]; rfl⟩
theorem ints_I : ∀ l : List Int, intsOf (l.map eI) = some l
  | [] => rfl
  | x :: l => by rw [List.map_cons, intsOf, ints_I l]; rfl
theorem evp_sortI {p : Option (List Int)} (hf : Ev n f ρ (eL eI) p) : Ev n (siF f) ρ (List.map eI) (p.bind fun l => some (sortI l)) := hf.bind (fun S => rfl) fun l c hc S ht => by
  cases hc
  refine ⟨[], ?_⟩
  show (match (tryL S (eL eI l)).bind intsOf with | some ns => Res.ok ((sortI ns).map Da.int) S | none => .bad) = _
  have e : (tryL S (eL eI l)).bind intsOf = some l := ints_I l
  rw [e, List.append_nil]
def sortUP (l : List Int) : Option (List Int) := if l.length < 64 then some (sortU l) else none
theorem evp_sortSet {p : Option (List Int)} (hf : Ev n f ρ (eT eI) p) : Ev n (ssF f) ρ (List.map eI) (p.bind sortUP) := hf.bind (fun S => rfl) fun l c hc S ht => by
  unfold sortUP at hc
  split at hc
  · rename_i h
    cases hc
    refine ⟨[], ?_⟩
    show (match intsOf (l.map eI) with | some ns => if ns.length < 64 then Res.ok ((sortU ns).map Da.int) S else .bad | none => .bad) = _
    rw [ints_I]
    dsimp only
    rw [if_pos h, List.append_nil]
  · cases hc
theorem rows_T : ∀ l : List (List Int), rowsD (l.map (eT eI)) = some l := fun l => by
  induction l with
  | nil => rfl
  | cons r l ih =>
    have e : rowOf (eT eI r) = some r := by
      unfold rowOf eT
      exact ints_I r
    rw [List.map_cons, rowsD, e, ih]
def ok3B (l : List (List Int)) : Bool := l.all (fun r => !r.isEmpty) || (match l with | [] => false | r :: _ => r.isEmpty)
theorem ok3B_ok {l : List (List Int)} (h : ok3B l = true) : Ok3 l := by
  unfold ok3B at h
  rw [Bool.or_eq_true] at h
  rcases h with h | h
  · refine .inl fun r hr e => ?_
    have := List.all_eq_true.mp h r hr
    rw [e] at this
    cases this
  · cases l with
    | nil => cases h
    | cons r l =>
      have e : r = [] := by simpa using h
      exact .inr (by rw [e]; rfl)
def sortLP (l : List (List Int)) : Option (List (List Int)) := if ok3B l = true then some (sortL l) else none
theorem evp_sortL {p : Option (List (List Int))} (hf : Ev n f ρ (eL (eT eI)) p) : Ev n (slF f) ρ (List.map (eT eI)) (p.bind sortLP) := hf.bind (fun S => rfl) fun l c hc S ht => by
  unfold sortLP at hc
  split at hc
  · rename_i h
    cases hc
    refine ⟨[], ?_⟩
    show (match rowsD (l.map (eT eI)) with | some rs => if Ok3 rs then Res.ok ((sortL rs).map rowT) S else .bad | none => .bad) = _
    rw [rows_T]
    dsimp only
    rw [if_pos (ok3B_ok h), List.append_nil]
    rfl
  · cases hc
def sortLUP (l : List (List Int)) : Option (List (List Int)) := if l.length < 64 ∧ l.all (fun r => !r.isEmpty) = true then some (sortLU l) else none
theorem evp_sortLSet {p : Option (List (List Int))} (hf : Ev n f ρ (eL (eT eI)) p) : Ev n (ssTF f) ρ (List.map (eT eI)) (p.bind sortLUP) := hf.bind (fun S => rfl) fun l c hc S ht => by
  unfold sortLUP at hc
  split at hc
  · rename_i h
    cases hc
    refine ⟨[], ?_⟩
    show (match rowsD (l.map (eT eI)) with | some rs => if rs.length < 64 ∧ [] ∉ rs then Res.ok ((sortLU rs).map rowT) S else .bad | none => .bad) = _
    rw [rows_T]
    dsimp only
    rw [if_pos ⟨h.1, fun m => by have := List.all_eq_true.mp h.2 _ m; cases this⟩, List.append_nil]
    rfl
  · cases hc
theorem enum_map (l : List α) : enumL (l.map e) = (l.zipIdx.map fun p => (((p.2 : Nat) : Int), p.1)).map (eP eI e) := by
  unfold enumL
  rw [List.length_map]
  apply List.ext_getElem
  · simp
  · intro i h1 h2
    simp [eP]
theorem evp_enumT {p : Option (List α)} (hf : Ev n f ρ (eT e) p) : Ev n (itET f) ρ (List.map (eP eI e)) (p.bind fun l => some (l.zipIdx.map fun p => (((p.2 : Nat) : Int), p.1))) := hf.bind (fun S => rfl) fun l c hc S ht => by
  cases hc
  refine ⟨[], ?_⟩
  show Res.ok (enumL (l.map e)) S = _
  rw [enum_map, List.append_nil]
theorem evp_zipT {e2 : β → Da} {p : Option (List α)} {q : Option (List β)} (hf : Ev n f ρ (eT e) p) (hg : Ev n g ρ (eT e2) q) : Ev n (itZT f g) ρ (List.map (eP e e2)) (p.bind fun l => q.bind fun m => some (l.zip m)) := hf.bind (fun S => rfl) fun l c hc S ht => by
  obtain ⟨m, hm, hc⟩ := Option.bind_eq_some_iff.mp hc
  cases hc
  obtain ⟨X, hX⟩ := hg m hm S ht
  refine ⟨X, ?_⟩
  rw [hX]
  show Res.ok (zipL (l.map e) (m.map e2)) (S ++ X) = _
  congr 1
  unfold zipL
  rw [List.zipWith_map, List.zip_eq_zipWith, List.map_zipWith]
  rfl
/-! data compared -/
structure EqOn (e : α → Da) (py : α → PyData) : Prop where
  ev : ∀ S a, pyD S (e a) = some (py a)
  pp : ∀ a, pyP (e a) = some (py a)
  dec : ∀ a b, (PyData.eqv (py a) (py b) = true ↔ a = b)
  ns : ∀ a b, strPair (e a) (e b) = none
def eqP [DecidableEq α] (py : α → PyData) (a b : α) : Option Bool := if SeqAt.shaped (py a) = true ∧ SeqAt.shaped (py b) = true then some (decide (a = b)) else none
theorem eqvD_on [DecidableEq α] {py : α → PyData} (E : EqOn e py) {a b : α} {t : Bool} (h : eqP py a b = some t) (S : Store) : eqvD S (e a) (e b) = some t := by
  unfold eqP at h
  split at h
  · rename_i k
    cases h
    unfold eqvD
    rw [E.ns]
    unfold eqvP
    rw [E.ev, E.ev]
    dsimp only
    rw [if_pos k]
    congr 1
    have := E.dec a b
    cases q : PyData.eqv (py a) (py b) with
    | true => simp [this.mp q]
    | false =>
      have n : a ≠ b := fun z => by rw [this.mpr z] at q; cases q
      simp [n]
  · cases h
theorem evp_eqD [DecidableEq α] {py : α → PyData} (E : EqOn e py) {p q : Option α} (hf : Ev n f ρ e p) (hg : Ev n g ρ e q) : Ev n (opM eqD f g) ρ eB (p.bind fun a => q.bind fun b => eqP py a b) := evp_op hf hg fun a b c S h => by unfold eqD; rw [eqvD_on E h]; rfl
theorem evp_neD [DecidableEq α] {py : α → PyData} (E : EqOn e py) {p q : Option α} (hf : Ev n f ρ e p) (hg : Ev n g ρ e q) : Ev n (opM neD f g) ρ eB (p.bind fun a => q.bind fun b => (eqP py a b).map (!·)) := evp_op hf hg fun a b c S h => by
  obtain ⟨t, ht, rfl⟩ := Option.map_eq_some_iff.mp h
  unfold neD; rw [eqvD_on E ht]; rfl
theorem pyPs_map {py : α → PyData} (h : ∀ a, pyP (e a) = some (py a)) : ∀ l : List α, pyPs (l.map e) = some (l.map py)
  | [] => rfl
  | a :: l => by rw [List.map_cons, pyPs, h a, pyPs_map h l]; rfl
theorem eqvAll_map {py : α → PyData} (h : ∀ a b, (PyData.eqv (py a) (py b) = true ↔ a = b)) : ∀ l m : List α, (PyData.eqvAll (l.map py) (m.map py) = true ↔ l = m)
  | [], [] => by simp [PyData.eqvAll]
  | [], _ :: _ => by simp [PyData.eqvAll]
  | _ :: _, [] => by simp [PyData.eqvAll]
  | a :: l, b :: m => by
    rw [List.map_cons, List.map_cons, PyData.eqvAll, Bool.and_eq_true, h a b, eqvAll_map h l m]
    simp
theorem EqOn.int : EqOn eI PyData.int := ⟨fun _ _ => rfl, fun _ => rfl, fun a b => by simp [PyData.eqv], fun _ _ => rfl⟩
theorem EqOn.tup {py : α → PyData} (E : EqOn e py) : EqOn (eT e) fun l => .tuple (l.map py) :=
  ⟨fun S l => show (pyPs (l.map e)).map PyData.tuple = _ by rw [pyPs_map E.pp]; rfl, fun l => show (pyPs (l.map e)).map PyData.tuple = _ by rw [pyPs_map E.pp]; rfl, fun a b => by rw [PyData.eqv]; exact eqvAll_map E.dec a b, fun _ _ => rfl⟩
theorem EqOn.lst {py : α → PyData} (E : EqOn e py) : EqOn (eL e) fun l => .list (l.map py) :=
  ⟨fun S l => show (pyPs (l.map e)).map PyData.list = _ by rw [pyPs_map E.pp]; rfl, fun l => show (pyPs (l.map e)).map PyData.list = _ by rw [pyPs_map E.pp]; rfl, fun a b => by rw [PyData.eqv]; exact eqvAll_map E.dec a b, fun _ _ => rfl⟩
/-! None -/
theorem evp_isN {p : Option (Option α)} (he : ∀ a, e a ≠ .non) (hf : Ev n f ρ (eO e) p) : Ev n (opM isND f (cM .non)) ρ eB (p.bind fun a => some a.isNone) :=
  hf.bind (fun S => rfl) fun a c hc S ht => by
    cases hc
    refine ⟨[], ?_⟩
    rw [List.append_nil]
    cases a with
    | none => rfl
    | some a =>
      show ofO (isND (e a) .non S) S = _
      cases q : e a <;> first | rfl | exact absurd q (he a)
theorem evp_notN {p : Option (Option α)} (he : ∀ a, e a ≠ .non) (hf : Ev n f ρ (eO e) p) : Ev n (opM notND f (cM .non)) ρ eB (p.bind fun a => some a.isSome) :=
  hf.bind (fun S => rfl) fun a c hc S ht => by
    cases hc
    refine ⟨[], ?_⟩
    rw [List.append_nil]
    cases a with
    | none => rfl
    | some a =>
      show ofO (notND (e a) .non S) S = _
      cases q : e a <;> first | rfl | exact absurd q (he a)
end
end NL

set_option Elab.async false
set_option linter.all false
set_option autoImplicit false
set_option maxRecDepth 100000
set_option maxHeartbeats 4100000
namespace NL
open PySem PySem.Spec PyProof.Rows L2
section
variable {n : Nat} {α β γ δ : Type} {ρ : En} {e : α → Da} {e1 : β → Da} {e2 : γ → Da} {f g h : M Da}
theorem evp_some {p : Option α} (hf : Ev n f ρ e p) : Ev n f ρ (eO e) (p.map some) := fun o ho S hS => by
  obtain ⟨a, ha, rfl⟩ := Option.map_eq_some_iff.mp ho
  exact hf a ha S hS
theorem evp_nonO : Ev n (cM .non) ρ (eO e) (some none) := .val fun S => rfl
theorem evp_tup0 : Ev n (tupM nilM) ρ (eT e) (some []) := .val fun S => rfl
theorem evp_tup1 {p : Option α} (hf : Ev n f ρ e p) : Ev n (tupM (consM f nilM)) ρ (eT e) (p.bind fun a => some [a]) := hf.bind (fun S => show (Res.bind (consM f nilM ρ S) _) = (f ρ S).bind fun a S1 => .ok (Da.tup [a]) S1 by unfold consM; cases f ρ S <;> rfl) fun a c hc S hS => by
  cases hc; exact ⟨[], by rw [List.append_nil]; rfl⟩
theorem two_bind {f g : M Da} {S : Store} {κ : Type} {k : List Da → Store → Res κ} : (consM f (consM g nilM) ρ S).bind k = (f ρ S).bind fun a S1 => (g ρ S1).bind fun b S2 => k [a, b] S2 := by
  unfold consM
  cases f ρ S with
  | ok a S1 => dsimp only [Res.bind]; cases g ρ S1 <;> rfl
  | _ => rfl
theorem three_bind {f g h : M Da} {S : Store} {κ : Type} {k : List Da → Store → Res κ} : (consM f (consM g (consM h nilM)) ρ S).bind k = (f ρ S).bind fun a S1 => (g ρ S1).bind fun b S2 => (h ρ S2).bind fun c S3 => k [a, b, c] S3 := by
  unfold consM
  cases f ρ S with
  | ok a S1 =>
    dsimp only [Res.bind]
    cases g ρ S1 with
    | ok b S2 => dsimp only [Res.bind]; cases h ρ S2 <;> rfl
    | _ => rfl
  | _ => rfl
theorem Ev.two {f g : M Da} {p : Option β} {q : Option γ} (hf : Ev n f ρ e1 p) (hg : Ev n g ρ e2 q) {κ τ : Type} {m : M κ} {k : List Da → Store → Res κ} (hm : ∀ S, m ρ S = (consM f (consM g nilM) ρ S).bind k) {h2 : τ → κ} {r : β → γ → Option τ} (hr : ∀ a b c, r a b = some c → ∀ S, NTb n S → ∃ X, k [e1 a, e2 b] S = .ok (h2 c) (S ++ X)) :
    Ev n m ρ h2 (p.bind fun a => q.bind fun b => r a b) := hf.bind (fun S => (hm S).trans two_bind) fun a c hc S hS => by
  obtain ⟨b, hb, hc⟩ := Option.bind_eq_some_iff.mp hc
  obtain ⟨X, hX⟩ := hg b hb S hS
  obtain ⟨Y, hY⟩ := hr a b c hc _ hS.app
  exact ⟨X ++ Y, by rw [hX, ← List.append_assoc]; exact hY⟩
theorem evp_tup2 {p q : Option α} (hf : Ev n f ρ e p) (hg : Ev n g ρ e q) : Ev n (tupM (consM f (consM g nilM))) ρ (eT e) (p.bind fun a => q.bind fun b => some [a, b]) := hf.two hg (fun S => rfl) fun a b c hc S hS => by cases hc; exact ⟨[], by rw [List.append_nil]; rfl⟩
theorem evp_pair {p : Option β} {q : Option γ} (hf : Ev n f ρ e1 p) (hg : Ev n g ρ e2 q) : Ev n (tupM (consM f (consM g nilM))) ρ (eP e1 e2) (p.bind fun a => q.bind fun b => some (a, b)) := hf.two hg (fun S => rfl) fun a b c hc S hS => by cases hc; exact ⟨[], by rw [List.append_nil]; rfl⟩
theorem evp_list0 : Ev n (listM nilM) ρ (List.map e) (some []) := .val fun S => rfl
theorem evp_list1 {p : Option α} (hf : Ev n f ρ e p) : Ev n (listM (consM f nilM)) ρ (List.map e) (p.bind fun a => some [a]) := hf.bind (fun S => show (Res.bind (consM f nilM ρ S) _) = (f ρ S).bind fun a S1 => .ok [a] S1 by unfold consM; cases f ρ S <;> rfl) fun a c hc S hS => by
  cases hc; exact ⟨[], by rw [List.append_nil]; rfl⟩
theorem evp_list2 {p q : Option α} (hf : Ev n f ρ e p) (hg : Ev n g ρ e q) : Ev n (listM (consM f (consM g nilM))) ρ (List.map e) (p.bind fun a => q.bind fun b => some [a, b]) := hf.two hg (fun S => rfl) fun a b c hc S hS => by cases hc; exact ⟨[], by rw [List.append_nil]; rfl⟩
def catSP (a b : Str) : Option Str := if a.length + b.length ≤ big then some (a ++ b) else none
theorem evp_addS {p q : Option Str} (hf : Ev n f ρ eS p) (hg : Ev n g ρ eS q) : Ev n (opM addD f g) ρ eS (p.bind fun a => q.bind fun b => catSP a b) := evp_op hf hg fun a b c S h => by
  unfold catSP at h
  split at h
  · rename_i k
    cases h
    show (if a.length + b.length ≤ big then some (Da.str (a ++ b)) else none) = _
    rw [if_pos k]
  · cases h
theorem evp_leleI {p q r : Option Int} (hf : Ev n f ρ eI p) (hg : Ev n g ρ eI q) (hh : Ev n h ρ eI r) : Ev n (chainM leD leD f g h) ρ eB (p.bind fun a => q.bind fun b => if a ≤ b then r.bind fun c => some (decide (b ≤ c)) else some false) :=
  hf.bind (fun S => rfl) fun a c hc S hS => by
    obtain ⟨b, hb, hc⟩ := Option.bind_eq_some_iff.mp hc
    obtain ⟨X, hX⟩ := hg b hb S hS
    rw [hX]
    simp only [Res.bind]
    by_cases k : a ≤ b
    · rw [if_pos k] at hc
      obtain ⟨d, hd, hc⟩ := Option.bind_eq_some_iff.mp hc
      cases hc
      obtain ⟨Y, hY⟩ := hh d hd _ hS.app
      refine ⟨X ++ Y, ?_⟩
      have e1 : leD (eI a) (eI b) (S ++ X) = some (.bl true) := by show some (Da.bl (decide (a ≤ b))) = _; rw [decide_eq_true k]
      rw [e1]
      simp only [ofO, Res.bind]
      rw [hY, List.append_assoc]
      rfl
    · rw [if_neg k] at hc
      cases hc
      refine ⟨X, ?_⟩
      have e1 : leD (eI a) (eI b) (S ++ X) = some (.bl false) := by show some (Da.bl (decide (a ≤ b))) = _; rw [decide_eq_false k]
      rw [e1]
      rfl
theorem evp_isi {T t : Ty} {p : Option α} (ht : ∀ S a, tyD S (e a) = some t) (hf : Ev n f ρ e p) : Ev n (isiM T f) ρ eB (p.bind fun _ => some (isTy T t)) := hf.bind (fun S => rfl) fun a c hc S hS => by
  cases hc
  exact ⟨[], by rw [ht, List.append_nil]⟩
def Fn0 (n : Nat) (m : Mf) (e : α → Da) (p : Option α) : Prop := ∀ r S, NTb n S → p = some r → ∃ X, m [] S = .ok (e r) (S ++ X)
theorem evp_fn0 {m : Mf} {p : Option α} (hm : Fn0 n m e p) : Ev n (callF0 m) ρ e p := fun a ha S hS => hm a S hS ha
theorem fn0_of {N : Nat} {b : MS} {p : Option α} (h : EvS n b (List.replicate N none) e p) : Fn0 n (defM N b) e p := fun r S hS hr => by
  obtain ⟨X, hX⟩ := h r hr S hS
  exact ⟨X, show RS.res (b _ S) = _ by exact congrArg RS.res hX⟩
/-! statements that go on -/
def EvX {τ : Type} (n : Nat) (s : MS) (ρ : En) (F : τ → En → Prop) (p : Option τ) : Prop := ∀ r, p = some r → ∀ S, NTb n S → ∃ ρ2 X, s ρ S = .nx ρ2 (S ++ X) ∧ F r ρ2
section
variable {τ : Type} {F : τ → En → Prop} {body s : MS}
theorem evx_set1 {i : Nat} {p : Option β} {k : β → Option τ} (hf : Ev n f ρ e1 p) (hF : ∀ b t, k b = some t → F t (ρ.set i (some (e1 b)))) : EvX n (setS i f) ρ F (p.bind k) := fun r hr S hS => by
  obtain ⟨b, hb, hr⟩ := Option.bind_eq_some_iff.mp hr
  obtain ⟨X, hX⟩ := hf b hb S hS
  exact ⟨_, X, by unfold setS; rw [hX]; rfl, hF b r hr⟩
theorem evx_set {i : Nat} {p : Option β} {k : β → Option τ} {ρ1 : β → En} (hf : Ev n f ρ e1 p) (hρ : ∀ b, ρ.set i (some (e1 b)) = ρ1 b) (hs : ∀ b, EvX n s (ρ1 b) F (k b)) : EvX n (seqS (setS i f) s) ρ F (p.bind k) := fun r hr S hS => by
  obtain ⟨b, hb, hr⟩ := Option.bind_eq_some_iff.mp hr
  obtain ⟨X, hX⟩ := hf b hb S hS
  obtain ⟨ρ2, Y, hY, hF⟩ := hs b r hr (S ++ X) hS.app
  exact ⟨ρ2, X ++ Y, by rw [ev_seq_set hX (hρ b) rfl, hY, List.append_assoc], hF⟩
theorem evx_skip {t : τ} (hF : F t ρ) : EvX n skipS ρ F (some t) := fun r hr S hS => by
  cases hr
  exact ⟨ρ, [], by rw [List.append_nil]; rfl, hF⟩
theorem evx_seq {κ : Type} {F1 : κ → En → Prop} {p : Option κ} {k : κ → Option τ} (h1 : EvX n body ρ F1 p) (h2 : ∀ a ρ', F1 a ρ' → EvX n s ρ' F (k a)) : EvX n (seqS body s) ρ F (p.bind k) := fun r hr S hS => by
  obtain ⟨a, ha, hr⟩ := Option.bind_eq_some_iff.mp hr
  obtain ⟨ρ1, X, hX, F1a⟩ := h1 a ha S hS
  obtain ⟨ρ2, Y, hY, hF⟩ := h2 a ρ1 F1a r hr (S ++ X) hS.app
  refine ⟨ρ2, X ++ Y, ?_, hF⟩
  unfold seqS
  rw [hX]
  show s ρ1 (S ++ X) = _
  rw [hY, List.append_assoc]
theorem evs_seq {F1 : τ → En → Prop} {p : Option τ} {k : τ → Option α} (h1 : EvX n body ρ F1 p) (h2 : ∀ a ρ', F1 a ρ' → EvS n s ρ' e (k a)) : EvS n (seqS body s) ρ e (p.bind k) := fun r hr S hS => by
  obtain ⟨a, ha, hr⟩ := Option.bind_eq_some_iff.mp hr
  obtain ⟨ρ1, X, hX, F1a⟩ := h1 a ha S hS
  obtain ⟨Y, hY⟩ := h2 a ρ1 F1a r hr (S ++ X) hS.app
  refine ⟨X ++ Y, ?_⟩
  unfold seqS
  rw [hX]
  show s ρ1 (S ++ X) = _
  rw [hY, List.append_assoc]
theorem evx_if {c : M Bool} {a b : MS} {pc : Option Bool} {p q : Option τ} (hc : Ev n c ρ (id : Bool → Bool) pc) (hf : EvX n a ρ F p) (hg : EvX n b ρ F q) : EvX n (ifS c a b) ρ F (pc.bind fun t => if t = true then p else q) := fun r hr S hS => by
  obtain ⟨t, ht, hr⟩ := Option.bind_eq_some_iff.mp hr
  obtain ⟨X, hX⟩ := hc t ht S hS
  unfold ifS
  rw [hX]
  cases t with
  | true =>
    obtain ⟨ρ2, Y, hY, hF⟩ := hf r hr (S ++ X) hS.app
    exact ⟨ρ2, X ++ Y, by rw [← List.append_assoc]; exact hY, hF⟩
  | false =>
    obtain ⟨ρ2, Y, hY, hF⟩ := hg r hr (S ++ X) hS.app
    exact ⟨ρ2, X ++ Y, by rw [← List.append_assoc]; exact hY, hF⟩
/-- x, y = a, b -/
theorem evx_unp2 {i j : Nat} {p : Option β} {q : Option γ} {k : β → γ → Option τ} (hf : Ev n f ρ e1 p) (hg : Ev n g ρ e2 q) (hF : ∀ a b t, k a b = some t → F t ((ρ.set i (some (e1 a))).set j (some (e2 b)))) : EvX n (asgGS (tupT 2 (consT (nameT i) (consT (nameT j) (nilT)))) (tupM (consM f (consM g nilM)))) ρ F (p.bind fun a => q.bind fun b => k a b) := fun r hr S hS => by
  obtain ⟨a, ha, hr⟩ := Option.bind_eq_some_iff.mp hr
  obtain ⟨b, hb, hr⟩ := Option.bind_eq_some_iff.mp hr
  obtain ⟨X, hX⟩ := evp_pair hf hg (a, b) (by rw [ha, hb]; rfl) S hS
  refine ⟨_, X, ?_, hF a b r hr⟩
  unfold asgGS
  rw [hX]
  rfl
end
theorem evp_same {s : MS} {p q : Option α} (h : EvS n s ρ e p) (k : q = p) : EvS n s ρ e q := k ▸ h
theorem evx_same {τ : Type} {F : τ → En → Prop} {s : MS} {p q : Option τ} (h : EvX n s ρ F p) (k : q = p) : EvX n s ρ F q := k ▸ h
theorem depth_TI (l : List Int) : (NestedKey.tup (l.map NestedKey.num)).depth ≤ 8 := by
  have : ∀ l : List Int, NestedKey.depthAll (l.map NestedKey.num) = 0 := fun l => by
    induction l with
    | nil => rfl
    | cons x l ih => rw [List.map_cons, NestedKey.depthAll, ih]; rfl
  rw [NestedKey.depth, this]; decide
theorem depth_TTI (l : List (List Int)) : (NestedKey.tup (l.map fun l => NestedKey.tup (l.map NestedKey.num))).depth ≤ 8 := by
  have h0 : ∀ l : List Int, NestedKey.depthAll (l.map NestedKey.num) = 0 := fun l => by
    induction l with
    | nil => rfl
    | cons x l ih => rw [List.map_cons, NestedKey.depthAll, ih]; rfl
  have : ∀ l : List (List Int), NestedKey.depthAll (l.map fun l => NestedKey.tup (l.map NestedKey.num)) ≤ 1 := fun l => by
    induction l with
    | nil => exact Nat.zero_le _
    | cons x l ih => rw [List.map_cons, NestedKey.depthAll, NestedKey.depth, h0]; omega
  have := this l
  rw [NestedKey.depth]; omega
/-! for, where each turn goes on -/
def forP {σ τ : Type} (step : τ → σ → Option σ) : List τ → σ → Option σ
  | [], s => some s
  | x :: l, s => (step x s).bind (forP step l)
theorem evx_for {σ : Type} {tg : Tg} {src : M (List Da)} {body : MS} {p : Option (List β)} {F : σ → En → Prop} {step : β → σ → Option σ} {st : σ} (hs : Ev n src ρ (List.map e1) p) (h0 : F st ρ) (hb : ∀ x s ρ, F s ρ → ∃ ρ1, bindT tg (e1 x) ρ = some ρ1 ∧ EvX n body ρ1 F (step x s)) :
    EvX n (forS tg src body) ρ F (p.bind fun l => forP step l st) := fun r hr S hS => by
  obtain ⟨l, hl, hr⟩ := Option.bind_eq_some_iff.mp hr
  obtain ⟨X, hX⟩ := hs l hl S hS
  have key : ∀ (l : List β) (st s' : σ) (ρ : En) (S : Store), forP step l st = some s' → F st ρ → NTb n S → ∃ ρ2 Y, forL tg body (l.map e1) ρ S = .nx ρ2 (S ++ Y) ∧ F s' ρ2 := fun l => by
    induction l with
    | nil => intro st s' ρ S h hF hS; cases h; exact ⟨ρ, [], by rw [List.append_nil]; rfl, hF⟩
    | cons x l ih =>
      intro st s' ρ S h hF hS
      obtain ⟨s1, h1, h⟩ := Option.bind_eq_some_iff.mp (show ((step x st).bind (forP step l)) = some s' from h)
      obtain ⟨ρ1, e1', hx⟩ := hb x st ρ hF
      obtain ⟨ρ2, X, e2', F2⟩ := hx s1 h1 S hS
      obtain ⟨ρ3, Y, e3, F3⟩ := ih s1 s' ρ2 _ h F2 hS.app
      refine ⟨ρ3, X ++ Y, ?_, F3⟩
      rw [List.map_cons]
      unfold forL
      rw [e1']
      dsimp only
      rw [e2']
      dsimp only
      rw [e3, List.append_assoc]
  obtain ⟨ρ2, Y, e2', F2⟩ := key l st r ρ (S ++ X) hr h0 hS.app
  refine ⟨ρ2, X ++ Y, ?_, F2⟩
  unfold forS
  rw [hX]
  show forL tg body (l.map e1) ρ (S ++ X) = _
  rw [e2', List.append_assoc]
/-! while -/
def whileP {σ : Type} (c : σ → Option Bool) (b : σ → Option σ) : Nat → σ → Option σ
  | 0, _ => none
  | k + 1, s => (c s).bind fun t => if t = true then (b s).bind (whileP c b k) else some s
theorem evx_while {σ : Type} {ct : M Bool} {body : MS} {F : σ → En → Prop} {c : σ → Option Bool} {b : σ → Option σ} (hc : ∀ s ρ, F s ρ → Ev n ct ρ (id : Bool → Bool) (c s)) (hb : ∀ s ρ, F s ρ → EvX n body ρ F (b s)) : ∀ (N : Nat) {st : σ} {ρ : En}, F st ρ → EvX n (whileL ct body N) ρ F (whileP c b N st)
  | 0, st, ρ, h0, r, hr, S, hS => nomatch hr
  | N + 1, st, ρ, h0, r, hr, S, hS => by
    obtain ⟨t, ht, hr⟩ := Option.bind_eq_some_iff.mp (show ((c st).bind fun t => if t = true then (b st).bind (whileP c b N) else some st) = some r from hr)
    obtain ⟨X, hX⟩ := hc st ρ h0 t ht S hS
    unfold whileL
    rw [hX]
    cases t with
    | false =>
      cases hr
      exact ⟨ρ, X, rfl, h0⟩
    | true =>
      obtain ⟨s1, h1, hr⟩ := Option.bind_eq_some_iff.mp (show ((b st).bind (whileP c b N)) = some r from hr)
      obtain ⟨ρ1, Y, hY, F1⟩ := hb st ρ h0 s1 h1 (S ++ X) hS.app
      obtain ⟨ρ2, Z, hZ, F2⟩ := evx_while hc hb N F1 r hr _ hS.app.app
      refine ⟨ρ2, X ++ (Y ++ Z), ?_, F2⟩
      show (match body ρ (S ++ X) with
        | .nx ρ2 S2 => whileL ct body N ρ2 S2
        | .ct ρ2 S2 => whileL ct body N ρ2 S2
        | .bk ρ2 S2 => .nx ρ2 S2
        | .rt d S2 => .rt d S2
        | .exc c d ρ2 S2 => .exc c d ρ2 S2
        | .bad => .bad) = _
      rw [hY]
      dsimp only
      rw [hZ]
      simp [List.append_assoc]
/-- a text, sign by sign -/
def signs (x : Str) : List Str := x.cps.toList.map fun c => ⟨#[c]⟩
theorem evp_itS {p : Option Str} (hf : Ev n f ρ eS p) : Ev n (itS f) ρ (List.map eS) (p.bind fun x => some (signs x)) := hf.bind (fun S => rfl) fun x c hc S hS => by
  cases hc
  refine ⟨[], ?_⟩
  rw [List.append_nil]
  show Res.ok _ S = _
  unfold signs
  rw [List.map_map]
  rfl
def revP (x : Str) : Option Str := if (revT x).length ≤ big then some (revT x) else none
theorem evp_revS {p : Option Str} (hf : Ev n f ρ eS p) : Ev n (revSM f) ρ eS (p.bind revP) := hf.bind (fun S => rfl) fun x c hc S hS => by
  unfold revP at hc
  split at hc
  · rename_i k
    cases hc
    refine ⟨[], ?_⟩
    show (if (revT x).length ≤ big then Res.ok (Da.str (revT x)) S else .bad) = _
    rw [if_pos k, List.append_nil]
  · cases hc
/-! len({k: True for ..}): how many unlike keys -/
structure KeyOn (e : α → Da) (nk : α → NestedKey) : Prop where
  key : ∀ a, nkD (e a) = some (nk a)
  inj : ∀ a b, nk a = nk b → a = b
  tup : ∀ a, ∃ l, e a = .tup l
theorem nkDs_map {nk : α → NestedKey} (h : ∀ a, nkD (e a) = some (nk a)) : ∀ l : List α, nkDs (l.map e) = some (l.map nk)
  | [] => rfl
  | a :: l => by rw [List.map_cons, nkDs, h a, nkDs_map h l]; rfl
theorem KeyOn.ints : KeyOn (eT eI) fun l => .tup (l.map NestedKey.num) :=
  ⟨fun l => show (nkDs (l.map eI)).map NestedKey.tup = _ by rw [nkDs_map (nk := NestedKey.num) fun _ => rfl]; rfl, fun a b h => by
    injection h with h
    exact List.map_inj_right (fun x y q => by injection q) |>.mp h, fun l => ⟨_, rfl⟩⟩
theorem KeyOn.tups {nk : α → NestedKey} (K : KeyOn e nk) : KeyOn (eT e) fun l => .tup (l.map nk) :=
  ⟨fun l => show (nkDs (l.map e)).map NestedKey.tup = _ by rw [nkDs_map K.key]; rfl, fun a b h => by
    injection h with h
    exact List.map_inj_right (fun x y q => K.inj x y q) |>.mp h, fun l => ⟨_, rfl⟩⟩
/-- the unlike ones -/
def unl {τ : Type} [DecidableEq τ] : List τ → List τ → List τ
  | [], acc => acc
  | x :: l, acc => unl l (if x ∈ acc then acc else acc ++ [x])
theorem evp_dclen [DecidableEq γ] {nk : γ → NestedKey} (K : KeyOn e2 nk) (hd : ∀ a, (nk a).depth ≤ 8) {own : List Nat} {tg : Tg} {src : M (List Da)} {key val : M Da} {p : Option (List β)} {v : β → Option γ} {ρ0 : En} {ρ1 : β → En} (hs : Ev n src ρ (List.map e1) p) (hw : wipeD ρ own = ρ0) (hb : ∀ x, bindT tg (e1 x) ρ0 = some (ρ1 x)) (he : ∀ x, Ev n key (ρ1 x) e2 (v x)) (hv : ∀ x, Ev n val (ρ1 x) eB (some true)) :
    Ev n (callM dlenD (consM (dcM own tg src yesM key val) nilM)) ρ eI (p.bind fun l => (if l.length ≤ 1000000 then some l else none).bind fun l => (lcP (fun _ => some true) v l).bind fun ks => some ((unl ks []).length : Int)) := by
  have tk : ∀ a, tupKey (e2 a) = some (nk a) := fun a => by
    obtain ⟨l, hl⟩ := K.tup a
    have := K.key a
    rw [hl] at this ⊢
    unfold tupKey
    dsimp only
    rw [this]
    exact if_pos (hd a)
  -- what is there: the keys acc, each with True
  have has : ∀ (x : γ) (acc : List γ), hasN (nk x) (acc.map fun k => (e2 k, Da.bl true)) = decide (x ∈ acc) := fun x acc => by
    induction acc with
    | nil => rfl
    | cons y acc ih =>
      rw [List.map_cons, hasN, ih, K.key]
      by_cases q : x = y
      · simp [q]
      · have : nk y ≠ nk x := fun z => q (K.inj _ _ z).symm
        simp [q, this]
  have same : ∀ (x : γ) (acc : List γ), setN (nk x) (Da.bl true) (acc.map fun k => (e2 k, Da.bl true)) = acc.map fun k => (e2 k, Da.bl true) := fun x acc => by
    induction acc with
    | nil => rfl
    | cons y acc ih => rw [List.map_cons, setN, ih]; split <;> rfl
  have put : ∀ (x : γ) (acc : List γ), putN (e2 x) (nk x) (Da.bl true) (acc.map fun k => (e2 k, Da.bl true)) = (if x ∈ acc then acc else acc ++ [x]).map fun k => (e2 k, Da.bl true) := fun x acc => by
    unfold putN
    rw [has, same]
    by_cases q : x ∈ acc
    · rw [if_pos q, if_pos (by simpa using q)]
    · rw [if_neg q, if_neg (by simpa using q), List.map_append]; rfl
  have keyL : ∀ (l : List β) (ks : List γ), lcP (fun _ => some true) v l = some ks → ∀ (acc : List γ) (S : Store), NTb n S → ∃ X, dcL tg yesM key val ρ0 (l.map e1) (acc.map fun k => (e2 k, Da.bl true)) S = some ((unl ks acc).map fun k => (e2 k, Da.bl true), S ++ X) := fun l => by
    induction l with
    | nil => intro ks h acc S hS; cases h; exact ⟨[], by rw [List.append_nil]; rfl⟩
    | cons x l ih =>
      intro ks h acc S hS
      have h : ((v x).bind fun y => (lcP (fun _ => some true) v l).bind fun r => some (y :: r)) = some ks := h
      obtain ⟨y, hy, h⟩ := Option.bind_eq_some_iff.mp h
      obtain ⟨t, ht, h⟩ := Option.bind_eq_some_iff.mp h
      cases h
      obtain ⟨Y, hY⟩ := he x y hy S hS
      obtain ⟨Z, hZ⟩ := hv x true rfl (S ++ Y) hS.app
      obtain ⟨W, hW⟩ := ih t ht (if y ∈ acc then acc else acc ++ [y]) (S ++ Y ++ Z) hS.app.app
      refine ⟨Y ++ (Z ++ W), ?_⟩
      rw [List.map_cons]
      unfold dcL
      rw [hb x]
      dsimp only [yesM]
      rw [hY]
      dsimp only
      rw [hZ]
      dsimp only
      rw [tk]
      dsimp only
      have e3 := put y acc
      rw [show eB true = Da.bl true from rfl, e3, hW]
      simp [unl, List.append_assoc]
  refine hs.bind (fun S => show Res.bind (consM (dcM own tg src yesM key val) nilM ρ S) _ = (src ρ S).bind fun ds S1 => (if ds.length ≤ 1000000 then celN (dcL tg yesM key val ρ0 ds [] S1) else .bad).bind fun d S2 => ofO (dlenD [d] S2) S2 by
    unfold consM dcM
    rw [hw]
    cases src ρ S with
    | ok ds S1 => dsimp only [Res.bind]; cases (if ds.length ≤ 1000000 then celN (dcL tg yesM key val ρ0 ds [] S1) else .bad) <;> rfl
    | _ => rfl) fun l c hc S hS => ?_
  obtain ⟨l2, hl2, hc⟩ := Option.bind_eq_some_iff.mp hc
  split at hl2
  · rename_i hl
    cases hl2
    obtain ⟨ks, hks, hc⟩ := Option.bind_eq_some_iff.mp hc
    cases hc
    obtain ⟨X, hX⟩ := keyL l ks hks [] S hS
    refine ⟨X ++ [.dN ((unl ks []).map fun k => (e2 k, Da.bl true))], ?_⟩
    rw [List.length_map, if_pos hl]
    have hX : dcL tg yesM key val ρ0 (l.map e1) [] S = some ((unl ks []).map fun k => (e2 k, Da.bl true), S ++ X) := hX
    rw [hX]
    have e3 : dlenD [Da.cell (S ++ X).length] (S ++ X ++ [.dN ((unl ks []).map fun k => (e2 k, Da.bl true))]) = some (.int ((unl ks []).length : Int)) := by
      unfold dlenD dctN
      simp
    show ofO (dlenD [Da.cell (S ++ X).length] (S ++ X ++ [.dN ((unl ks []).map fun k => (e2 k, Da.bl true))])) _ = _
    rw [e3, List.append_assoc]
    rfl
  · cases hl2
end
/-! ### what all laws want -/
theorem rngL_ints (n : Nat) : rngL 0 n = ((List.range n).map fun i : Nat => (i : Int)).map Da.int := by
  unfold rngL
  rw [List.map_map]
  apply List.map_congr_left
  intro i _
  simp
theorem mem_ints {n : Nat} {x : Int} : x ∈ ((List.range n).map fun i : Nat => (i : Int)) ↔ 0 ≤ x ∧ x < n := by
  rw [List.mem_map]
  constructor
  · rintro ⟨i, h, rfl⟩
    rw [List.mem_range] at h
    omega
  · intro h
    exact ⟨x.toNat, by rw [List.mem_range]; omega, by omega⟩
theorem forL_invN {tg : Tg} {body : MS} {P : Nat → En → Store → Prop} {T : Nat} : ∀ {ds : List Da} {t : Nat} {ρ : En} {S : Store}, t + ds.length ≤ T → P t ρ S → (∀ d ∈ ds, ∀ t ρ S, t < T → P t ρ S → ∃ ρ1, bindT tg d ρ = some ρ1 ∧ ∃ ρ2 S2, body ρ1 S = .nx ρ2 S2 ∧ P (t + 1) ρ2 S2) →
    ∃ ρ2 S2, forL tg body ds ρ S = .nx ρ2 S2 ∧ P (t + ds.length) ρ2 S2
  | [], t, ρ, S, _, h, _ => ⟨ρ, S, rfl, h⟩
  | d :: ds, t, ρ, S, ht, h, k => by
    rw [List.length_cons] at ht
    obtain ⟨ρ1, h1, ρ2, S2, h2, h3⟩ := k d List.mem_cons_self t ρ S (by omega) h
    obtain ⟨ρ3, S3, h4, h5⟩ := forL_invN (t := t + 1) (ds := ds) (by omega) h3 fun d hd => k d (List.mem_cons_of_mem _ hd)
    refine ⟨ρ3, S3, ?_, by rw [List.length_cons]; have e : t + (ds.length + 1) = t + 1 + ds.length := by omega
                           rw [e]; exact h5⟩
    unfold forL
    rw [h1]
    dsimp only
    rw [h2]
    exact h4
def intsN (n : Nat) : List Int := (List.range n).map fun i : Nat => (i : Int)
theorem mem_intsN {n : Nat} {x : Int} : x ∈ intsN n ↔ 0 ≤ x ∧ x < n := mem_ints
theorem len_intsN {n : Nat} : (intsN n).length = n := by simp [intsN]
theorem rngL_intsN (n : Nat) : rngL 0 n = (intsN n).map Da.int := rngL_ints n
theorem itR1_int {f : M Da} {ρ : En} {S S1 : Store} {j : Int} (h : f ρ S = .ok (.int j) S1) : itR1 f ρ S = if -rngB ≤ j ∧ j < rngB then .ok (rngL 0 j.toNat) S1 else .bad := by
  unfold itR1
  rw [h]
  rfl
theorem itR1_in {f : M Da} {ρ : En} {S S1 : Store} {j : Int} (h : f ρ S = .ok (.int j) S1) (hb : -rngB ≤ j ∧ j < rngB) : itR1 f ρ S = .ok (rngL 0 j.toNat) S1 := by
  rw [itR1_int h, if_pos hb]
theorem rngB_nat {n : Nat} (hn : n ≤ 1000) : -rngB ≤ ((n : Nat) : Int) ∧ ((n : Nat) : Int) < rngB := by unfold rngB; omega
theorem ev_itR1 {f : M Da} {ρ : En} {S S1 : Store} {n : Nat} (h : f ρ S = .ok (.int (n : Nat)) S1) (hn : n ≤ 1000) : itR1 f ρ S = .ok ((intsN n).map Da.int) S1 := by
  have h2 : ((n : Nat) : Int).toNat = n := by omega
  rw [itR1_in h (rngB_nat hn), h2, rngL_intsN]
theorem ev_itR1c {ρ : En} {S : Store} {n : Nat} (hn : n ≤ 1000) : itR1 (cM (.int (n : Nat))) ρ S = .ok ((intsN n).map Da.int) S := ev_itR1 rfl hn
theorem ev_seq_unp2 {i j : Nat} {f : M Da} {s : MS} {ρ ρ1 : En} {S S1 : Store} {a b : Da} {R : RS} (h : f ρ S = .ok (.tup [a, b]) S1) (hρ : (ρ.set i (some a)).set j (some b) = ρ1) (k : s ρ1 S1 = R) : seqS (asgGS (tupT 2 (consT (nameT i) (consT (nameT j) (nilT)))) f) s ρ S = R := by
  unfold seqS asgGS; rw [h]; rw [← k, ← hρ]; rfl
theorem ev_seq_for {tg : Tg} {src : M (List Da)} {body s : MS} {ρ ρ1 : En} {S S1 S2 : Store} {ds : List Da} {R : RS} (h : src ρ S = .ok ds S1) (hl : forL tg body ds ρ S1 = .nx ρ1 S2) (k : s ρ1 S2 = R) : seqS (forS tg src body) s ρ S = R := by
  unfold seqS forS; rw [h]; simp only [Res.thenS]; rw [hl]; exact k
theorem ev_for {tg : Tg} {src : M (List Da)} {body : MS} {ρ : En} {S S1 : Store} {ds : List Da} {R : RS} (h : src ρ S = .ok ds S1) (hl : forL tg body ds ρ S1 = R) : forS tg src body ρ S = R := by
  unfold forS; rw [h]; exact hl
theorem len_app1 {S0 : Store} {a : Cell} : (S0 ++ [a]).length = S0.length + 1 := by simp
/-- the law's own loop over three laps -/
theorem law_end {ρ ρ2 : En} {S S2 : Store} {f : MS} (e : f ρ S = .nx ρ2 S2) : seqS f (retS (cM (.bl true))) ρ S = .rt (.bl true) S2 := by unfold seqS; rw [e]; rfl
/-- what a lap makes, by its shape -/
def outL (r : RS) : Option (Da × Nat × Nat) := match r with
  | .nx (some s :: q) (.tab 0 :: S) => some (s, q.length + 1, S.length + 1)
  | _ => none
theorem outL_nx {r : RS} {src : Da} {N L : Nat} (h : outL r = some (src, N, L)) : ∃ q S, r = .nx (some src :: q) (.tab 0 :: S) ∧ q.length + 1 = N ∧ S.length + 1 = L := by
  unfold outL at h
  split at h
  · simp only [Option.some.injEq, Prod.mk.injEq] at h
    obtain ⟨rfl, h1, h2⟩ := h
    exact ⟨_, _, rfl, h1, h2⟩
  · cases h

theorem forL_cons {tg : Tg} {body : MS} {d : Da} {ds : List Da} {ρ : En} {S : Store} : forL tg body (d :: ds) ρ S = match bindT tg d ρ with
    | none => .bad
    | some ρ1 => match body ρ1 S with
      | .nx ρ2 S2 => forL tg body ds ρ2 S2
      | .ct ρ2 S2 => forL tg body ds ρ2 S2
      | .bk ρ2 S2 => .nx ρ2 S2
      | .rt d S2 => .rt d S2
      | .exc c d ρ2 S2 => .exc c d ρ2 S2
      | .bad => .bad := rfl
end NL

set_option Elab.async false
set_option linter.all false
set_option autoImplicit false
set_option maxRecDepth 100000
set_option maxHeartbeats 4100000
namespace NL
open PySem PySem.Spec PyProof.Rows L2

def xm_NearError : Str → Option Bool := matOf ["NearError", "InvalidNumber", "InvalidSpace"] []
def xi_InvalidNumber : Str → Option Bool := matOf ["InvalidNumber"] ["NearError", "InvalidSpace"]
def xi_ValueError : Str → Option Bool := matOf ["NearError", "InvalidNumber", "InvalidSpace"] []
def xh_given (c : Str) : Bool := (["InvalidNumber"] : List Str).contains c
def xfOf (c : Str) : Option Str := ([("InvalidNumber", "given"), ("InvalidSpace", "index")] : List (Str × Str)).lookup c
/-- Yard.__eq__ -/
def b_Yard_eq : MS := retS (andM (isOM "Yard" (varM 1)) (andM (opM eqD (fldM "Yard" "places" (varM 0)) (fldM "Yard" "places" (varM 1))) (opM eqD (fldM "Yard" "deeds" (varM 0)) (fldM "Yard" "deeds" (varM 1)))))
def m_Yard_eq : Mf := defM 2 b_Yard_eq
/-- is_whole -/
def b_is_whole : MS := retS (andM (isiM .int (varM 0)) (notM (isiM .bl (varM 0))))
def m_is_whole : Mf := defM 1 b_is_whole
/-- is_between -/
def b_is_between : MS := retS (andM (callF 1 m_is_whole (consM (varM 0) (nilM))) (chainM leD leD (varM 1) (varM 0) (varM 2)))
def m_is_between : Mf := defM 3 b_is_between
/-- single_space -/
def b_single_space : MS := retS (callM tupleD (consM (frzM (lcM [1] (.one 1) (itR1 (varM 0)) (yesM) (tupM (consM (varM 1) (nilM))))) (nilM)))
def m_single_space : Mf := defM 2 b_single_space
/-- Yard.__init__ -/
def b_Yard_init : MS := seqS (ifS (notT (tstM (callF 3 m_is_between (consM (varM 1) (consM (cM (.int 1)) (consM (cM (.int 7)) (nilM))))))) (raiseS "InvalidNumber" (varM 1)) (skipS)) (seqS (setFS "Yard" "places" (varM 0) (varM 1)) (seqS (setFS "Yard" "space" (varM 0) (callF 1 m_single_space (consM (varM 1) (nilM)))) (seqS (setFS "Yard" "deeds" (varM 0) (tupM (nilM))) (setFS "Yard" "past" (varM 0) (celM (listM (nilM)))))))
def m_Yard_init : Mf := defM 2 b_Yard_init
/-- is_near_by -/
def b_is_near_by : MS := retS (opM inD (varM 1) (opM ixD (varM 0) (varM 2)))
def m_is_near_by : Mf := defM 3 b_is_near_by
/-- are_tied -/
def b_are_tied : MS := retS (orM (callF 3 m_is_near_by (consM (varM 0) (consM (varM 1) (consM (varM 2) (nilM))))) (callF 3 m_is_near_by (consM (varM 0) (consM (varM 2) (consM (varM 1) (nilM))))))
def m_are_tied : Mf := defM 3 b_are_tied
/-- places_of -/
def b_places_of : MS := retS (frzM (lrgF (callM lenD (consM (varM 0) (nilM)))))
def m_places_of : Mf := defM 1 b_places_of
/-- held_with -/
def b_held_with : MS := seqS (asgGS (tupT 2 (consT (nameT 2) (consT (nameT 3) (nilT)))) (tupM (consM (frzM (listM (consM (varM 1) (nilM)))) (consM (cM (.int 0)) (nilM))))) (seqS (whileL (tstM (opM ltD (varM 3) (callM lenD (consM (varM 2) (nilM))))) (seqS (asgGS (tupT 2 (consT (nameT 4) (consT (nameT 3) (nilT)))) (tupM (consM (opM ixD (varM 2) (varM 3)) (consM (opM addD (varM 3) (cM (.int 1))) (nilM))))) (setS 2 (frzM (catF (varM 2) (frzM (lcM [5] (.one 5) (itL (callF 1 m_places_of (consM (varM 0) (nilM)))) (andT (tstM (opM notInD (varM 5) (varM 2))) (tstM (callF 3 m_are_tied (consM (varM 0) (consM (varM 4) (consM (varM 5) (nilM))))))) (varM 5))))))) 1000) (retS (callM tupleD (consM (frzM (siF (varM 2))) (nilM)))))
def m_held_with : Mf := defM 6 b_held_with
/-- parts_by -/
def b_parts_by : MS := retS (callM tupleD (consM (frzM (ssTF (frzM (lcM [1] (.one 1) (itL (callF 1 m_places_of (consM (varM 0) (nilM)))) (yesM) (callF 2 m_held_with (consM (varM 0) (consM (varM 1) (nilM)))))))) (nilM)))
def m_parts_by : Mf := defM 2 b_parts_by
/-- Yard.parts -/
def b_Yard_parts : MS := retS (callM lenD (consM (callF 1 m_parts_by (consM (fldM "Yard" "space" (varM 0)) (nilM))) (nilM)))
def m_Yard_parts : Mf := defM 1 b_Yard_parts
/-- all_lots -/
def b_all_lots : MS := seqS (setS 1 (celM (listM (nilM)))) (seqS (forS (.one 2) (itR1 (opM addD (varM 0) (cM (.int 1)))) (dropS (extM (varM 1) (lcM [3] (.one 3) (combM (frzM (lrgF (varM 0))) (callM intD (consM (varM 2) (nilM)))) (yesM) (varM 3))))) (retS (frzM (slF (varM 1)))))
def m_all_lots : Mf := defM 4 b_all_lots
/-- common_of -/
def b_common_of : MS := retS (callM tupleD (consM (frzM (lcM [2] (.one 2) (itT (varM 0)) (tstM (opM inD (varM 2) (varM 1))) (varM 2))) (nilM)))
def m_common_of : Mf := defM 3 b_common_of
/-- closing_by -/
def b_closing_by : MS := retS (callM tupleD (consM (frzM (lcM [2] (.one 2) (itL (callF 1 m_places_of (consM (varM 0) (nilM)))) (tstM (opM neD (callF 2 m_common_of (consM (opM ixD (varM 0) (varM 2)) (consM (varM 1) (nilM)))) (tupM (nilM)))) (varM 2))) (nilM)))
def m_closing_by : Mf := defM 3 b_closing_by
/-- is_within -/
def b_is_within : MS := retS (callM allD (consM (frzM (lcM [2] (.one 2) (itT (varM 0)) (yesM) (opM inD (varM 2) (varM 1)))) (nilM)))
def m_is_within : Mf := defM 3 b_is_within
/-- inside_by -/
def b_inside_by : MS := retS (callM tupleD (consM (frzM (lcM [2] (.one 2) (itT (varM 1)) (tstM (callF 2 m_is_within (consM (opM ixD (varM 0) (varM 2)) (consM (varM 1) (nilM))))) (varM 2))) (nilM)))
def m_inside_by : Mf := defM 3 b_inside_by
/-- rest_by -/
def b_rest_by : MS := retS (callM tupleD (consM (frzM (lcM [2] (.one 2) (itL (callF 1 m_places_of (consM (varM 0) (nilM)))) (tstM (opM notInD (varM 2) (varM 1))) (varM 2))) (nilM)))
def m_rest_by : Mf := defM 3 b_rest_by
/-- letter_by -/
def b_letter_by : MS := seqS (ifS (tstM (opM eqD (varM 1) (cM (.str "r")))) (retS (callF 2 m_rest_by (consM (varM 0) (consM (varM 2) (nilM))))) (skipS)) (retS (ifM (tstM (opM eqD (varM 1) (cM (.str "k")))) (callF 2 m_closing_by (consM (varM 0) (consM (varM 2) (nilM)))) (callF 2 m_inside_by (consM (varM 0) (consM (varM 2) (nilM))))))
def m_letter_by : Mf := defM 3 b_letter_by
/-- done_by -/
def b_done_by : MS := seqS (setS 3 (varM 2)) (seqS (forS (.one 4) (itS (revSM (varM 1))) (setS 3 (callF 3 m_letter_by (consM (varM 0) (consM (varM 4) (consM (varM 3) (nilM))))))) (retS (varM 3)))
def m_done_by : Mf := defM 5 b_done_by
/-- made_by_all -/
def b_made_by_all : MS := retS (callM tupleD (consM (frzM (lcM [2] (.one 2) (itL (callF 1 m_all_lots (consM (callM lenD (consM (varM 0) (nilM))) (nilM)))) (yesM) (callF 3 m_done_by (consM (varM 0) (consM (varM 1) (consM (varM 2) (nilM))))))) (nilM)))
def m_made_by_all : Mf := defM 3 b_made_by_all
/-- plain_words -/
def b_plain_words : MS := retS (frzM (listM (starM (cM (.tup ((["", "i", "ik", "iki", "k", "ki", "kik"] : List Str).map Da.str))) (starM (frzM (lcM [0] (.one 0) (itT (cM (.tup ((["", "i", "ik", "iki", "k", "ki", "kik"] : List Str).map Da.str)))) (yesM) (opM addD (varM 0) (cM (.str "r"))))) (nilM)))))
def m_plain_words : Mf := defM 1 b_plain_words
/-- unlike_by -/
def b_unlike_by : MS := retS (callM dlenD (consM (dcM [1] (.one 1) (itL (callF0 m_plain_words)) (yesM) (callF 2 m_made_by_all (consM (varM 0) (consM (varM 1) (nilM)))) (cM (.bl true))) (nilM)))
def m_unlike_by : Mf := defM 2 b_unlike_by
/-- Yard.words -/
def b_Yard_words : MS := retS (callF 1 m_unlike_by (consM (fldM "Yard" "space" (varM 0)) (nilM)))
def m_Yard_words : Mf := defM 1 b_Yard_words
/-- _law_alone -/
def b__law_alone : MS := retS (callM tupleD (consM (frzM (lcM [1] (.one 1) (itR1 (varM 0)) (yesM) (tupM (consM (varM 1) (nilM))))) (nilM)))
def m__law_alone : Mf := defM 2 b__law_alone
/-- _law_caught -/
def hd__law_caught_0 : Hd := fun a dx c => seqS (setS 2 (frzM (listM (consM (isXM a dx c 1 (xi_InvalidNumber c)) (nilM))))) (seqS (ifS (orT (tstM (opM neD (cntBM (varM 2) (cM (.bl true))) (cM (.int 1)))) (notT (tstM (isXM a dx c 1 (xi_ValueError c))))) (retS (cM (.str "other"))) (skipS)) (seqS (setS 3 (frzM (listM (consM (cM (.str "number")) (nilM))))) (retS (tupM (consM (opM ixD (varM 3) (idxBM (varM 2) (cM (.bl true)))) (consM (callM reprAD (consM (xfM a dx c 1 (xh_given c)) (nilM))) (nilM)))))))
def b__law_caught (tk : Nat) (f c : Addr) (k : Mf) : MS := seqS (tryAsS xm_NearError 1 (dropS (actN 0 tk f c 0 k (nilM))) hd__law_caught_0) (retS (cM .non))
def m__law_caught (tk : Nat) (f c : Addr) (k : Mf) : Mf := defM 4 (b__law_caught tk f c k)
/-- _law_take -/
def b__law_take : MS := seqS (ifS (tstM (opM gtD (opM ixD (varM 0) (cM (.int 0))) (cM (.int 0)))) (seqS (asgGS (tupT 2 (consT (subT (varM 0) (cM (.int 0))) (consT (nameT 2) (nilT)))) (callM divmodD (consM (opM ixD (varM 0) (cM (.int 0))) (consM (varM 1) (nilM))))) (retS (varM 2))) (skipS)) (seqS (asgGS (subT (varM 0) (cM (.int 2))) (opM addD (opM ixD (varM 0) (cM (.int 2))) (cM (.int 1)))) (seqS (asgGS (subT (varM 0) (cM (.int 1))) (opM modD (callM intD (consM (opM addD (opM addD (opM mulD (opM ixD (varM 0) (cM (.int 1))) (cM (.int 69621))) (opM mulD (opM ixD (varM 0) (cM (.int 2))) (cM (.int 30011)))) (cM (.int 7))) (nilM))) (cM (.int 2147483587)))) (retS (opM modD (callM intD (consM (opM addD (opM fdivD (opM ixD (varM 0) (cM (.int 1))) (cM (.int 256))) (opM ixD (varM 0) (cM (.int 2)))) (nilM))) (varM 1)))))
def m__law_take : Mf := defM 3 b__law_take
/-- _law_well -/
def b__law_well : MS := seqS (setS 2 (ifM (tstM (opM ltD (varM 1) (callM lenD (consM (varM 0) (nilM))))) (callM intD (consM (opM ixD (varM 0) (varM 1)) (nilM))) (cM (.int 0)))) (seqS (setS 3 (opM addD (cM (.int 40503)) (opM mulD (cM (.int 7919)) (varM 1)))) (seqS (forS (.one 4) (itL (frzM (catF (sliceM slLD (varM 0) (noPartM) (partM (cM (.int 9)))) (frzM (listM (consM (varM 2) (nilM))))))) (setS 3 (opM modD (callM intD (consM (opM addD (opM addD (opM mulD (varM 3) (cM (.int 48271))) (opM modD (callM intD (consM (varM 4) (nilM))) (cM (.int 2147483579)))) (cM (.int 13))) (nilM))) (cM (.int 2147483629))))) (retS (celM (listM (consM (ifM (orT (tstM (opM ltD (varM 2) (cM (.int 0)))) (tstM (opM geD (varM 2) (opM powD (cM (.int 10)) (cM (.int 18)))))) (callM absD (consM (varM 2) (nilM))) (cM (.int 0))) (consM (varM 3) (consM (cM (.int 0)) (nilM)))))))))
def m__law_well : Mf := defM 5 b__law_well
/-- is_row -/
def b_is_row : MS := retS (andM (isiM .tup (varM 0)) (chainM leD leD (varM 1) (callM lenD (consM (varM 0) (nilM))) (varM 2)))
def m_is_row : Mf := defM 3 b_is_row
/-- first_wrong -/
def b_first_wrong (tk : Nat) (f c : Addr) (k : Mf) : MS := seqS (forS (.many [2, 3]) (itET (varM 0)) (ifS (notT (tstM (actN 1 tk f c 2 k (consM (varM 3) (consM (sliceM slTD (varM 0) (noPartM) (partM (varM 2))) (nilM)))))) (retS (varM 2)) (skipS))) (retS (cM .non))
def m_first_wrong (tk : Nat) (f c : Addr) (k : Mf) : Mf := defM 4 (b_first_wrong tk f c k)
/-- is_closed_up -/
def b_is_closed_up : MS := retS (callM allD (consM (frzM (lcM [2] (.one 2) (itT (varM 1)) (yesM) (callF 2 m_is_within (consM (opM ixD (varM 0) (varM 2)) (consM (varM 1) (nilM)))))) (nilM)))
def m_is_closed_up : Mf := defM 3 b_is_closed_up
/-- is_lot_of -/
def b_is_lot_of : MS := seqS (ifS (orT (notT (tstM (isiM .tup (varM 1)))) (notT (tstM (callM allD (consM (frzM (lcM [2] (.one 2) (itT (varM 1)) (yesM) (callF 3 m_is_between (consM (varM 2) (consM (cM (.int 0)) (consM (opM subD (varM 0) (cM (.int 1))) (nilM))))))) (nilM)))))) (retS (cM (.bl false))) (skipS)) (retS (callM allD (consM (frzM (lcM [3, 4] (.many [3, 4]) (itZT (varM 1) (sliceM slTD (varM 1) (partM (cM (.int 1))) (noPartM))) (yesM) (opM ltD (varM 3) (varM 4)))) (nilM))))
def m_is_lot_of : Mf := defM 5 b_is_lot_of
/-- is_reach_of -/
def b_is_reach_of : MS := retS (andM (callF 2 m_is_lot_of (consM (varM 0) (consM (varM 2) (nilM)))) (opM inD (varM 1) (varM 2)))
def m_is_reach_of : Mf := defM 3 b_is_reach_of
/-- wrong_reach -/
def b_wrong_reach : MS := seqS (setS 1 (lamF (m_first_wrong 0) 0 1 [2, 3] (consM (varM 0) nilM) (callF 3 m_is_reach_of (consM (callM lenD (consM (varM 0) (nilM))) (consM (callM lenD (consM (varM 3) (nilM))) (consM (varM 2) (nilM))))))) (seqS (ifS (tstM (opM notND (varM 1) (cM .non))) (retS (varM 1)) (skipS)) (retS (lamF (m_first_wrong 0) 0 1 [2, 3] (consM (varM 0) nilM) (callF 2 m_is_closed_up (consM (varM 0) (consM (varM 2) (nilM)))))))
def m_wrong_reach : Mf := defM 4 b_wrong_reach
/-- check_space -/
def b_check_space : MS := seqS (ifS (notT (tstM (callF 3 m_is_row (consM (varM 0) (consM (cM (.int 1)) (consM (cM (.int 7)) (nilM))))))) (raiseS "InvalidSpace" (cM .non)) (skipS)) (seqS (setS 1 (callF 1 m_wrong_reach (consM (varM 0) (nilM)))) (ifS (tstM (opM notND (varM 1) (cM .non))) (raiseS "InvalidSpace" (varM 1)) (skipS)))
def m_check_space : Mf := defM 2 b_check_space
/-- is_open_by -/
def b_is_open_by : MS := retS (callM allD (consM (frzM (lcM [2] (.one 2) (itT (varM 1)) (yesM) (callF 2 m_is_within (consM (opM ixD (varM 0) (varM 2)) (consM (varM 1) (nilM)))))) (nilM)))
def m_is_open_by : Mf := defM 3 b_is_open_by
/-- open_lots_by -/
def b_open_lots_by : MS := retS (callM tupleD (consM (frzM (lcM [1] (.one 1) (itL (callF 1 m_all_lots (consM (callM lenD (consM (varM 0) (nilM))) (nilM)))) (tstM (callF 2 m_is_open_by (consM (varM 0) (consM (varM 1) (nilM))))) (varM 1))) (nilM)))
def m_open_lots_by : Mf := defM 2 b_open_lots_by
/-- open_lots -/
def b_open_lots : MS := seqS (dropS (callF 1 m_check_space (consM (varM 0) (nilM)))) (retS (callF 1 m_open_lots_by (consM (varM 0) (nilM))))
def m_open_lots : Mf := defM 1 b_open_lots
/-- law -/
def l_law_0 : MS := seqS (ifS (tstM (opM neD (callM reprAD (consM (frzM (listM (consM (fldM "Yard" "places" (varM 6)) (consM (fldM "Yard" "space" (varM 6)) (consM (fldM "Yard" "deeds" (varM 6)) (nilM)))))) (nilM))) (callM reprAD (consM (frzM (listM (consM (varM 3) (consM (callF 1 m__law_alone (consM (varM 3) (nilM))) (consM (tupM (nilM)) (nilM)))))) (nilM))))) (retS (cM (.bl false))) (skipS)) (ifS (tstM (opM neD (frzM (listM (consM (methF "Yard" "words" 1 m_Yard_words (varM 6) nilM) (consM (methF "Yard" "parts" 1 m_Yard_parts (varM 6) nilM) (consM (callM lenD (consM (callF 1 m_open_lots (consM (fldM "Yard" "space" (varM 6)) (nilM))) (nilM))) (nilM)))))) (frzM (listM (consM (cM (.int 2)) (consM (varM 3) (consM (varM 4) (nilM)))))))) (retS (cM (.bl false))) (skipS))
def tl_law_0 : MS := seqS (forS (.one 5) (itR1 (varM 3)) (setS 4 (opM mulD (varM 4) (cM (.int 2))))) (seqS (forS (.one 6) (itL (frzM (listM (consM (makeF "Yard" 2 m_Yard_init (consM (varM 3) (nilM))) (consM (makeF "Yard" 2 m_Yard_init (consM (varM 3) (nilM))) (nilM)))))) (l_law_0)) (ifS (orT (tstM (eqOM "Yard" m_Yard_eq true (makeF "Yard" 2 m_Yard_init (consM (varM 3) (nilM))) (makeF "Yard" 2 m_Yard_init (consM (varM 3) (nilM))))) (tstM (eqOM "Yard" m_Yard_eq false (makeF "Yard" 2 m_Yard_init (consM (varM 3) (nilM))) (makeF "Yard" 2 m_Yard_init (consM (opM addD (opM modD (callM intD (consM (varM 3) (nilM))) (cM (.int 7))) (cM (.int 1))) (nilM)))))) (retS (cM (.bl false))) (skipS)))
def tl_law_1 : MS := seqS (parS [3, 4] (consM (opM addD (cM (.int 1)) (callF 2 m__law_take (consM (varM 2) (consM (cM (.int 7)) (nilM))))) (consM (cM (.int 1)) (nilM)))) (tl_law_0)
def l_law_3 : MS := seqS (setS 2 (callF 2 m__law_well (consM (varM 0) (consM (varM 1) (nilM))))) (tl_law_1)
def l_law_4 : MS := ifS (tstM (opM neD (lamF (m__law_caught 1) 1 0 [] (nilM) (makeF "Yard" 2 m_Yard_init (consM (varM 7) (nilM)))) (tupM (consM (cM (.str "number")) (consM (callM reprAD (consM (varM 7) (nilM))) (nilM)))))) (retS (cM (.bl false))) (skipS)
def b_law : MS := seqS (forS (.one 1) (itR1 (cM (.int 3))) (l_law_3)) (seqS (forS (.one 7) (itL (frzM (listM (consM (cM (.int 0)) (consM (cM (.int 8)) (consM (unM negD (cM (.int 1))) (consM (cM .non) (consM (cM (.bl true)) (consM (cM (.str "3")) (consM (tupM (consM (cM (.int 3)) (nilM))) (consM (opM powD (cM (.int 10)) (cM (.int 20))) (nilM)))))))))))) (l_law_4)) (retS (cM (.bl true))))
def m_law : Mf := defM 8 b_law
end NL

set_option Elab.async false
set_option linter.all false
set_option autoImplicit false
set_option maxRecDepth 100000
set_option maxHeartbeats 4100000
namespace NL
open PySem PySem.Spec PyProof.Rows L2

def p_is_whole (value : Int) : Option Bool := ((some value).bind fun z1 => some (isTy .int .int)).bind fun z4 => if z4 = true then (((some value).bind fun z2 => some (isTy .bl .int)).bind fun z3 => some (!z3)) else some false
theorem pm_is_whole : Fn1 2 m_is_whole eI eB p_is_whole := fn1_of fun value => evs_ret (evp_and (evp_isi (t := .int) (fun _ _ => rfl) (evp_var (e := eI) (a := value) rfl)) (evp_not (evp_isi (t := .int) (fun _ _ => rfl) (evp_var (e := eI) (a := value) rfl))))
def p_is_between (value : Int) (least : Int) (most : Int) : Option Bool := ((some value).bind fun z1 => p_is_whole z1).bind fun z5 => if z5 = true then ((some least).bind fun z2 => (some value).bind fun z3 => if z2 ≤ z3 then (some most).bind fun z4 => some (decide (z3 ≤ z4)) else some false) else some false
theorem pm_is_between : Fn3 2 m_is_between eI eI eI eB p_is_between := fn3_of fun value least most => evs_ret (evp_and (evp_fn1 pm_is_whole (evp_var (e := eI) (a := value) rfl)) (evp_leleI (evp_var (e := eI) (a := least) rfl) (evp_var (e := eI) (a := value) rfl) (evp_var (e := eI) (a := most) rfl)))
def p_single_space (places : Int) : Option (List (List Int)) := ((some places).bind fun z1 => rngP z1).bind fun z3 => (smallP z3).bind (lcP (fun place => some true) (fun place => (some place).bind fun z2 => some [z2]))
theorem pm_single_space : Fn1 2 m_single_space eI (eT (eT eI)) p_single_space := fn1_of fun places => evs_ret (evp_tupleL (evp_frz (evp_lc (evp_rng (evp_var (e := eI) (a := places) rfl)) rfl (fun place => rfl) (fun place => evp_yes) (fun place => evp_tup1 (evp_var (e := eI) (a := place) rfl)))))
def p_is_near_by (space : List (List Int)) (place : Int) (near_to : Int) : Option Bool := (some place).bind fun z3 => ((some space).bind fun z1 => (some near_to).bind fun z2 => L2.atI z1 z2).bind fun z4 => some (decide (z3 ∈ z4))
theorem pm_is_near_by : Fn3 2 m_is_near_by (eT (eT eI)) eI eI eB p_is_near_by := fn3_of fun space place near_to => evs_ret (evp_inT (evp_var (e := eI) (a := place) rfl) (evp_ixT (evp_var (e := (eT (eT eI))) (a := space) rfl) (evp_var (e := eI) (a := near_to) rfl)))
def p_are_tied (space : List (List Int)) (one : Int) (other : Int) : Option Bool := ((some space).bind fun z1 => (some one).bind fun z2 => (some other).bind fun z3 => p_is_near_by z1 z2 z3).bind fun z7 => if z7 = true then some true else ((some space).bind fun z4 => (some other).bind fun z5 => (some one).bind fun z6 => p_is_near_by z4 z5 z6)
theorem pm_are_tied : Fn3 2 m_are_tied (eT (eT eI)) eI eI eB p_are_tied := fn3_of fun space one other => evs_ret (evp_or (evp_fn3 pm_is_near_by (evp_var (e := (eT (eT eI))) (a := space) rfl) (evp_var (e := eI) (a := one) rfl) (evp_var (e := eI) (a := other) rfl)) (evp_fn3 pm_is_near_by (evp_var (e := (eT (eT eI))) (a := space) rfl) (evp_var (e := eI) (a := other) rfl) (evp_var (e := eI) (a := one) rfl)))
def p_places_of (space : List (List Int)) : Option (List Int) := ((some space).bind fun z1 => some (z1.length : Int)).bind fun z2 => rngP z2
theorem pm_places_of : Fn1 2 m_places_of (eT (eT eI)) (eL eI) p_places_of := fn1_of fun space => evs_ret (evp_frz (evp_lrg (evp_lenT (evp_var (e := (eT (eT eI))) (a := space) rfl))))
/-! ### what rows hold together with a place -/
def held_c (s : List Int × Int) : Option Bool := (some s.2).bind fun a => ((some s.1).bind fun l => some (l.length : Int)).bind fun b => some (decide (a < b))
def held_b (space : List (List Int)) (s : List Int × Int) : Option (List Int × Int) :=
  ((some s.1).bind fun l => (some s.2).bind fun i => L2.atI l i).bind fun here => ((some s.2).bind fun a => (some (1 : Int)).bind fun b => some (a + b)).bind fun at2 =>
    ((some s.1).bind fun line => (((some space).bind fun z => p_places_of z).bind fun l => (smallP l).bind (lcP (fun other => ((some other).bind fun a => (some s.1).bind fun l => some (!decide (a ∈ l))).bind fun b => if b = true then (((some space).bind fun z1 => (some here).bind fun z2 => (some other).bind fun z3 => p_are_tied z1 z2 z3)) else some false) (fun other => some other))).bind fun more => catP line more).bind fun line2 => some (line2, at2)
def p_held_with (space : List (List Int)) (place : Int) : Option (List Int) :=
  ((((some place).bind fun a => some [a]).bind fun line => (some (0 : Int)).bind fun at0 => some (line, at0)).bind fun st => (whileP held_c (held_b space) 1000 st).bind fun st => (some st.1).bind fun l => some (sortI l))
theorem pm_held_with : Fn2 2 m_held_with (eT (eT eI)) eI (eT eI) p_held_with := fn2_of fun space place => by
  unfold b_held_with p_held_with
  refine evs_seq (F1 := fun (s : List Int × Int) ρ => ∃ r4, ρ = [some (eT (eT eI) space), some (eI place), some (eL eI s.1), some (eI s.2), r4, none]) (evx_unp2 (evp_frz (evp_list1 (evp_var (e := eI) (a := place) rfl))) (evp_c (e := eI) (a := 0) rfl) fun a b t h => by cases h; exact ⟨_, rfl⟩) ?_
  rintro st ρ ⟨r4, rfl⟩
  refine evs_seq (F1 := fun (s : List Int × Int) ρ => ∃ r4, ρ = [some (eT (eT eI) space), some (eI place), some (eL eI s.1), some (eI s.2), r4, none]) (evx_while ?_ ?_ 1000 ⟨r4, rfl⟩) ?_
  · rintro s ρ ⟨r, rfl⟩
    exact evp_tst (evp_ltI (evp_var (e := eI) (a := s.2) rfl) (evp_lenL (evp_var (e := eL eI) (a := s.1) rfl)))
  · rintro s ρ ⟨r, rfl⟩
    have h1 : EvX 2 (asgGS (tupT 2 (consT (nameT 4) (consT (nameT 3) (nilT)))) (tupM (consM (opM ixD (varM 2) (varM 3)) (consM (opM addD (varM 3) (cM (.int 1))) (nilM))))) [some (eT (eT eI) space), some (eI place), some (eL eI s.1), some (eI s.2), r, none]
        (fun (t : Int × Int) ρ => ρ = [some (eT (eT eI) space), some (eI place), some (eL eI s.1), some (eI t.2), some (eI t.1), none]) (((some s.1).bind fun l => (some s.2).bind fun i => L2.atI l i).bind fun here => ((some s.2).bind fun a => (some (1 : Int)).bind fun b => some (a + b)).bind fun at2 => some (here, at2)) :=
      evx_unp2 (evp_ixL (evp_var (e := eL eI) (a := s.1) rfl) (evp_var (e := eI) (a := s.2) rfl)) (evp_addI (evp_var (e := eI) (a := s.2) rfl) (evp_c (e := eI) (a := 1) rfl)) fun a b t h => by cases h; rfl
    intro st2 hst S hS
    unfold held_b at hst
    obtain ⟨here, e1, hst⟩ := Option.bind_eq_some_iff.mp hst
    obtain ⟨at2, e2, hst⟩ := Option.bind_eq_some_iff.mp hst
    refine evx_seq (F := fun (s : List Int × Int) ρ => ∃ r4, ρ = [some (eT (eT eI) space), some (eI place), some (eL eI s.1), some (eI s.2), r4, none]) (k := fun (t : Int × Int) => ((some s.1).bind fun line => (((some space).bind fun z => p_places_of z).bind fun l => (smallP l).bind (lcP (fun other => ((some other).bind fun a => (some s.1).bind fun l => some (!decide (a ∈ l))).bind fun b => if b = true then (((some space).bind fun z1 => (some t.1).bind fun z2 => (some other).bind fun z3 => p_are_tied z1 z2 z3)) else some false) (fun other => some other))).bind fun more => catP line more).bind fun line2 => some (line2, t.2)) h1 ?_ st2 (by rw [e1, Option.bind_some, e2]; exact hst) S hS
    rintro t ρ rfl
    exact evx_set1 (evp_frz (evp_catF (evp_var (e := eL eI) (a := s.1) rfl) (evp_frz (evp_lc (evp_itL (evp_fn1 pm_places_of (evp_var (e := eT (eT eI)) (a := space) rfl))) rfl (fun other => rfl)
      (fun other => evp_andT (evp_tst (evp_notinL (evp_var (e := eI) (a := other) rfl) (evp_var (e := eL eI) (a := s.1) rfl))) (evp_tst (evp_fn3 pm_are_tied (evp_var (e := eT (eT eI)) (a := space) rfl) (evp_var (e := eI) (a := t.1) rfl) (evp_var (e := eI) (a := other) rfl)))) (fun other => evp_var (e := eI) (a := other) rfl))))) fun b u h => by cases h; exact ⟨_, rfl⟩
  · rintro s ρ ⟨r, rfl⟩
    exact evs_ret (evp_tupleL (evp_frz (evp_sortI (evp_var (e := eL eI) (a := s.1) rfl))))

def p_parts_by (space : List (List Int)) : Option (List (List Int)) := (((some space).bind fun z1 => p_places_of z1).bind fun z4 => (smallP z4).bind (lcP (fun place => some true) (fun place => (some space).bind fun z2 => (some place).bind fun z3 => p_held_with z2 z3))).bind fun z5 => sortLUP z5
theorem pm_parts_by : Fn1 2 m_parts_by (eT (eT eI)) (eT (eT eI)) p_parts_by := fn1_of fun space => evs_ret (evp_tupleL (evp_frz (evp_sortLSet (evp_frz (evp_lc (evp_itL (evp_fn1 pm_places_of (evp_var (e := (eT (eT eI))) (a := space) rfl))) rfl (fun place => rfl) (fun place => evp_yes) (fun place => evp_fn2 pm_held_with (evp_var (e := (eT (eT eI))) (a := space) rfl) (evp_var (e := eI) (a := place) rfl)))))))
/-! ### all lots -/
theorem at_app {S0 L : Store} {k : Nat} {c : Cell} (h : L[k]? = some c) : (S0 ++ L)[S0.length + k]? = some c := by
  rw [List.getElem?_append_right (by omega)]
  have e : S0.length + k - S0.length = k := by omega
  rw [e]; exact h
theorem at_app0 {S0 L : Store} {c : Cell} (h : L[0]? = some c) : (S0 ++ L)[S0.length]? = some c := at_app (k := 0) h
theorem set_app {S0 L : Store} {k : Nat} {c : Cell} : (S0 ++ L).set (S0.length + k) c = S0 ++ L.set k c := by
  rw [List.set_append_right _ _ (by omega)]
  have e : S0.length + k - S0.length = k := by omega
  rw [e]
theorem set_app0 {S0 L : Store} {c : Cell} : (S0 ++ L).set S0.length c = S0 ++ L.set 0 c := set_app (k := 0)
theorem cellL_at {S : Store} {j : Nat} {l : List Da} (h : S[j]? = some (.lst l)) : cellL S (.cell j) = some (j, l) := by unfold cellL; dsimp only; rw [h]
def combD (n r : Nat) : List Da := (combIx n r).map fun ix => .tup (ix.map fun k => (rngL 0 n).getD k .non)
def lotsTo (n k : Nat) : List Da := (List.range k).flatMap (combD n)
def lotsR (n : Nat) : List (List Int) := (rowsD (lotsTo n (n + 1))).getD []
def lotsL (n : Nat) : List Da := (sortL (lotsR n)).map rowT
theorem lots_fin : (List.range 8).all (fun n => (List.range (n + 1)).all (fun r => chainB n (combIx n r) && decide ((lotsTo n r).length + (combD n r).length ≤ big) && decide ((combD n r).length ≤ big)) && decide (rowsD (lotsTo n (n + 1)) = some (lotsR n)) && decide (Ok3 (lotsR n))) = true := by kernel_rfl
theorem lotsTo_succ (n k : Nat) : lotsTo n (k + 1) = lotsTo n k ++ combD n k := by
  unfold lotsTo
  rw [List.range_succ, List.flatMap_append]
  simp
theorem lots_at {n : Nat} (h7 : n ≤ 7) : (∀ r ≤ n, chainB n (combIx n r) = true ∧ (lotsTo n r).length + (combD n r).length ≤ big ∧ (combD n r).length ≤ big) ∧ rowsD (lotsTo n (n + 1)) = some (lotsR n) ∧ Ok3 (lotsR n) := by
  have h := List.all_eq_true.mp lots_fin n (List.mem_range.mpr (by omega))
  rw [Bool.and_eq_true, Bool.and_eq_true] at h
  obtain ⟨⟨h1, h2⟩, h3⟩ := h
  refine ⟨fun r hr => ?_, of_decide_eq_true h2, of_decide_eq_true h3⟩
  have q := List.all_eq_true.mp h1 r (List.mem_range.mpr (by omega))
  rw [Bool.and_eq_true, Bool.and_eq_true] at q
  exact ⟨q.1.1, of_decide_eq_true q.1.2, of_decide_eq_true q.2⟩
theorem ev_comb {f g : M Da} {ρ : En} {S : Store} {n r : Nat} (h7 : n ≤ 7) (hr : r ≤ n) (hf : f ρ S = .ok (.lst (rngL 0 n)) S) (hg : g ρ S = .ok (.int r) S) : combM f g ρ S = .ok (combD n r) S := by
  have hl : (rngL 0 n).length = n := by unfold rngL; simp
  unfold combM
  rw [hf]
  simp only [Res.bind]
  rw [hg]
  dsimp only
  rw [if_pos ⟨by omega, by rw [hl, Int.toNat_natCast]; exact hr, by rw [hl]; omega, by rw [hl, Int.toNat_natCast]; exact ((lots_at h7).1 r hr).1⟩, hl, Int.toNat_natCast]
  rfl
theorem lot_step {n r : Nat} (h7 : n ≤ 7) (hr : r ≤ n) {S0 : Store} {z : Option Da} : dropS (extM (varM 1) (lcM [3] (.one 3) (combM (frzM (lrgF (varM 0))) (callM intD (consM (varM 2) (nilM)))) (yesM) (varM 3))) [some (.int n), some (.cell S0.length), some (.int r), z] (S0 ++ [.lst (lotsTo n r)]) =
    .nx [some (.int n), some (.cell S0.length), some (.int r), z] (S0 ++ [.lst (lotsTo n (r + 1))]) := by
  obtain ⟨_, h2, h3⟩ := (lots_at h7).1 r hr
  have er : frzM (lrgF (varM 0)) [some (.int n), some (.cell S0.length), some (.int r), z] (S0 ++ [.lst (lotsTo n r)]) = .ok (.lst (rngL 0 n)) (S0 ++ [.lst (lotsTo n r)]) := by
    refine ev_frz ?_
    unfold lrgF
    rw [ev_var (i := 0) rfl]
    simp only [Res.bind]
    rw [if_pos ⟨by omega, by omega⟩, Int.toNat_natCast]
  have l1 : lcM [3] (.one 3) (combM (frzM (lrgF (varM 0))) (callM intD (consM (varM 2) (nilM)))) (yesM) (varM 3) [some (.int n), some (.cell S0.length), some (.int r), z] (S0 ++ [.lst (lotsTo n r)]) = .ok ((combD n r).map id) (S0 ++ [.lst (lotsTo n r)]) :=
    ev_lc_yes (fx := id) (kρ := fun d => [some (.int n), some (.cell S0.length), some (.int r), some d]) (by rw [List.map_id]; exact ev_comb h7 hr er (ev_call (ev_cons (ev_var rfl) ev_nil) rfl)) h3 (fun d => rfl) fun d _ => ev_var rfl
  rw [List.map_id] at l1
  have e1 : extM (varM 1) (lcM [3] (.one 3) (combM (frzM (lrgF (varM 0))) (callM intD (consM (varM 2) (nilM)))) (yesM) (varM 3)) [some (.int n), some (.cell S0.length), some (.int r), z] (S0 ++ [.lst (lotsTo n r)]) = .ok .non (S0 ++ [.lst (lotsTo n (r + 1))]) := by
    have hc : cellL (S0 ++ [.lst (lotsTo n r)]) (.cell S0.length) = some (S0.length, lotsTo n r) := cellL_at (at_app0 rfl)
    unfold extM
    rw [ev_var (i := 1) rfl]
    simp only [Res.bind]
    rw [hc]
    dsimp only
    rw [l1]
    dsimp only
    rw [hc]
    dsimp only
    rw [if_pos h2, set_app0, lotsTo_succ]
    rfl
  exact ev_drop e1
theorem all_lots_ok {n : Nat} (h7 : n ≤ 7) {S : Store} : m_all_lots [.int n] S = .ok (.lst (lotsL n)) (S ++ [.lst (lotsTo n (n + 1))]) := by
  refine congrArg RS.res (a₁ := b_all_lots [some (.int n), none, none, none] S) (a₂ := .rt _ _) ?_
  unfold b_all_lots
  have ec : celM (listM nilM) [some (.int n), none, none, none] S = .ok (.cell S.length) (S ++ [.lst []]) := rfl
  refine ev_seq_set ec rfl ?_
  have hstep : ∀ (k r : Nat) (q : Option Da), r + k = n + 1 → ∃ q2, forL (.one 2) (dropS (extM (varM 1) (lcM [3] (.one 3) (combM (frzM (lrgF (varM 0))) (callM intD (consM (varM 2) (nilM)))) (yesM) (varM 3)))) (((List.range k).map fun i : Nat => ((r + i : Nat) : Int)).map Da.int) [some (.int n), some (.cell S.length), q, none] (S ++ [.lst (lotsTo n r)]) =
      .nx [some (.int n), some (.cell S.length), q2, none] (S ++ [.lst (lotsTo n (n + 1))]) := by
    intro k
    induction k with
    | zero => intro r q h; exact ⟨q, by rw [show n + 1 = r by omega]; rfl⟩
    | succ k ih =>
      intro r q h
      obtain ⟨q2, e⟩ := ih (r + 1) (some (.int r)) (by omega)
      refine ⟨q2, ?_⟩
      have hr : (List.range (k + 1)).map (fun i : Nat => ((r + i : Nat) : Int)) = (r : Int) :: (List.range k).map (fun i : Nat => ((r + 1 + i : Nat) : Int)) := by
        rw [List.range_succ_eq_map]
        simp only [List.map_cons, List.map_map]
        congr 1
        apply List.map_congr_left; intro i _
        show ((r + (i + 1) : Nat) : Int) = ((r + 1 + i : Nat) : Int)
        omega
      rw [hr, List.map_cons, forL_cons]
      have hb : bindT (.one 2) (.int r) [some (.int n), some (.cell S.length), q, none] = some [some (.int n), some (.cell S.length), some (.int r), none] := rfl
      rw [hb]
      dsimp only
      rw [lot_step h7 (by omega)]
      exact e
  obtain ⟨q2, e⟩ := hstep (n + 1) 0 none (by omega)
  have e0 : ((List.range (n + 1)).map fun i : Nat => ((0 + i : Nat) : Int)) = intsN (n + 1) := by
    unfold intsN
    apply List.map_congr_left; intro i _; omega
  rw [e0] at e
  refine ev_seq_for (ev_itR1 (n := n + 1) (ev_op (ev_var rfl) ev_c (by show some (Da.int _) = _; congr 2)) (by omega)) e ?_
  obtain ⟨_, hr, hk⟩ := lots_at h7
  refine ev_ret (ev_frz ?_)
  unfold slF
  rw [ev_var (i := 1) rfl]
  simp only [Res.bind]
  have ht : tryL (S ++ [.lst (lotsTo n (n + 1))]) (.cell S.length) = some (lotsTo n (n + 1)) := by
    unfold tryL
    dsimp only
    rw [at_app0 rfl]
  rw [ht]
  dsimp only
  rw [hr]
  dsimp only
  rw [if_pos hk]
  rfl
def p_all_lots (k : Int) : Option (List (List Int)) := if 0 ≤ k ∧ k ≤ 7 then some (sortL (lotsR k.toNat)) else none
theorem pm_all_lots : Fn1 2 m_all_lots eI (eL (eT eI)) p_all_lots := fun k r S hS h => by
  unfold p_all_lots at h
  split at h
  · rename_i q
    cases h
    have e : ((k.toNat : Nat) : Int) = k := by omega
    have := all_lots_ok (n := k.toNat) (S := S) (by omega)
    rw [e] at this
    exact ⟨_, this⟩
  · cases h

def p_common_of (lot : List Int) (other : List Int) : Option (List Int) := (some lot).bind fun z3 => (smallP z3).bind (lcP (fun place => (some place).bind fun z1 => (some other).bind fun z2 => some (decide (z1 ∈ z2))) (fun place => some place))
theorem pm_common_of : Fn2 2 m_common_of (eT eI) (eT eI) (eT eI) p_common_of := fn2_of fun lot other => evs_ret (evp_tupleL (evp_frz (evp_lc (evp_itT (evp_var (e := (eT eI)) (a := lot) rfl)) rfl (fun place => rfl) (fun place => evp_tst (evp_inT (evp_var (e := eI) (a := place) rfl) (evp_var (e := (eT eI)) (a := other) rfl))) (fun place => evp_var (e := eI) (a := place) rfl))))
def p_closing_by (space : List (List Int)) (lot : List Int) : Option (List Int) := ((some space).bind fun z1 => p_places_of z1).bind fun z8 => (smallP z8).bind (lcP (fun place => (((some space).bind fun z2 => (some place).bind fun z3 => L2.atI z2 z3).bind fun z4 => (some lot).bind fun z5 => p_common_of z4 z5).bind fun z6 => ((some ([] : List Int))).bind fun z7 => (eqP (fun l => PyData.tuple (l.map PyData.int)) z6 z7).map (!·)) (fun place => some place))
theorem pm_closing_by : Fn2 2 m_closing_by (eT (eT eI)) (eT eI) (eT eI) p_closing_by := fn2_of fun space lot => evs_ret (evp_tupleL (evp_frz (evp_lc (evp_itL (evp_fn1 pm_places_of (evp_var (e := (eT (eT eI))) (a := space) rfl))) rfl (fun place => rfl) (fun place => evp_tst (evp_neD (EqOn.tup EqOn.int) (evp_fn2 pm_common_of (evp_ixT (evp_var (e := (eT (eT eI))) (a := space) rfl) (evp_var (e := eI) (a := place) rfl)) (evp_var (e := (eT eI)) (a := lot) rfl)) (evp_tup0))) (fun place => evp_var (e := eI) (a := place) rfl))))
def p_is_within (lot : List Int) (other : List Int) : Option Bool := ((some lot).bind fun z3 => (smallP z3).bind (lcP (fun place => some true) (fun place => (some place).bind fun z1 => (some other).bind fun z2 => some (decide (z1 ∈ z2))))).bind fun z4 => some (z4.all id)
theorem pm_is_within : Fn2 2 m_is_within (eT eI) (eT eI) eB p_is_within := fn2_of fun lot other => evs_ret (evp_all (evp_frz (evp_lc (evp_itT (evp_var (e := (eT eI)) (a := lot) rfl)) rfl (fun place => rfl) (fun place => evp_yes) (fun place => evp_inT (evp_var (e := eI) (a := place) rfl) (evp_var (e := (eT eI)) (a := other) rfl)))))
def p_inside_by (space : List (List Int)) (lot : List Int) : Option (List Int) := (some lot).bind fun z5 => (smallP z5).bind (lcP (fun place => ((some space).bind fun z1 => (some place).bind fun z2 => L2.atI z1 z2).bind fun z3 => (some lot).bind fun z4 => p_is_within z3 z4) (fun place => some place))
theorem pm_inside_by : Fn2 2 m_inside_by (eT (eT eI)) (eT eI) (eT eI) p_inside_by := fn2_of fun space lot => evs_ret (evp_tupleL (evp_frz (evp_lc (evp_itT (evp_var (e := (eT eI)) (a := lot) rfl)) rfl (fun place => rfl) (fun place => evp_tst (evp_fn2 pm_is_within (evp_ixT (evp_var (e := (eT (eT eI))) (a := space) rfl) (evp_var (e := eI) (a := place) rfl)) (evp_var (e := (eT eI)) (a := lot) rfl))) (fun place => evp_var (e := eI) (a := place) rfl))))
def p_rest_by (space : List (List Int)) (lot : List Int) : Option (List Int) := ((some space).bind fun z1 => p_places_of z1).bind fun z4 => (smallP z4).bind (lcP (fun place => (some place).bind fun z2 => (some lot).bind fun z3 => some (!decide (z2 ∈ z3))) (fun place => some place))
theorem pm_rest_by : Fn2 2 m_rest_by (eT (eT eI)) (eT eI) (eT eI) p_rest_by := fn2_of fun space lot => evs_ret (evp_tupleL (evp_frz (evp_lc (evp_itL (evp_fn1 pm_places_of (evp_var (e := (eT (eT eI))) (a := space) rfl))) rfl (fun place => rfl) (fun place => evp_tst (evp_notinT (evp_var (e := eI) (a := place) rfl) (evp_var (e := (eT eI)) (a := lot) rfl))) (fun place => evp_var (e := eI) (a := place) rfl))))
def p_letter_by (space : List (List Int)) (letter : Str) (lot : List Int) : Option (List Int) := ((some letter).bind fun z1 => (some ("r" : Str)).bind fun z2 => some (decide (z1 = z2))).bind fun z3 => if z3 = true then ((some space).bind fun z4 => (some lot).bind fun z5 => p_rest_by z4 z5) else (((some letter).bind fun z6 => (some ("k" : Str)).bind fun z7 => some (decide (z6 = z7))).bind fun z12 => if z12 = true then ((some space).bind fun z8 => (some lot).bind fun z9 => p_closing_by z8 z9) else ((some space).bind fun z10 => (some lot).bind fun z11 => p_inside_by z10 z11))
theorem pm_letter_by : Fn3 2 m_letter_by (eT (eT eI)) eS (eT eI) (eT eI) p_letter_by := fn3_of fun space letter lot => evs_ifr (evp_tst (evp_eqS (evp_var (e := eS) (a := letter) rfl) (evp_c (e := eS) (a := "r") rfl))) (evs_ret (evp_fn2 pm_rest_by (evp_var (e := (eT (eT eI))) (a := space) rfl) (evp_var (e := (eT eI)) (a := lot) rfl))) (evs_skip (evs_ret (evp_if (evp_tst (evp_eqS (evp_var (e := eS) (a := letter) rfl) (evp_c (e := eS) (a := "k") rfl))) (evp_fn2 pm_closing_by (evp_var (e := (eT (eT eI))) (a := space) rfl) (evp_var (e := (eT eI)) (a := lot) rfl)) (evp_fn2 pm_inside_by (evp_var (e := (eT (eT eI))) (a := space) rfl) (evp_var (e := (eT eI)) (a := lot) rfl)))))
/-! ### what a word makes of a lot -/
def p_done_by (space : List (List Int)) (word : Str) (lot : List Int) : Option (List Int) := (((some word).bind fun z => revP z).bind fun x => some (signs x)).bind fun l => forP (fun letter found => (some space).bind fun z1 => (some letter).bind fun z2 => (some found).bind fun z3 => p_letter_by z1 z2 z3) l lot
theorem pm_done_by : Fn3 2 m_done_by (eT (eT eI)) eS (eT eI) (eT eI) p_done_by := fn3_of fun space word lot => by
  unfold b_done_by
  refine evp_same (evs_set (k := fun z => ((((some word).bind fun z => revP z).bind fun x => some (signs x)).bind fun l => forP (fun letter found => (some space).bind fun z1 => (some letter).bind fun z2 => (some found).bind fun z3 => p_letter_by z1 z2 z3) l z).bind some) (evp_var (e := eT eI) (a := lot) rfl) (fun b => rfl) fun b => ?_) (by rw [Option.bind_some, Option.bind_fun_some]; rfl)
  refine evs_seq (F1 := fun (found : List Int) ρ => ∃ r4, ρ = [some (eT (eT eI) space), some (eS word), some (eT eI lot), some (eT eI found), r4]) (evx_for (evp_itS (evp_revS (evp_var (e := eS) (a := word) rfl))) ⟨none, rfl⟩ ?_) ?_
  · rintro x s ρ ⟨r, rfl⟩
    refine ⟨_, rfl, ?_⟩
    refine evx_same (evx_set1 (k := some) (evp_fn3 pm_letter_by (evp_var (e := eT (eT eI)) (a := space) rfl) (evp_var (e := eS) (a := x) rfl) (evp_var (e := eT eI) (a := s) rfl)) fun b t h => by cases h; exact ⟨_, rfl⟩) (by rw [Option.bind_fun_some])
  · rintro s ρ ⟨r, rfl⟩
    exact evs_ret (evp_var (e := eT eI) (a := s) rfl)

def p_made_by_all (space : List (List Int)) (word : Str) : Option (List (List Int)) := (((some space).bind fun z1 => some (z1.length : Int)).bind fun z2 => p_all_lots z2).bind fun z6 => (smallP z6).bind (lcP (fun lot => some true) (fun lot => (some space).bind fun z3 => (some word).bind fun z4 => (some lot).bind fun z5 => p_done_by z3 z4 z5))
theorem pm_made_by_all : Fn2 2 m_made_by_all (eT (eT eI)) eS (eT (eT eI)) p_made_by_all := fn2_of fun space word => evs_ret (evp_tupleL (evp_frz (evp_lc (evp_itL (evp_fn1 pm_all_lots (evp_lenT (evp_var (e := (eT (eT eI))) (a := space) rfl)))) rfl (fun lot => rfl) (fun lot => evp_yes) (fun lot => evp_fn3 pm_done_by (evp_var (e := (eT (eT eI))) (a := space) rfl) (evp_var (e := eS) (a := word) rfl) (evp_var (e := (eT eI)) (a := lot) rfl)))))
def p_plain_words : Option (List Str) := some ["", "i", "ik", "iki", "k", "ki", "kik", "r", "ir", "ikr", "ikir", "kr", "kir", "kikr"]
theorem pm_plain_words : Fn0 2 m_plain_words (eL eS) p_plain_words := fun r S hS h => by
  cases h
  have e : ∀ S, m_plain_words [] S = .ok (eL eS ["", "i", "ik", "iki", "k", "ki", "kik", "r", "ir", "ikr", "ikir", "kr", "kir", "kikr"]) S := fun S => by kernel_rfl
  exact ⟨[], by rw [List.append_nil]; exact e S⟩

def p_unlike_by (space : List (List Int)) : Option Int := (p_plain_words ).bind fun z3 => (if z3.length ≤ 1000000 then some z3 else none).bind fun z4 => (lcP (fun _ => some true) (fun word => (some space).bind fun z1 => (some word).bind fun z2 => p_made_by_all z1 z2) z4).bind fun z5 => some ((unl z5 []).length : Int)
theorem pm_unlike_by : Fn1 2 m_unlike_by (eT (eT eI)) eI p_unlike_by := fn1_of fun space => evs_ret (evp_dclen (KeyOn.tups KeyOn.ints) (fun a => by exact depth_TTI a) (evp_itL (evp_fn0 pm_plain_words )) rfl (fun word => rfl) (fun word => evp_fn2 pm_made_by_all (evp_var (e := (eT (eT eI))) (a := space) rfl) (evp_var (e := eS) (a := word) rfl)) (fun word => evp_c (e := eB) (a := true) rfl))
def p__law_alone (many : Int) : Option (List (List Int)) := ((some many).bind fun z1 => rngP z1).bind fun z3 => (smallP z3).bind (lcP (fun place => some true) (fun place => (some place).bind fun z2 => some [z2]))
theorem pm__law_alone : Fn1 2 m__law_alone eI (eT (eT eI)) p__law_alone := fn1_of fun many => evs_ret (evp_tupleL (evp_frz (evp_lc (evp_rng (evp_var (e := eI) (a := many) rfl)) rfl (fun place => rfl) (fun place => evp_yes) (fun place => evp_tup1 (evp_var (e := eI) (a := place) rfl)))))
def p_is_row (value : List (List Int)) (least : Int) (most : Int) : Option Bool := ((some value).bind fun z1 => some (isTy .tup .tup)).bind fun z6 => if z6 = true then ((some least).bind fun z3 => ((some value).bind fun z2 => some (z2.length : Int)).bind fun z4 => if z3 ≤ z4 then (some most).bind fun z5 => some (decide (z4 ≤ z5)) else some false) else some false
theorem pm_is_row : Fn3 2 m_is_row (eT (eT eI)) eI eI eB p_is_row := fn3_of fun value least most => evs_ret (evp_and (evp_isi (t := .tup) (fun _ _ => rfl) (evp_var (e := (eT (eT eI))) (a := value) rfl)) (evp_leleI (evp_var (e := eI) (a := least) rfl) (evp_lenT (evp_var (e := (eT (eT eI))) (a := value) rfl)) (evp_var (e := eI) (a := most) rfl)))
def p_is_closed_up (reaches : List (List Int)) (reach : List Int) : Option Bool := ((some reach).bind fun z5 => (smallP z5).bind (lcP (fun place => some true) (fun place => ((some reaches).bind fun z1 => (some place).bind fun z2 => L2.atI z1 z2).bind fun z3 => (some reach).bind fun z4 => p_is_within z3 z4))).bind fun z6 => some (z6.all id)
theorem pm_is_closed_up : Fn2 2 m_is_closed_up (eT (eT eI)) (eT eI) eB p_is_closed_up := fn2_of fun reaches reach => evs_ret (evp_all (evp_frz (evp_lc (evp_itT (evp_var (e := (eT eI)) (a := reach) rfl)) rfl (fun place => rfl) (fun place => evp_yes) (fun place => evp_fn2 pm_is_within (evp_ixT (evp_var (e := (eT (eT eI))) (a := reaches) rfl) (evp_var (e := eI) (a := place) rfl)) (evp_var (e := (eT eI)) (a := reach) rfl)))))
def p_is_lot_of (places : Int) (value : List Int) : Option Bool := ((((some value).bind fun z1 => some (isTy .tup .tup)).bind fun z2 => some (!z2)).bind fun z11 => if z11 = true then some true else ((((some value).bind fun z8 => (smallP z8).bind (lcP (fun place => some true) (fun place => (some place).bind fun z5 => (some (0 : Int)).bind fun z6 => ((some places).bind fun z3 => (some (1 : Int)).bind fun z4 => some (z3 - z4)).bind fun z7 => p_is_between z5 z6 z7))).bind fun z9 => some (z9.all id)).bind fun z10 => some (!z10))).bind fun z12 => if z12 = true then (some false) else ((((some value).bind fun z16 => ((some value).bind fun z13 => ((some (1 : Int)).map some).bind fun z14 => ((some (none : Option Int))).bind fun z15 => some (cutD z13 z14 z15)).bind fun z17 => some (z16.zip z17)).bind fun z21 => (smallP z21).bind (lcP (fun z18 => some true) (fun z18 => (some z18.1).bind fun z19 => (some z18.2).bind fun z20 => some (decide (z19 < z20))))).bind fun z22 => some (z22.all id))
theorem pm_is_lot_of : Fn2 2 m_is_lot_of eI (eT eI) eB p_is_lot_of := fn2_of fun places value => evs_ifr (evp_orT (evp_notT (evp_tst (evp_isi (t := .tup) (fun _ _ => rfl) (evp_var (e := (eT eI)) (a := value) rfl)))) (evp_notT (evp_tst (evp_all (evp_frz (evp_lc (evp_itT (evp_var (e := (eT eI)) (a := value) rfl)) rfl (fun place => rfl) (fun place => evp_yes) (fun place => evp_fn3 pm_is_between (evp_var (e := eI) (a := place) rfl) (evp_c (e := eI) (a := 0) rfl) (evp_subI (evp_var (e := eI) (a := places) rfl) (evp_c (e := eI) (a := 1) rfl))))))))) (evs_ret (evp_c (e := eB) (a := false) rfl)) (evs_skip (evs_ret (evp_all (evp_frz (evp_lc (evp_zipT (evp_var (e := (eT eI)) (a := value) rfl) (evp_slT (evp_var (e := (eT eI)) (a := value) rfl) (evp_partO (evp_part (evp_c (e := eI) (a := 1) rfl))) (evp_noPart))) rfl (fun z18 => rfl) (fun z18 => evp_yes) (fun z18 => evp_ltI (evp_var (e := eI) (a := z18.1) rfl) (evp_var (e := eI) (a := z18.2) rfl)))))))
def p_is_reach_of (places : Int) (place : Int) (value : List Int) : Option Bool := ((some places).bind fun z1 => (some value).bind fun z2 => p_is_lot_of z1 z2).bind fun z5 => if z5 = true then ((some place).bind fun z3 => (some value).bind fun z4 => some (decide (z3 ∈ z4))) else some false
theorem pm_is_reach_of : Fn3 2 m_is_reach_of eI eI (eT eI) eB p_is_reach_of := fn3_of fun places place value => evs_ret (evp_and (evp_fn2 pm_is_lot_of (evp_var (e := eI) (a := places) rfl) (evp_var (e := (eT eI)) (a := value) rfl)) (evp_inT (evp_var (e := eI) (a := place) rfl) (evp_var (e := (eT eI)) (a := value) rfl)))
/-! ### the first wrong one -/
def fwP {τ : Type} (pk : τ → List τ → Option Bool) (l : List τ) : List (Int × τ) → Option (Option Int)
  | [] => some none
  | x :: r => (pk x.2 (cutD l none (some x.1))).bind fun b => if b = true then fwP pk l r else some (some x.1)
def enumP {τ : Type} (l : List τ) : List (Int × τ) := l.zipIdx.map fun p => (((p.2 : Nat) : Int), p.1)
theorem first_wrong_ok {τ : Type} {e : τ → Da} {pk : τ → List τ → Option Bool} {k : Mf} (hk : Fn2 2 k e (eT e) eB pk) (tk : Nat) (l : List τ) : ∀ r S, NTb 2 S → fwP pk l (enumP l) = some r → ∃ X, m_first_wrong tk 0 0 k [eT e l, .fn tk 0 0] S = .ok (eO eI r) (S ++ X) := by
  intro r S hS h
  have step : ∀ (m : List (Int × τ)) (r : Option Int) (ρ2 ρ3 : Option Da) (S : Store), NTb 2 S → fwP pk l m = some r → ∃ X, (forL (.many [2, 3]) (ifS (notT (tstM (actN 1 tk 0 0 2 k (consM (varM 3) (consM (sliceM slTD (varM 0) (noPartM) (partM (varM 2))) (nilM)))))) (retS (varM 2)) (skipS)) (m.map (eP eI e)) [some (eT e l), some (.fn tk 0 0), ρ2, ρ3] S).seq (retS (cM .non)) = .rt (eO eI r) (S ++ X) := fun m => by
    induction m with
    | nil => intro r ρ2 ρ3 S hS h; cases h; exact ⟨[], by rw [List.append_nil]; rfl⟩
    | cons x m ih =>
      intro r ρ2 ρ3 S hS h
      obtain ⟨b, hb, h⟩ := Option.bind_eq_some_iff.mp (show ((pk x.2 (cutD l none (some x.1))).bind fun b => if b = true then fwP pk l m else some (some x.1)) = some r from h)
      obtain ⟨X, hX⟩ := hk x.2 (cutD l none (some x.1)) b S hS hb
      have args : consM (varM 3) (consM (sliceM slTD (varM 0) (noPartM) (partM (varM 2))) (nilM)) [some (eT e l), some (.fn tk 0 0), some (eI x.1), some (e x.2)] S = .ok [e x.2, eT e (cutD l none (some x.1))] S := by
        have e1 : sliceM slTD (varM 0) (noPartM) (partM (varM 2)) [some (eT e l), some (.fn tk 0 0), some (eI x.1), some (e x.2)] S = .ok (.tup (cutD (l.map e) none (some x.1))) S := rfl
        rw [cutD_map] at e1
        exact ev_cons (ev_var rfl) (ev_cons e1 ev_nil)
      have act : actN 1 tk 0 0 2 k (consM (varM 3) (consM (sliceM slTD (varM 0) (noPartM) (partM (varM 2))) (nilM))) [some (eT e l), some (.fn tk 0 0), some (eI x.1), some (e x.2)] S = .ok (.bl b) (S ++ X) := by
        show (if tk = tk ∧ (0 : Addr) = 0 ∧ (0 : Addr) = 0 then (consM (varM 3) (consM (sliceM slTD (varM 0) (noPartM) (partM (varM 2))) (nilM)) [some (eT e l), some (.fn tk 0 0), some (eI x.1), some (e x.2)] S).bind fun ds S1 => if ds.length = 2 then k ds S1 else .bad else .bad) = _
        rw [if_pos ⟨rfl, rfl, rfl⟩, args]
        exact hX
      have test : notT (tstM (actN 1 tk 0 0 2 k (consM (varM 3) (consM (sliceM slTD (varM 0) (noPartM) (partM (varM 2))) (nilM))))) [some (eT e l), some (.fn tk 0 0), some (eI x.1), some (e x.2)] S = .ok (!b) (S ++ X) := ev_notT (ev_tst act)
      rw [List.map_cons]
      unfold forL
      have hbt : bindT (.many [2, 3]) (eP eI e x) [some (eT e l), some (.fn tk 0 0), ρ2, ρ3] = some [some (eT e l), some (.fn tk 0 0), some (eI x.1), some (e x.2)] := rfl
      rw [hbt]
      dsimp only
      cases b with
      | true =>
        obtain ⟨Y, hY⟩ := ih r (some (eI x.1)) (some (e x.2)) (S ++ X) hS.app h
        refine ⟨X ++ Y, ?_⟩
        rw [ev_ifs_f test rfl]
        show (forL _ _ (m.map (eP eI e)) [some (eT e l), some (.fn tk 0 0), some (eI x.1), some (e x.2)] (S ++ X)).seq _ = _
        rw [hY, List.append_assoc]
      | false =>
        cases h
        refine ⟨X, ?_⟩
        rw [ev_ifs_t test (ev_ret (ev_var (i := 2) rfl))]
        rfl
  obtain ⟨X, hX⟩ := step (enumP l) r none none S hS h
  refine ⟨X, congrArg RS.res (a₁ := b_first_wrong tk 0 0 k [some (eT e l), some (.fn tk 0 0), none, none] S) (a₂ := .rt _ _) ?_⟩
  unfold b_first_wrong seqS forS
  have hs : itET (varM 0) [some (eT e l), some (.fn tk 0 0), none, none] S = .ok (enumL (l.map e)) S := rfl
  rw [hs, enum_map]
  exact hX
theorem lam_ok {τ : Type} {e : τ → Da} {pk : τ → List τ → Option Bool} {m f : M Da} {ρ : En} {i j : Nat} {p : Option (List τ)} (hf : Ev 2 f ρ (eT e) p) (hm : ∀ x a, Ev 2 m ((ρ.set i (some (e x))).set j (some (eT e a))) eB (pk x a)) : Ev 2 (lamF (m_first_wrong 0) 0 1 [i, j] (consM f nilM) m) ρ (eO eI) (p.bind fun l => fwP pk l (enumP l)) := fun r hr S hS => by
  obtain ⟨l, hl, hr⟩ := Option.bind_eq_some_iff.mp hr
  obtain ⟨X, hX⟩ := hf l hl S hS
  have hk : Fn2 2 (lamK [i, j] m ρ) e (eT e) eB pk := fun x a b S hS hb => hm x a b hb S hS
  obtain ⟨Y, hY⟩ := first_wrong_ok hk 0 l r (S ++ X) hS.app hr
  refine ⟨X ++ Y, ?_⟩
  obtain ⟨R, rfl⟩ := hS
  unfold lamF
  rw [show consM f nilM ρ (tabS 2 ++ R) = .ok [eT e l] (tabS 2 ++ R ++ X) from by unfold consM; rw [hX]; rfl]
  simp only [Res.bind]
  have ht : (tabS 2 ++ R ++ X)[0]? = some (.tab 0) := rfl
  rw [ht]
  dsimp only
  rw [if_pos ⟨rfl, rfl⟩]
  show m_first_wrong 0 0 0 (lamK [i, j] m ρ) [eT e l, .fn 0 0 0] (tabS 2 ++ R ++ X) = _
  rw [hY, List.append_assoc (tabS 2 ++ R)]
def p_wrong_reach (value : List (List Int)) : Option (Option Int) :=
  ((some value).bind fun l => fwP (fun reach ahead => ((some value).bind fun z => some (z.length : Int)).bind fun a => ((some ahead).bind fun z => some (z.length : Int)).bind fun b => (some reach).bind fun c => p_is_reach_of a b c) l (enumP l)).bind fun wrong =>
    ((some wrong).bind fun z => some z.isSome).bind fun t => if t = true then some wrong else ((some value).bind fun l => fwP (fun reach ahead => (some value).bind fun a => (some reach).bind fun b => p_is_closed_up a b) l (enumP l))
theorem pm_wrong_reach : Fn1 2 m_wrong_reach (eT (eT eI)) (eO eI) p_wrong_reach := fn1_of fun value => by
  unfold b_wrong_reach
  refine evs_set (lam_ok (e := eT eI) (evp_var (e := eT (eT eI)) (a := value) rfl) fun reach ahead => evp_fn3 pm_is_reach_of (evp_lenT (evp_var (e := eT (eT eI)) (a := value) rfl)) (evp_lenT (evp_var (e := eT (eT eI)) (a := ahead) rfl)) (evp_var (e := eT eI) (a := reach) rfl)) (fun w => rfl) fun wrong => ?_
  exact evs_ifr (evp_tst (evp_notN (e := eI) (fun a q => nomatch q) (evp_var (e := eO eI) (a := wrong) rfl))) (evs_ret (evp_var (e := eO eI) (a := wrong) rfl)) (evs_skip (evs_ret (lam_ok (e := eT eI) (evp_var (e := eT (eT eI)) (a := value) rfl) fun reach ahead => evp_fn2 pm_is_closed_up (evp_var (e := eT (eT eI)) (a := value) rfl) (evp_var (e := eT eI) (a := reach) rfl))))

def p_check_space (value : List (List Int)) : Option Unit := (((some value).bind fun z1 => (some (1 : Int)).bind fun z2 => (some (7 : Int)).bind fun z3 => p_is_row z1 z2 z3).bind fun z4 => some (!z4)).bind fun z5 => if z5 = true then none else (((some value).bind fun z6 => p_wrong_reach z6).bind fun wrong => ((some wrong).bind fun z7 => some z7.isSome).bind fun z8 => if z8 = true then none else some ())
theorem pm_check_space : Fn1 2 m_check_space (eT (eT eI)) eN p_check_space := fn1_ofE fun value => eve_ifx (evp_notT (evp_tst (evp_fn3 pm_is_row (evp_var (e := (eT (eT eI))) (a := value) rfl) (evp_c (e := eI) (a := 1) rfl) (evp_c (e := eI) (a := 7) rfl)))) (eve_set (evp_fn1 pm_wrong_reach (evp_var (e := (eT (eT eI))) (a := value) rfl)) (fun wrong => rfl) (fun wrong => eve_if (evp_tst (evp_notN (e := eI) (fun a q => nomatch q) (evp_var (e := (eO eI)) (a := wrong) rfl))) eve_none eve_skip))
def p_is_open_by (space : List (List Int)) (lot : List Int) : Option Bool := ((some lot).bind fun z5 => (smallP z5).bind (lcP (fun place => some true) (fun place => ((some space).bind fun z1 => (some place).bind fun z2 => L2.atI z1 z2).bind fun z3 => (some lot).bind fun z4 => p_is_within z3 z4))).bind fun z6 => some (z6.all id)
theorem pm_is_open_by : Fn2 2 m_is_open_by (eT (eT eI)) (eT eI) eB p_is_open_by := fn2_of fun space lot => evs_ret (evp_all (evp_frz (evp_lc (evp_itT (evp_var (e := (eT eI)) (a := lot) rfl)) rfl (fun place => rfl) (fun place => evp_yes) (fun place => evp_fn2 pm_is_within (evp_ixT (evp_var (e := (eT (eT eI))) (a := space) rfl) (evp_var (e := eI) (a := place) rfl)) (evp_var (e := (eT eI)) (a := lot) rfl)))))
def p_open_lots_by (space : List (List Int)) : Option (List (List Int)) := (((some space).bind fun z1 => some (z1.length : Int)).bind fun z2 => p_all_lots z2).bind fun z5 => (smallP z5).bind (lcP (fun lot => (some space).bind fun z3 => (some lot).bind fun z4 => p_is_open_by z3 z4) (fun lot => some lot))
theorem pm_open_lots_by : Fn1 2 m_open_lots_by (eT (eT eI)) (eT (eT eI)) p_open_lots_by := fn1_of fun space => evs_ret (evp_tupleL (evp_frz (evp_lc (evp_itL (evp_fn1 pm_all_lots (evp_lenT (evp_var (e := (eT (eT eI))) (a := space) rfl)))) rfl (fun lot => rfl) (fun lot => evp_tst (evp_fn2 pm_is_open_by (evp_var (e := (eT (eT eI))) (a := space) rfl) (evp_var (e := (eT eI)) (a := lot) rfl))) (fun lot => evp_var (e := (eT eI)) (a := lot) rfl))))
def p_open_lots (space : List (List Int)) : Option (List (List Int)) := ((some space).bind fun z1 => p_check_space z1).bind fun _ => (some space).bind fun z2 => p_open_lots_by z2
theorem pm_open_lots : Fn1 2 m_open_lots (eT (eT eI)) (eT (eT eI)) p_open_lots := fn1_of fun space => evs_drop (evp_fn1 pm_check_space (evp_var (e := (eT (eT eI))) (a := space) rfl)) (evs_ret (evp_fn1 pm_open_lots_by (evp_var (e := (eT (eT eI))) (a := space) rfl)))
end NL

set_option Elab.async false
set_option linter.all false
set_option autoImplicit false
set_option maxRecDepth 100000
set_option maxHeartbeats 4100000
namespace NL
open PySem PySem.Spec PyProof.Rows L2

theorem atI3_0 (a b c : Da) : L2.atI [a, b, c] 0 = some a := by rfl
theorem atI3_1 (a b c : Da) : L2.atI [a, b, c] 1 = some b := by rfl
theorem atI3_2 (a b c : Da) : L2.atI [a, b, c] 2 = some c := by rfl
theorem ixN3_0 : ixN 3 0 = some 0 := by rfl
theorem ixN3_1 : ixN 3 1 = some 1 := by rfl
theorem ixN3_2 : ixN 3 2 = some 2 := by rfl
theorem take_ok {j : Nat} {S : Store} {x y z m : Int} (h : S[j]? = some (.lst [.int x, .int y, .int z])) (hm : 0 < m) (hm2 : m < 1073741824) :
    ∃ d x' y' z', m__law_take [.cell j, .int m] S = .ok (.int d) (S.set j (.lst [.int x', .int y', .int z'])) ∧ 0 ≤ d ∧ d < m := by
  have hj : j < S.length := (List.getElem?_eq_some_iff.mp h).1
  have hs : ∀ c, (S.set j c)[j]? = some c := fun c => List.getElem?_set_self hj
  unfold m__law_take defM b__law_take
  by_cases hx : 0 < x
  · refine ⟨x % m, x / m, y, z, ?_, Int.emod_nonneg _ (by omega), Int.emod_lt_of_pos _ hm⟩
    simp [seqS, ifS, tstM, opM, varM, cM, ixD, asL, h, Res.bind, Res.thenS, RS.seq, RS.res, ofO, gtD, ii, atI3_0, hx, asgGS, onlyNx, tupT, consT, subT, nameT, nilT, callM, divmodD, consM, nilM, hm, hm2, retS, ixN3_0, List.set]
  · refine ⟨((y * 69621 + (z + 1) * 30011 + 7) % 2147483587 / 256 + (z + 1)) % m, x, (y * 69621 + (z + 1) * 30011 + 7) % 2147483587, z + 1, ?_, Int.emod_nonneg _ (by omega), Int.emod_lt_of_pos _ hm⟩
    simp [seqS, ifS, tstM, opM, varM, cM, ixD, asL, h, hs, List.set_set, Res.bind, Res.thenS, RS.seq, RS.res, ofO, gtD, ii, atI3_0, atI3_1, atI3_2, hx, asgGS, onlyNx, subT, callM, intD, addD, mulD, modD, fdivD, consM, nilM, hm, hm2, retS, skipS, ixN3_0, ixN3_1, ixN3_2, List.set, lim64]
theorem len_src (l : List Da) (S : Store) : lenD [.src l] S = some (.int l.length) := rfl
theorem forL_inv {tg : Tg} {body : MS} {P : En → Store → Prop} : ∀ {ds : List Da} {ρ : En} {S : Store}, P ρ S → (∀ d ∈ ds, ∀ ρ S, P ρ S → ∃ ρ1, bindT tg d ρ = some ρ1 ∧ ∃ ρ2 S2, body ρ1 S = .nx ρ2 S2 ∧ P ρ2 S2) → ∃ ρ2 S2, forL tg body ds ρ S = .nx ρ2 S2 ∧ P ρ2 S2
  | [], ρ, S, h, _ => ⟨ρ, S, rfl, h⟩
  | d :: ds, ρ, S, h, k => by
    obtain ⟨ρ1, h1, ρ2, S2, h2, h3⟩ := k d List.mem_cons_self ρ S h
    obtain ⟨ρ3, S3, h4, h5⟩ := forL_inv h3 fun d hd => k d (List.mem_cons_of_mem _ hd)
    refine ⟨ρ3, S3, ?_, h5⟩
    unfold forL
    rw [h1]
    dsimp only
    rw [h2]
    exact h4
theorem well_ok {ns : List Int} {lap : Nat} (S : Store) (hn : ns.length ≤ 63) (hl : lap ≤ 2) : ∃ x y, m__law_well [.src (ns.map Da.int), .int lap] S = .ok (.cell S.length) (S ++ [.lst [.int x, .int y, .int 0]]) := by
  have hat : ∀ h : lap < ns.length, L2.atI (ns.map Da.int) (lap : Int) = some (.int (ns.getD lap 0)) := fun h => by
    unfold L2.atI ixN
    simp [h]
  have hown : ∃ o : Int, ifM (tstM (opM ltD (varM 1) (callM lenD (consM (varM 0) (nilM))))) (callM intD (consM (opM ixD (varM 0) (varM 1)) (nilM))) (cM (.int 0)) [some (.src (ns.map Da.int)), some (.int lap), none, none, none] S = .ok (.int o) S := by
    by_cases h : lap < ns.length
    · refine ⟨ns.getD lap 0, ?_⟩
      have h2 : ((lap : Nat) : Int) < ((ns.length : Nat) : Int) := by omega
      simp [ifM, tstM, opM, varM, callM, consM, nilM, Res.bind, ofO, ltD, ii, len_src, h2, ixD, asL, hat h, intD]
    · refine ⟨0, ?_⟩
      have h2 : ¬ ((lap : Nat) : Int) < ((ns.length : Nat) : Int) := by omega
      simp [ifM, tstM, opM, varM, callM, consM, nilM, Res.bind, ofO, ltD, ii, len_src, h2, cM]
  obtain ⟨o, ho⟩ := hown
  unfold m__law_well defM b__law_well
  have e1 : ((List.map some [Da.src (ns.map Da.int), Da.int lap] ++ List.replicate (5 - [Da.src (ns.map Da.int), Da.int (lap : Int)].length) none) : En) = [some (.src (ns.map Da.int)), some (.int lap), none, none, none] := rfl
  rw [e1]
  generalize hB : (setS 3 (opM modD (callM intD (consM (opM addD (opM addD (opM mulD (varM 3) (cM (.int 48271))) (opM modD (callM intD (consM (varM 4) (nilM))) (cM (.int 2147483579)))) (cM (.int 13))) (nilM))) (cM (.int 2147483629)))) = B
  have hloop : ∀ ds : List Int, ∀ r4 : Option Da, ∀ st : Int, ∃ ρ2 S2, forL (.one 4) B (ds.map Da.int) [some (.src (ns.map Da.int)), some (.int lap), some (.int o), some (.int st), r4] S = .nx ρ2 S2 ∧ (∃ (st2 : Int) (r : Option Da), ρ2 = [some (.src (ns.map Da.int)), some (.int lap), some (.int o), some (.int st2), r]) ∧ S2 = S := fun ds r4 st => by
    refine forL_inv (P := fun ρ2 S2 => (∃ (st2 : Int) (r : Option Da), ρ2 = [some (.src (ns.map Da.int)), some (.int lap), some (.int o), some (.int st2), r]) ∧ S2 = S) ⟨⟨st, r4, rfl⟩, rfl⟩ ?_
    rintro d hd ρ S2 ⟨⟨st2, r, rfl⟩, rfl⟩
    obtain ⟨i, _, rfl⟩ := List.mem_map.mp hd
    refine ⟨_, rfl, ?_⟩
    subst hB
    refine ⟨_, _, ?_, ⟨(st2 * 48271 + i % 2147483579 + 13) % 2147483629, some (.int i), rfl⟩, rfl⟩
    simp [setS, opM, varM, cM, callM, consM, nilM, intD, addD, mulD, modD, ii, Res.bind, Res.thenS, ofO, List.set, lim64]
  have hsl : sliceM slLD (varM 0) (noPartM) (partM (cM (.int 9))) [some (.src (ns.map Da.int)), some (.int lap), some (.int o), some (.int (40503 + 7919 * lap)), none] S = .ok (.lst ((cutD ns none (some 9)).map Da.int)) S := by
    simp [sliceM, varM, noPartM, partM, cM, Res.bind, slLD, asL, ofO, cutD]
  have hlen : (cutD ns none (some 9)).length ≤ 63 := by
    unfold cutD
    simp only [List.length_take, List.length_drop]
    omega
  obtain ⟨ρ2, S2, h1, ⟨st2, r, rfl⟩, rfl⟩ := hloop (cutD ns none (some 9) ++ [o]) none (40503 + 7919 * lap)
  have hb2 : (cutD ns none (some 9)).length + 1 ≤ big := by unfold big; omega
  refine ⟨if o < 0 ∨ o ≥ 10 ^ 18 then (if o < 0 then -o else o) else 0, st2, ?_⟩
  rw [List.map_append] at h1
  have h0 : setS 2 (ifM (tstM (opM ltD (varM 1) (callM lenD (consM (varM 0) (nilM))))) (callM intD (consM (opM ixD (varM 0) (varM 1)) (nilM))) (cM (.int 0))) [some (.src (ns.map Da.int)), some (.int lap), none, none, none] S2 = .nx [some (.src (ns.map Da.int)), some (.int lap), some (.int o), none, none] S2 := by
    show (ifM _ _ _ _ _).thenS _ _ = _
    rw [ho]; rfl
  have h2 : setS 3 (opM addD (cM (.int 40503)) (opM mulD (cM (.int 7919)) (varM 1))) [some (.src (ns.map Da.int)), some (.int lap), some (.int o), none, none] S2 = .nx [some (.src (ns.map Da.int)), some (.int lap), some (.int o), some (.int (40503 + 7919 * lap)), none] S2 := by
    simp [setS, opM, varM, cM, addD, mulD, ii, Res.bind, Res.thenS, ofO, List.set, lim64]
  have h3 : forS (.one 4) (itL (frzM (catF (sliceM slLD (varM 0) (noPartM) (partM (cM (.int 9)))) (frzM (listM (consM (varM 2) (nilM))))))) B [some (.src (ns.map Da.int)), some (.int lap), some (.int o), some (.int (40503 + 7919 * lap)), none] S2 = .nx [some (.src (ns.map Da.int)), some (.int lap), some (.int o), some (.int st2), r] S2 := by
    rw [← h1]
    simp only [forS, itL, frzM, catF, hsl, Res.bind]
    simp [listM, consM, nilM, varM, Res.bind, Res.thenS, tryL, hb2, show (1 : Nat) ≤ big from by decide]
  unfold seqS RS.seq
  rw [h0]
  dsimp only
  rw [h2]
  dsimp only
  rw [h3]
  dsimp only
  by_cases c1 : o < 0
  · simp [retS, celM, listM, consM, nilM, ifM, orT, tstM, opM, ltD, geD, powD, ii, callM, absD, varM, cM, c1, Res.bind, Res.thenS, RS.res, ofO, show (3 : Nat) ≤ big from by decide]
  · by_cases c2 : (1000000000000000000 : Int) ≤ o
    · simp [retS, celM, listM, consM, nilM, ifM, orT, tstM, opM, ltD, geD, powD, ii, callM, absD, varM, cM, c1, c2, Res.bind, Res.thenS, RS.res, ofO, show (3 : Nat) ≤ big from by decide]
    · simp [retS, celM, listM, consM, nilM, ifM, orT, tstM, opM, ltD, geD, powD, ii, callM, absD, varM, cM, c1, c2, Res.bind, Res.thenS, RS.res, ofO, show (3 : Nat) ≤ big from by decide]
theorem ints_some : ∀ l : List Int, intsOf (l.map Da.int) = some l
  | [] => rfl
  | x :: l => by rw [List.map_cons, intsOf, ints_some l]; rfl
def wellC (x y z : Int) : Cell := .lst [.int x, .int y, .int z]
theorem take1 {j : Nat} {S : Store} {x y z m : Int} (h : S[j]? = some (wellC x y z)) (hm : 0 < m) (hm2 : m < 1073741824) :
    ∃ d x' y' z', m__law_take [.cell j, .int m] S = .ok (.int d) (S.set j (wellC x' y' z')) ∧ 0 ≤ d ∧ d < m := take_ok h hm hm2
/-! ### single spaces, by the kernel -/
def spc : Nat → List (List Int)
  | 1 => [[0]]
  | 2 => [[0], [1]]
  | 3 => [[0], [1], [2]]
  | 4 => [[0], [1], [2], [3]]
  | 5 => [[0], [1], [2], [3], [4]]
  | 6 => [[0], [1], [2], [3], [4], [5]]
  | 7 => [[0], [1], [2], [3], [4], [5], [6]]
  | _ => []
def rpc : Nat → Str
  | 1 => "[1, ((0,),), ()]"
  | 2 => "[2, ((0,), (1,)), ()]"
  | 3 => "[3, ((0,), (1,), (2,)), ()]"
  | 4 => "[4, ((0,), (1,), (2,), (3,)), ()]"
  | 5 => "[5, ((0,), (1,), (2,), (3,), (4,)), ()]"
  | 6 => "[6, ((0,), (1,), (2,), (3,), (4,), (5,)), ()]"
  | 7 => "[7, ((0,), (1,), (2,), (3,), (4,), (5,), (6,)), ()]"
  | _ => ""
theorem seven {P : Nat → Prop} (p1 : P 1) (p2 : P 2) (p3 : P 3) (p4 : P 4) (p5 : P 5) (p6 : P 6) (p7 : P 7) {n : Nat} (h1 : 1 ≤ n) (h7 : n ≤ 7) : P n := by
  have : n = 1 ∨ n = 2 ∨ n = 3 ∨ n = 4 ∨ n = 5 ∨ n = 6 ∨ n = 7 := by omega
  rcases this with rfl | rfl | rfl | rfl | rfl | rfl | rfl <;> assumption
theorem un_ok {n : Nat} (h1 : 1 ≤ n) (h7 : n ≤ 7) : p_unlike_by (spc n) = some 2 := seven (P := fun n => p_unlike_by (spc n) = some 2) (by kernel_rfl) (by kernel_rfl) (by kernel_rfl) (by kernel_rfl) (by kernel_rfl) (by kernel_rfl) (by kernel_rfl) h1 h7
theorem pt_ok {n : Nat} (h1 : 1 ≤ n) (h7 : n ≤ 7) : p_parts_by (spc n) = some (spc n) := seven (P := fun n => p_parts_by (spc n) = some (spc n)) (by kernel_rfl) (by kernel_rfl) (by kernel_rfl) (by kernel_rfl) (by kernel_rfl) (by kernel_rfl) (by kernel_rfl) h1 h7
theorem al_ok {n : Nat} (h1 : 1 ≤ n) (h7 : n ≤ 7) : p__law_alone (n : Nat) = some (spc n) := seven (P := fun n => p__law_alone (n : Nat) = some (spc n)) (by kernel_rfl) (by kernel_rfl) (by kernel_rfl) (by kernel_rfl) (by kernel_rfl) (by kernel_rfl) (by kernel_rfl) h1 h7
theorem ol_ok0 {n : Nat} (h1 : 1 ≤ n) (h7 : n ≤ 7) : (p_open_lots (spc n)).map List.length = some (2 ^ n) := seven (P := fun n => (p_open_lots (spc n)).map List.length = some (2 ^ n)) (by kernel_rfl) (by kernel_rfl) (by kernel_rfl) (by kernel_rfl) (by kernel_rfl) (by kernel_rfl) (by kernel_rfl) h1 h7
theorem ol_ok {n : Nat} (h1 : 1 ≤ n) (h7 : n ≤ 7) : ∃ l, p_open_lots (spc n) = some l ∧ l.length = 2 ^ n := by
  have h := ol_ok0 h1 h7
  cases e : p_open_lots (spc n) with
  | none => exact absurd (e ▸ h) nofun
  | some l => rw [e] at h; exact ⟨l, rfl, by simpa using h⟩
theorem ln_ok {n : Nat} (h1 : 1 ≤ n) (h7 : n ≤ 7) : (spc n).length = n := seven (P := fun n => (spc n).length = n) rfl rfl rfl rfl rfl rfl rfl h1 h7
theorem rp_ok {n : Nat} (h1 : 1 ≤ n) (h7 : n ≤ 7) (S : Store) : reprAD [.lst [.int n, eT (eT eI) (spc n), .tup []]] S = some (.str (rpc n)) := seven (P := fun n => reprAD [.lst [.int n, eT (eT eI) (spc n), .tup []]] S = some (.str (rpc n))) (by kernel_rfl) (by kernel_rfl) (by kernel_rfl) (by kernel_rfl) (by kernel_rfl) (by kernel_rfl) (by kernel_rfl) h1 h7
theorem rn_ok {n : Nat} (h1 : 1 ≤ n) (h7 : n ≤ 7) (S : Store) : neD (.str (rpc n)) (.str (rpc n)) S = some (.bl false) := seven (P := fun n => neD (.str (rpc n)) (.str (rpc n)) S = some (.bl false)) (by kernel_rfl) (by kernel_rfl) (by kernel_rfl) (by kernel_rfl) (by kernel_rfl) (by kernel_rfl) (by kernel_rfl) h1 h7
theorem ct_ok {n : Nat} (h1 : 1 ≤ n) (h7 : n ≤ 7) (S : Store) : neD (.lst [.int 2, .int n, .int ((2 ^ n : Nat) : Int)]) (.lst [.int 2, .int n, .int ((2 ^ n : Nat) : Int)]) S = some (.bl false) := seven (P := fun n => neD (.lst [.int 2, .int n, .int ((2 ^ n : Nat) : Int)]) (.lst [.int 2, .int n, .int ((2 ^ n : Nat) : Int)]) S = some (.bl false)) (by kernel_rfl) (by kernel_rfl) (by kernel_rfl) (by kernel_rfl) (by kernel_rfl) (by kernel_rfl) (by kernel_rfl) h1 h7
def nxt (n : Nat) : Nat := n % 7 + 1
theorem nx_ok {n : Nat} (h1 : 1 ≤ n) (h7 : n ≤ 7) (a0 a1 a2 : Option Da) (t : En) (S : Store) : opM addD (opM modD (callM intD (consM (varM 3) (nilM))) (cM (.int 7))) (cM (.int 1)) (a0 :: a1 :: a2 :: some (.int n) :: t) S = .ok (.int ((nxt n : Nat) : Int)) S := seven (P := fun n => opM addD (opM modD (callM intD (consM (varM 3) (nilM))) (cM (.int 7))) (cM (.int 1)) (a0 :: a1 :: a2 :: some (.int n) :: t) S = .ok (.int ((nxt n : Nat) : Int)) S) (by kernel_rfl) (by kernel_rfl) (by kernel_rfl) (by kernel_rfl) (by kernel_rfl) (by kernel_rfl) (by kernel_rfl) h1 h7
theorem pw_ok {n : Nat} (h1 : 1 ≤ n) (h7 : n ≤ 7) (a0 a1 a2 a5 a6 a7 : Option Da) (S : Store) : ∃ b5, forS (.one 5) (itR1 (varM 3)) (setS 4 (opM mulD (varM 4) (cM (.int 2)))) [a0, a1, a2, some (.int n), some (.int 1), a5, a6, a7] S = .nx [a0, a1, a2, some (.int n), some (.int ((2 ^ n : Nat) : Int)), b5, a6, a7] S := ⟨some (.int ((n : Int) - 1)), seven (P := fun n => forS (.one 5) (itR1 (varM 3)) (setS 4 (opM mulD (varM 4) (cM (.int 2)))) [a0, a1, a2, some (.int n), some (.int 1), a5, a6, a7] S = .nx [a0, a1, a2, some (.int n), some (.int ((2 ^ n : Nat) : Int)), some (.int ((n : Int) - 1)), a6, a7] S) (by kernel_rfl) (by kernel_rfl) (by kernel_rfl) (by kernel_rfl) (by kernel_rfl) (by kernel_rfl) (by kernel_rfl) h1 h7⟩
theorem single_ok {n : Nat} (h1 : 1 ≤ n) (h7 : n ≤ 7) (S : Store) : m_single_space [.int n] S = .ok (eT (eT eI) (spc n)) S := seven (P := fun n => m_single_space [.int n] S = .ok (eT (eT eI) (spc n)) S) (by kernel_rfl) (by kernel_rfl) (by kernel_rfl) (by kernel_rfl) (by kernel_rfl) (by kernel_rfl) (by kernel_rfl) h1 h7
theorem num_ok {n : Nat} (h1 : 1 ≤ n) (h7 : n ≤ 7) (S : Store) : m_is_between [.int n, .int 1, .int 7] S = .ok (.bl true) S := seven (P := fun n => m_is_between [.int n, .int 1, .int 7] S = .ok (.bl true) S) (by kernel_rfl) (by kernel_rfl) (by kernel_rfl) (by kernel_rfl) (by kernel_rfl) (by kernel_rfl) (by kernel_rfl) h1 h7
/-! ### a yard -/
def yf (n : Int) (z : Da) (p : Nat) : List (Str × Da) := [("places", .int n), ("space", z), ("deeds", .tup []), ("past", .cell p)]
def yardC (n : Nat) (p : Nat) : Cell := .obj "Yard" (yf n (eT (eT eI) (spc n)) p)
theorem lk_places {n : Int} {z : Da} {p : Nat} : (yf n z p).lookup ("places" : Str) = some (Da.int n) := by kernel_rfl
theorem lk_space {n : Int} {z : Da} {p : Nat} : (yf n z p).lookup ("space" : Str) = some z := by kernel_rfl
theorem lk_deeds {n : Int} {z : Da} {p : Nat} : (yf n z p).lookup ("deeds" : Str) = some (Da.tup []) := by kernel_rfl
theorem lk_words {n : Int} {z : Da} {p : Nat} : (yf n z p).lookup ("words" : Str) = none := by kernel_rfl
theorem lk_parts {n : Int} {z : Da} {p : Nat} : (yf n z p).lookup ("parts" : Str) = none := by kernel_rfl
theorem obj_at {c : Str} {fs : List (Str × Da)} {j : Nat} {S : Store} (h : S[j]? = some (.obj c fs)) : objAt S c (.cell j) = some (j, fs) := by
  unfold objAt
  dsimp only
  rw [h]
  exact if_pos rfl
theorem obj_set {c f : Str} {fs : List (Str × Da)} {j i : Nat} {d : Da} {ρ : En} {S S1 : Store} {fe : M Da} (he : fe ρ S = .ok d S1) (h : S1[j]? = some (.obj c fs)) (hρ : varM i ρ S1 = .ok (.cell j) S1) (hl : fs.length < 1000) : setFS c f (varM i) fe ρ S = .nx ρ (S1.set j (.obj c (putD f d fs))) := by
  unfold setFS
  rw [he]
  simp only [Res.thenS, hρ, obj_at h]
  rw [if_pos hl]
theorem seq_nx {a b : MS} {ρ ρ1 : En} {S S1 : Store} {R : RS} (h : a ρ S = .nx ρ1 S1) (k : b ρ1 S1 = R) : seqS a b ρ S = R := by unfold seqS; rw [h]; exact k
theorem init_ok {n j : Nat} {S : Store} (h1 : 1 ≤ n) (h7 : n ≤ 7) (hj : S[j]? = some (.obj "Yard" [])) : m_Yard_init [.cell j, .int n] S = .ok .non (S.set j (yardC n S.length) ++ [.lst []]) := by
  have jl : j < S.length := (List.getElem?_eq_some_iff.mp hj).1
  have at_ : ∀ c : Cell, (S.set j c)[j]? = some c := fun c => List.getElem?_set_self jl
  refine congrArg RS.res (a₁ := b_Yard_init [some (.cell j), some (.int n)] S) (a₂ := .nx [some (.cell j), some (.int n)] _) ?_
  unfold b_Yard_init
  refine seq_nx (ρ1 := [some (.cell j), some (.int n)]) (S1 := S) (ev_ifs_f (ev_notT (p := true) (ev_tst (ev_fun (ev_cons (ev_var (i := 1) rfl) (ev_cons ev_c (ev_cons ev_c ev_nil))) rfl (num_ok h1 h7 S)))) rfl) ?_
  refine seq_nx (obj_set (i := 0) (ev_var (i := 1) rfl) hj rfl (by decide)) ?_
  refine seq_nx (obj_set (i := 0) (ev_fun (ev_cons (ev_var rfl) ev_nil) rfl (single_ok h1 h7 _)) (at_ _) rfl (by show 1 < 1000; decide)) ?_
  rw [List.set_set]
  refine seq_nx (obj_set (i := 0) (d := .tup []) (S1 := S.set j (.obj "Yard" (putD "space" (eT (eT eI) (spc n)) (putD "places" (.int n) [])))) rfl (at_ _) rfl (by show (putD "space" _ [(("places" : Str), Da.int n)]).length < 1000; simp [putD]; split <;> simp)) ?_
  rw [List.set_set]
  have hf : putD "deeds" (.tup []) (putD "space" (eT (eT eI) (spc n)) (putD "places" (.int n) [])) = ([("places", .int n), ("space", eT (eT eI) (spc n)), ("deeds", .tup [])] : List (Str × Da)) := by kernel_rfl
  rw [hf]
  have e4 : celM (listM nilM) [some (.cell j), some (.int n)] (S.set j (.obj "Yard" [("places", .int n), ("space", eT (eT eI) (spc n)), ("deeds", .tup [])])) = .ok (.cell S.length) (S.set j (.obj "Yard" [("places", .int n), ("space", eT (eT eI) (spc n)), ("deeds", .tup [])]) ++ [.lst []]) := by
    show Res.ok (Da.cell (S.set j _).length) _ = _
    rw [List.length_set]
  refine (obj_set (i := 0) e4 (by rw [List.getElem?_append_left (by rw [List.length_set]; exact jl)]; exact at_ _) rfl (by show 3 < 1000; decide)).trans ?_
  have hp : Cell.obj "Yard" (putD "past" (.cell S.length) [("places", .int n), ("space", eT (eT eI) (spc n)), ("deeds", .tup [])]) = yardC n S.length := by kernel_rfl
  rw [hp, List.set_append_left _ _ (by rw [List.length_set]; exact jl), List.set_set]
theorem make_ok {n : Nat} {ρ : En} {S S1 : Store} {t : M (List Da)} (h1 : 1 ≤ n) (h7 : n ≤ 7) (ht : t ρ S = .ok [.int n] S1) : makeF "Yard" 2 m_Yard_init t ρ S = .ok (.cell S1.length) (S1 ++ [yardC n (S1.length + 1), .lst []]) := by
  have hj : (S1 ++ [Cell.obj "Yard" []])[S1.length]? = some (.obj "Yard" []) := by simp
  have e := init_ok h1 h7 hj
  unfold makeF
  rw [ht]
  simp only [Res.bind]
  rw [if_pos (by rfl), e]
  simp
section
variable {n n2 p p2 j j2 i k : Nat} {ρ : En} {S S1 S2 : Store} {d : Da}
theorem fld_ok {f : Str} (hρ : varM i ρ S = .ok (.cell j) S) (h : S[j]? = some (yardC n p)) (hf : (yf n (eT (eT eI) (spc n)) p).lookup f = some d) : fldM "Yard" f (varM i) ρ S = .ok d S := by
  unfold fldM
  rw [hρ]
  simp only [Res.bind, obj_at h, hf, ofO]
theorem meth_ok {m : Str} {mf : Mf} (hρ : varM i ρ S = .ok (.cell j) S) (h : S[j]? = some (yardC n p)) (hl : (yf n (eT (eT eI) (spc n)) p).lookup m = none) (ho : mf [.cell j] S = .ok d S2) : methF "Yard" m 1 mf (varM i) nilM ρ S = .ok d S2 := by
  unfold methF
  rw [hρ]
  simp only [Res.bind, obj_at h, hl]
  exact ho
theorem words_ok (h1 : 1 ≤ n) (h7 : n ≤ 7) (h : S[j]? = some (yardC n p)) (hS : NTb 2 S) : ∃ X, m_Yard_words [.cell j] S = .ok (.int 2) (S ++ X) := by
  obtain ⟨X, e⟩ := pm_unlike_by (spc n) 2 S hS (un_ok h1 h7)
  exact ⟨X, congrArg RS.res (a₁ := b_Yard_words [some (.cell j)] S) (a₂ := .rt _ _) (ev_ret (ev_fun (ev_cons (fld_ok rfl h lk_space) ev_nil) rfl e))⟩
theorem parts_ok (h1 : 1 ≤ n) (h7 : n ≤ 7) (h : S[j]? = some (yardC n p)) (hS : NTb 2 S) : ∃ X, m_Yard_parts [.cell j] S = .ok (.int n) (S ++ X) := by
  obtain ⟨X, e⟩ := pm_parts_by (spc n) (spc n) S hS (pt_ok h1 h7)
  refine ⟨X, congrArg RS.res (a₁ := b_Yard_parts [some (.cell j)] S) (a₂ := .rt _ _) (ev_ret (ev_call (ev_cons (ev_fun (ev_cons (fld_ok rfl h lk_space) ev_nil) rfl e) ev_nil) ?_))⟩
  show some (Da.int ((((spc n).map (eT eI)).length : Nat) : Int)) = _
  rw [List.length_map, ln_ok h1 h7]
theorem at_left {c : Cell} {X : Store} (h : S[j]? = some c) : (S ++ X)[j]? = some c := by
  rw [List.getElem?_append_left (List.getElem?_eq_some_iff.mp h).1]; exact h
theorem yeq_ok (h : S[j]? = some (yardC n p)) (h2 : S[j2]? = some (yardC n2 p2)) : m_Yard_eq [.cell j, .cell j2] S = .ok (.bl (decide ((n : Int) = n2))) S := by
  have k2 : kdD "Yard" S (.cell j2) = some .own := by unfold kdD; rw [obj_at h2]
  have e0 : isOM "Yard" (varM 1) [some (.cell j), some (.cell j2)] S = .ok (.bl true) S := by unfold isOM; rw [ev_var (i := 1) rfl]; simp only [Res.bind, k2]; rfl
  have e5 : eqD (.tup []) (.tup []) S = some (.bl true) := by kernel_rfl
  have e : b_Yard_eq [some (.cell j), some (.cell j2)] S = .rt (.bl (true && (decide ((n : Int) = n2) && true))) S := by
    unfold b_Yard_eq
    exact ev_ret (ev_andM (ev_tst e0) fun _ => ev_andM (ev_tst (ev_op (fld_ok rfl h lk_places) (fld_ok rfl h2 lk_places) (by rfl))) fun _ => ev_op (fld_ok rfl h lk_deeds) (fld_ok rfl h2 lk_deeds) e5)
  rw [show m_Yard_eq [.cell j, .cell j2] S = _ from congrArg RS.res e]
  simp [RS.res]
theorem eqO_ok {neg : Bool} {f g : M Da} (hf : f ρ S = .ok (.cell j) S1) (hg : g ρ S1 = .ok (.cell j2) S2) (h : S2[j]? = some (yardC n p)) (h2 : S2[j2]? = some (yardC n2 p2)) : eqOM "Yard" m_Yard_eq neg f g ρ S = .ok (.bl (decide ((n : Int) = n2) != neg)) S2 := by
  have k2 : kdD "Yard" S2 (.cell j2) = some .own := by unfold kdD; rw [obj_at h2]
  unfold eqOM; rw [hf]; simp only [Res.bind]; rw [hg]
  dsimp only
  unfold eqOR
  rw [obj_at h, k2]
  dsimp only
  rw [yeq_ok h h2]
end
/-! ### a lap -/
theorem yard_lap {n j p : Nat} {a0 a1 a2 a5 a7 : Option Da} {S : Store} (h1 : 1 ≤ n) (h7 : n ≤ 7) (h : S[j]? = some (yardC n p)) (hS : NTb 2 S) :
    ∃ X, l_law_0 [a0, a1, a2, some (.int n), some (.int ((2 ^ n : Nat) : Int)), a5, some (.cell j), a7] S = .nx [a0, a1, a2, some (.int n), some (.int ((2 ^ n : Nat) : Int)), a5, some (.cell j), a7] (S ++ X) := by
  obtain ⟨X0, e0⟩ := pm__law_alone n (spc n) S hS (al_ok h1 h7)
  have hS0 := hS.app (X := X0)
  obtain ⟨X1, e1⟩ := words_ok (S := S ++ X0) h1 h7 (at_left h) hS0
  have hS1 := hS0.app (X := X1)
  obtain ⟨X2, e2⟩ := parts_ok (S := S ++ X0 ++ X1) h1 h7 (at_left (at_left h)) hS1
  have hS2 := hS1.app (X := X2)
  obtain ⟨l, hl, ll⟩ := ol_ok h1 h7
  obtain ⟨X3, e3⟩ := pm_open_lots (spc n) l (S ++ X0 ++ X1 ++ X2) hS2 hl
  have hlen : lenD [eT (eT eI) l] (S ++ X0 ++ X1 ++ X2 ++ X3) = some (.int ((2 ^ n : Nat) : Int)) := by
    show some (Da.int (((l.map (eT eI)).length : Nat) : Int)) = _
    rw [List.length_map, ll]
  refine ⟨X0 ++ X1 ++ X2 ++ X3, ?_⟩
  unfold l_law_0
  refine ev_seq_if_f (S1 := S ++ X0) (ev_tst (p := false) (ev_op (ev_call (ev_cons (ev_frz (ev_list (ev_cons (fld_ok rfl h lk_places) (ev_cons (fld_ok rfl h lk_space) (ev_cons (fld_ok rfl h lk_deeds) ev_nil))) rfl)) ev_nil) (rp_ok h1 h7 S)) (ev_call (ev_cons (ev_frz (ev_list (ev_cons (ev_var rfl) (ev_cons (ev_fun (ev_cons (ev_var rfl) ev_nil) rfl e0) (ev_cons (ev_tup ev_nil rfl) ev_nil))) rfl)) ev_nil) (rp_ok h1 h7 _)) (rn_ok h1 h7 _))) (seq_nx rfl ?_)
  refine ev_ifs_f (S1 := S ++ X0 ++ X1 ++ X2 ++ X3) (ev_tst (p := false) (ev_op (ev_frz (ev_list (ev_cons (meth_ok rfl (at_left h) lk_words e1) (ev_cons (meth_ok rfl (at_left (at_left h)) lk_parts e2) (ev_cons (ev_call (ev_cons (ev_fun (ev_cons (fld_ok rfl (at_left (at_left (at_left h))) lk_space) ev_nil) rfl e3) ev_nil) hlen) ev_nil))) rfl)) (ev_frz (ev_list (ev_cons ev_c (ev_cons (ev_var rfl) (ev_cons (ev_var rfl) ev_nil))) rfl)) (ct_ok h1 h7 _))) ?_
  show RS.nx _ _ = _
  simp only [List.append_assoc]
theorem nxt_ne {n : Nat} (h1 : 1 ≤ n) (h7 : n ≤ 7) : 1 ≤ nxt n ∧ nxt n ≤ 7 ∧ nxt n ≠ n := by unfold nxt; omega
theorem tail_ok {n : Nat} {a0 a1 a2 a5 a6 a7 : Option Da} {S : Store} (h1 : 1 ≤ n) (h7 : n ≤ 7) (hS : NTb 2 S) :
    ∃ b5 b6 X, tl_law_0 [a0, a1, a2, some (.int n), some (.int 1), a5, a6, a7] S = .nx [a0, a1, a2, some (.int n), some (.int ((2 ^ n : Nat) : Int)), b5, b6, a7] (S ++ X) := by
  obtain ⟨b5, ep⟩ := pw_ok h1 h7 a0 a1 a2 a5 a6 a7 S
  obtain ⟨n1, n7, nn⟩ := nxt_ne h1 h7
  have mk : ∀ (r6 : Option Da) (S : Store), makeF "Yard" 2 m_Yard_init (consM (varM 3) (nilM)) [a0, a1, a2, some (.int n), some (.int ((2 ^ n : Nat) : Int)), b5, r6, a7] S = .ok (.cell S.length) (S ++ [yardC n (S.length + 1), .lst []]) := fun r6 S => make_ok h1 h7 (ev_cons (ev_var rfl) ev_nil)
  have at_ : ∀ (S : Store) (n p : Nat) (X : Store), (S ++ (yardC n p :: X))[S.length]? = some (yardC n p) := fun S n p X => by simp
  have hSy := hS.app (X := [yardC n (S.length + 1), .lst []])
  have hSz := hSy.app (X := [yardC n ((S ++ [yardC n (S.length + 1), .lst []]).length + 1), .lst []])
  obtain ⟨X1, l1⟩ := yard_lap (a0 := a0) (a1 := a1) (a2 := a2) (a5 := b5) (a7 := a7) h1 h7 (at_left (X := [yardC n ((S ++ [yardC n (S.length + 1), .lst []]).length + 1), .lst []]) (at_ S n (S.length + 1) [.lst []])) hSz
  obtain ⟨X2, l2⟩ := yard_lap (a0 := a0) (a1 := a1) (a2 := a2) (a5 := b5) (a7 := a7) h1 h7 (at_left (X := X1) (at_ (S ++ [yardC n (S.length + 1), .lst []]) n ((S ++ [yardC n (S.length + 1), .lst []]).length + 1) [.lst []])) hSz.app
  have lps : forS (.one 6) (itL (frzM (listM (consM (makeF "Yard" 2 m_Yard_init (consM (varM 3) (nilM))) (consM (makeF "Yard" 2 m_Yard_init (consM (varM 3) (nilM))) (nilM)))))) (l_law_0) [a0, a1, a2, some (.int n), some (.int ((2 ^ n : Nat) : Int)), b5, a6, a7] S
      = .nx [a0, a1, a2, some (.int n), some (.int ((2 ^ n : Nat) : Int)), b5, some (.cell (S ++ [yardC n (S.length + 1), .lst []]).length), a7] (S ++ [yardC n (S.length + 1), .lst []] ++ [yardC n ((S ++ [yardC n (S.length + 1), .lst []]).length + 1), .lst []] ++ X1 ++ X2) := by
    refine ev_for (ev_itL (ev_frz (ev_list (ev_cons (mk a6 _) (ev_cons (mk a6 _) ev_nil)) rfl))) ?_
    have b1 : bindT (.one 6) (.cell S.length) [a0, a1, a2, some (.int n), some (.int ((2 ^ n : Nat) : Int)), b5, a6, a7] = some [a0, a1, a2, some (.int n), some (.int ((2 ^ n : Nat) : Int)), b5, some (.cell S.length), a7] := rfl
    have b2 : bindT (.one 6) (.cell (S ++ [yardC n (S.length + 1), .lst []]).length) [a0, a1, a2, some (.int n), some (.int ((2 ^ n : Nat) : Int)), b5, some (.cell S.length), a7] = some [a0, a1, a2, some (.int n), some (.int ((2 ^ n : Nat) : Int)), b5, some (.cell (S ++ [yardC n (S.length + 1), .lst []]).length), a7] := rfl
    rw [forL_cons, b1]
    dsimp only
    rw [l1]
    dsimp only
    rw [forL_cons, b2]
    dsimp only
    rw [l2]
    rfl
  refine ⟨b5, some (.cell (S ++ [yardC n (S.length + 1), .lst []]).length), ?_⟩
  unfold tl_law_0
  generalize hS4 : S ++ [yardC n (S.length + 1), .lst []] ++ [yardC n ((S ++ [yardC n (S.length + 1), .lst []]).length + 1), .lst []] ++ X1 ++ X2 = S4 at lps
  generalize (some (Da.cell (S ++ [yardC n (S.length + 1), .lst []]).length)) = r6 at lps
  have q1 := eqO_ok (neg := true) (mk r6 S4) (mk r6 _) (at_left (at_ S4 n (S4.length + 1) [.lst []])) (at_ _ n _ [.lst []])
  generalize hS5 : S4 ++ [yardC n (S4.length + 1), .lst []] = S5 at q1
  generalize hS6 : S5 ++ [yardC n (S5.length + 1), .lst []] = S6 at q1
  have mk2 := make_ok (ρ := [a0, a1, a2, some (.int n), some (.int ((2 ^ n : Nat) : Int)), b5, r6, a7]) (S := S6 ++ [yardC n (S6.length + 1), .lst []]) n1 n7 (ev_cons (nx_ok h1 h7 a0 a1 a2 _ _) ev_nil)
  have q2 := eqO_ok (neg := false) (mk r6 S6) mk2 (at_left (at_ S6 n (S6.length + 1) [.lst []])) (at_ _ (nxt n) _ [.lst []])
  have d1 : (decide ((n : Int) = n) != true) = false := by simp
  have d2 : (decide ((n : Int) = (nxt n : Nat)) != false) = false := by
    have : ¬ ((n : Int) = (nxt n : Nat)) := by omega
    simp [this]
  rw [d1] at q1
  rw [d2] at q2
  obtain ⟨Y, hY⟩ : ∃ Y, S6 ++ [yardC n (S6.length + 1), .lst []] ++ [yardC (nxt n) ((S6 ++ [yardC n (S6.length + 1), .lst []]).length + 1), .lst []] = S ++ Y := by
    subst hS6
    subst hS5
    subst hS4
    simp only [List.append_assoc]
    exact ⟨_, rfl⟩
  refine ⟨Y, ?_⟩
  rw [← hY]
  exact seq_nx ep (seq_nx lps (ev_ifs_f (ev_orT_f (ev_tst q1) (ev_tst q2)) rfl))
theorem lap_ok {ns : List Int} {lap : Nat} {S : Store} {r2 r3 r4 r5 r6 r7 : Option Da} (hn : ns.length ≤ 63) (hl : lap ≤ 2) (hS : NTb 2 S) :
    ∃ q X, q.length + 1 = 8 ∧ l_law_3 [some (.src (ns.map Da.int)), some (.int lap), r2, r3, r4, r5, r6, r7] S = .nx (some (.src (ns.map Da.int)) :: q) (S ++ X) := by
  obtain ⟨x, y, hw⟩ := well_ok (ns := ns) (lap := lap) S hn hl
  have h0 : (S ++ [wellC x y 0])[S.length]? = some (wellC x y 0) := by simp
  obtain ⟨d, x1, y1, z1, ht, d0, d5⟩ := take1 h0 (m := ((7 : Nat) : Int)) (by decide) (by decide)
  have hs : (S ++ [wellC x y 0]).set S.length (wellC x1 y1 z1) = S ++ [wellC x1 y1 z1] := by simp
  rw [hs] at ht
  obtain ⟨b5, b6, X, e⟩ := tail_ok (a0 := some (.src (ns.map Da.int))) (a1 := some (.int lap)) (a2 := some (.cell S.length)) (a5 := r5) (a6 := r6) (a7 := r7) (n := 1 + d.toNat) (by omega) (by omega) (hS.app (X := [wellC x1 y1 z1]))
  refine ⟨[some (.int lap), some (.cell S.length), some (.int ((1 + d.toNat : Nat) : Int)), some (.int ((2 ^ (1 + d.toNat) : Nat) : Int)), b5, b6, r7], [wellC x1 y1 z1] ++ X, rfl, ?_⟩
  · unfold l_law_3 tl_law_1
    refine ev_seq_set (ev_fun (ev_cons (ev_var rfl) (ev_cons (ev_var rfl) ev_nil)) rfl hw) rfl ?_
    have en : ((1 : Nat) : Int) + d = ((1 + d.toNat : Nat) : Int) := by omega
    have ad : addD (.int 1) (.int d) (S ++ [wellC x1 y1 z1]) = some (.int ((1 + d.toNat : Nat) : Int)) := by rw [← en]; rfl
    refine ev_seq_par (is := [3, 4]) (ev_cons (ev_op ev_c (ev_fun (ev_cons (ev_var rfl) (ev_cons ev_c ev_nil)) rfl ht) ad) (ev_cons ev_c ev_nil)) rfl rfl ?_
    refine e.trans ?_
    rw [List.append_assoc]
def isNx : RS → Bool
  | .nx _ _ => true
  | _ => false
theorem bad_ok {a0 a1 a2 a3 a4 a5 a6 a7 : Option Da} (R : Store) : isNx (forS (.one 7) (itL (frzM (listM (consM (cM (.int 0)) (consM (cM (.int 8)) (consM (unM negD (cM (.int 1))) (consM (cM .non) (consM (cM (.bl true)) (consM (cM (.str "3")) (consM (tupM (consM (cM (.int 3)) (nilM))) (consM (opM powD (cM (.int 10)) (cM (.int 20))) (nilM)))))))))))) (l_law_4) [a0, a1, a2, a3, a4, a5, a6, a7] (tabS 2 ++ R)) = true := by kernel_rfl
theorem law_true : ∀ ns : List Int, ns.length ≤ 63 → ∃ S, m_law [.src (ns.map Da.int)] (tabS 2) = .ok (.bl true) S := fun ns hn => by
  have key : ∃ ρ2 S2, forL (.one 1) l_law_3 ((intsN 3).map Da.int) [some (.src (ns.map Da.int)), none, none, none, none, none, none, none] (tabS 2) = .nx ρ2 S2 ∧ ∃ q, ρ2 = some (.src (ns.map Da.int)) :: q ∧ q.length + 1 = 8 ∧ NTb 2 S2 := by
    refine forL_invN (T := 3) (t := 0) (P := fun _ ρ S => ∃ q, ρ = some (.src (ns.map Da.int)) :: q ∧ q.length + 1 = 8 ∧ NTb 2 S) (by decide) ⟨_, rfl, rfl, [], by rw [List.append_nil]⟩ ?_
    rintro d hd t ρ S ht ⟨q, rfl, hq, hS⟩
    obtain ⟨i, hi, rfl⟩ := List.mem_map.mp hd
    have hi := mem_intsN.mp hi
    match q, hq with
    | [r1, r2, r3, r4, r5, r6, r7], _ =>
      refine ⟨_, rfl, ?_⟩
      have ei : ((i.toNat : Nat) : Int) = i := by omega
      obtain ⟨q2, X, hq2, e⟩ := lap_ok (ns := ns) (lap := i.toNat) (r2 := r2) (r3 := r3) (r4 := r4) (r5 := r5) (r6 := r6) (r7 := r7) hn (by omega) hS
      rw [ei] at e
      exact ⟨_, _, e, q2, rfl, hq2, hS.app⟩
  obtain ⟨ρ2, S2, e, q, rfl, hq, R, rfl⟩ := key
  have e2 : forS (.one 1) (itR1 (cM (.int 3))) l_law_3 [some (.src (ns.map Da.int)), none, none, none, none, none, none, none] (tabS 2) = .nx (some (.src (ns.map Da.int)) :: q) (tabS 2 ++ R) := ev_for (ev_itR1c (n := 3) (by decide)) e
  match q, hq with
  | [r1, r2, r3, r4, r5, r6, r7], _ =>
    have h := bad_ok (a0 := some (.src (ns.map Da.int))) (a1 := r1) (a2 := r2) (a3 := r3) (a4 := r4) (a5 := r5) (a6 := r6) (a7 := r7) R
    cases e3 : forS (.one 7) (itL (frzM (listM (consM (cM (.int 0)) (consM (cM (.int 8)) (consM (unM negD (cM (.int 1))) (consM (cM .non) (consM (cM (.bl true)) (consM (cM (.str "3")) (consM (tupM (consM (cM (.int 3)) (nilM))) (consM (opM powD (cM (.int 10)) (cM (.int 20))) (nilM)))))))))))) (l_law_4) [some (.src (ns.map Da.int)), r1, r2, r3, r4, r5, r6, r7] (tabS 2 ++ R) with
    | nx ρ3 S3 => exact ⟨S3, congrArg RS.res (a₁ := b_law [some (.src (ns.map Da.int)), none, none, none, none, none, none, none] (tabS 2)) (a₂ := .rt _ _) (seq_nx e2 (law_end e3))⟩
    | _ => rw [e3] at h; cases h
end NL

set_option Elab.async false
set_option linter.all false
set_option autoImplicit false
set_option maxRecDepth 100000
set_option maxHeartbeats 4100000
namespace NL
open PySem PySem.Spec PyProof.Rows L2
open LamX (TabB)

def top (i : Nat) : Stmt := PySem.Challenge.pw_nearlots_k78_whole_yards_made.main.body.getD i (.Pass ⟨0, 0, 0, 0⟩)
abbrev s_Yard_eq : Stmt := inClass (top 42) 5
abbrev s_is_whole : Stmt := top 7
abbrev s_is_between : Stmt := top 8
abbrev s_single_space : Stmt := top 28
abbrev s_Yard_init : Stmt := inClass (top 42) 0
abbrev s_is_near_by : Stmt := top 23
abbrev s_are_tied : Stmt := top 31
abbrev s_places_of : Stmt := top 21
abbrev s_held_with : Stmt := top 32
abbrev s_parts_by : Stmt := top 33
abbrev s_Yard_parts : Stmt := inClass (top 42) 4
abbrev s_all_lots : Stmt := top 19
abbrev s_common_of : Stmt := top 20
abbrev s_closing_by : Stmt := top 26
abbrev s_is_within : Stmt := top 14
abbrev s_inside_by : Stmt := top 25
abbrev s_rest_by : Stmt := top 22
abbrev s_letter_by : Stmt := top 37
abbrev s_done_by : Stmt := top 38
abbrev s_made_by_all : Stmt := top 39
abbrev s_plain_words : Stmt := top 36
abbrev s_unlike_by : Stmt := top 40
abbrev s_Yard_words : Stmt := inClass (top 42) 3
abbrev s__law_alone : Stmt := top 46
abbrev s__law_caught : Stmt := top 47
abbrev s__law_take : Stmt := top 45
abbrev s__law_well : Stmt := top 44
abbrev s_is_row : Stmt := top 9
abbrev s_first_wrong : Stmt := top 10
abbrev s_is_closed_up : Stmt := top 16
abbrev s_is_lot_of : Stmt := top 13
abbrev s_is_reach_of : Stmt := top 15
abbrev s_wrong_reach : Stmt := top 17
abbrev s_check_space : Stmt := top 18
abbrev s_is_open_by : Stmt := top 24
abbrev s_open_lots_by : Stmt := top 27
abbrev s_open_lots : Stmt := top 29
abbrev s_law : Stmt := top 48
abbrev s_InvalidNumber_init : Stmt := inClass (top 4) 0
abbrev s_InvalidSpace_init : Stmt := inClass (top 5) 0
theorem sc_Yard_eq : FnScope ["self", "other"] ["self", "other"] (defScope s_Yard_eq) := ⟨rfl, rfl, rfl, by decide +kernel, rfl, by decide +kernel, by decide +kernel⟩
theorem sc_is_whole : FnScope ["value"] ["value"] (defScope s_is_whole) := ⟨rfl, rfl, rfl, by decide +kernel, rfl, by decide +kernel, by decide +kernel⟩
theorem sc_is_between : FnScope ["value", "least", "most"] ["value", "least", "most"] (defScope s_is_between) := ⟨rfl, rfl, rfl, by decide +kernel, rfl, by decide +kernel, by decide +kernel⟩
theorem sc_single_space : FnScope ["places", "place"] ["places"] (defScope s_single_space) := ⟨rfl, rfl, rfl, by decide +kernel, rfl, by decide +kernel, by decide +kernel⟩
theorem sc_Yard_init : FnScope ["self", "places"] ["self", "places"] (defScope s_Yard_init) := ⟨rfl, rfl, rfl, by decide +kernel, rfl, by decide +kernel, by decide +kernel⟩
theorem sc_is_near_by : FnScope ["space", "place", "near_to"] ["space", "place", "near_to"] (defScope s_is_near_by) := ⟨rfl, rfl, rfl, by decide +kernel, rfl, by decide +kernel, by decide +kernel⟩
theorem sc_are_tied : FnScope ["space", "one", "other"] ["space", "one", "other"] (defScope s_are_tied) := ⟨rfl, rfl, rfl, by decide +kernel, rfl, by decide +kernel, by decide +kernel⟩
theorem sc_places_of : FnScope ["space"] ["space"] (defScope s_places_of) := ⟨rfl, rfl, rfl, by decide +kernel, rfl, by decide +kernel, by decide +kernel⟩
theorem sc_held_with : FnScope ["space", "place", "line", "at", "here", "other"] ["space", "place"] (defScope s_held_with) := ⟨rfl, rfl, rfl, by decide +kernel, rfl, by decide +kernel, by decide +kernel⟩
theorem sc_parts_by : FnScope ["space", "place"] ["space"] (defScope s_parts_by) := ⟨rfl, rfl, rfl, by decide +kernel, rfl, by decide +kernel, by decide +kernel⟩
theorem sc_Yard_parts : FnScope ["self"] ["self"] (defScope s_Yard_parts) := ⟨rfl, rfl, rfl, by decide +kernel, rfl, by decide +kernel, by decide +kernel⟩
theorem sc_all_lots : FnScope ["places", "found", "many", "lot"] ["places"] (defScope s_all_lots) := ⟨rfl, rfl, rfl, by decide +kernel, rfl, by decide +kernel, by decide +kernel⟩
theorem sc_common_of : FnScope ["lot", "other", "place"] ["lot", "other"] (defScope s_common_of) := ⟨rfl, rfl, rfl, by decide +kernel, rfl, by decide +kernel, by decide +kernel⟩
theorem sc_closing_by : FnScope ["space", "lot", "place"] ["space", "lot"] (defScope s_closing_by) := ⟨rfl, rfl, rfl, by decide +kernel, rfl, by decide +kernel, by decide +kernel⟩
theorem sc_is_within : FnScope ["lot", "other", "place"] ["lot", "other"] (defScope s_is_within) := ⟨rfl, rfl, rfl, by decide +kernel, rfl, by decide +kernel, by decide +kernel⟩
theorem sc_inside_by : FnScope ["space", "lot", "place"] ["space", "lot"] (defScope s_inside_by) := ⟨rfl, rfl, rfl, by decide +kernel, rfl, by decide +kernel, by decide +kernel⟩
theorem sc_rest_by : FnScope ["space", "lot", "place"] ["space", "lot"] (defScope s_rest_by) := ⟨rfl, rfl, rfl, by decide +kernel, rfl, by decide +kernel, by decide +kernel⟩
theorem sc_letter_by : FnScope ["space", "letter", "lot"] ["space", "letter", "lot"] (defScope s_letter_by) := ⟨rfl, rfl, rfl, by decide +kernel, rfl, by decide +kernel, by decide +kernel⟩
theorem sc_done_by : FnScope ["space", "word", "lot", "found", "letter"] ["space", "word", "lot"] (defScope s_done_by) := ⟨rfl, rfl, rfl, by decide +kernel, rfl, by decide +kernel, by decide +kernel⟩
theorem sc_made_by_all : FnScope ["space", "word", "lot"] ["space", "word"] (defScope s_made_by_all) := ⟨rfl, rfl, rfl, by decide +kernel, rfl, by decide +kernel, by decide +kernel⟩
theorem sc_plain_words : FnScope ["word"] [] (defScope s_plain_words) := ⟨rfl, rfl, rfl, by decide +kernel, rfl, by decide +kernel, by decide +kernel⟩
theorem sc_unlike_by : FnScope ["space", "word"] ["space"] (defScope s_unlike_by) := ⟨rfl, rfl, rfl, by decide +kernel, rfl, by decide +kernel, by decide +kernel⟩
theorem sc_Yard_words : FnScope ["self"] ["self"] (defScope s_Yard_words) := ⟨rfl, rfl, rfl, by decide +kernel, rfl, by decide +kernel, by decide +kernel⟩
theorem sc__law_alone : FnScope ["many", "place"] ["many"] (defScope s__law_alone) := ⟨rfl, rfl, rfl, by decide +kernel, rfl, by decide +kernel, by decide +kernel⟩
theorem sc__law_caught : FnScope ["act", "e", "told", "words"] ["act"] (defScope s__law_caught) := ⟨rfl, rfl, rfl, by decide +kernel, rfl, by decide +kernel, by decide +kernel⟩
theorem sc__law_take : FnScope ["well", "many", "digit"] ["well", "many"] (defScope s__law_take) := ⟨rfl, rfl, rfl, by decide +kernel, rfl, by decide +kernel, by decide +kernel⟩
theorem sc__law_well : FnScope ["script", "lap", "own", "stir", "each"] ["script", "lap"] (defScope s__law_well) := ⟨rfl, rfl, rfl, by decide +kernel, rfl, by decide +kernel, by decide +kernel⟩
theorem sc_is_row : FnScope ["value", "least", "most"] ["value", "least", "most"] (defScope s_is_row) := ⟨rfl, rfl, rfl, by decide +kernel, rfl, by decide +kernel, by decide +kernel⟩
theorem sc_first_wrong : FnScope ["value", "is_right", "index", "each"] ["value", "is_right"] (defScope s_first_wrong) := ⟨rfl, rfl, rfl, by decide +kernel, rfl, by decide +kernel, by decide +kernel⟩
theorem sc_is_closed_up : FnScope ["reaches", "reach", "place"] ["reaches", "reach"] (defScope s_is_closed_up) := ⟨rfl, rfl, rfl, by decide +kernel, rfl, by decide +kernel, by decide +kernel⟩
theorem sc_is_lot_of : FnScope ["places", "value", "place", "one", "other"] ["places", "value"] (defScope s_is_lot_of) := ⟨rfl, rfl, rfl, by decide +kernel, rfl, by decide +kernel, by decide +kernel⟩
theorem sc_is_reach_of : FnScope ["places", "place", "value"] ["places", "place", "value"] (defScope s_is_reach_of) := ⟨rfl, rfl, rfl, by decide +kernel, rfl, by decide +kernel, by decide +kernel⟩
theorem sc_wrong_reach : FnScope ["value", "wrong", "reach", "ahead"] ["value"] (defScope s_wrong_reach) := ⟨rfl, rfl, rfl, by decide +kernel, rfl, by decide +kernel, by decide +kernel⟩
theorem sc_check_space : FnScope ["value", "wrong"] ["value"] (defScope s_check_space) := ⟨rfl, rfl, rfl, by decide +kernel, rfl, by decide +kernel, by decide +kernel⟩
theorem sc_is_open_by : FnScope ["space", "lot", "place"] ["space", "lot"] (defScope s_is_open_by) := ⟨rfl, rfl, rfl, by decide +kernel, rfl, by decide +kernel, by decide +kernel⟩
theorem sc_open_lots_by : FnScope ["space", "lot"] ["space"] (defScope s_open_lots_by) := ⟨rfl, rfl, rfl, by decide +kernel, rfl, by decide +kernel, by decide +kernel⟩
theorem sc_open_lots : FnScope ["space"] ["space"] (defScope s_open_lots) := ⟨rfl, rfl, rfl, by decide +kernel, rfl, by decide +kernel, by decide +kernel⟩
theorem sc_law : FnScope ["script", "lap", "well", "many", "power", "turn", "yard", "bad"] ["script"] (defScope s_law) := ⟨rfl, rfl, rfl, by decide +kernel, rfl, by decide +kernel, by decide +kernel⟩
theorem sc_InvalidNumber_init : FnScope ["self", "given"] ["self", "given"] (defScope s_InvalidNumber_init) := ⟨rfl, rfl, rfl, by decide +kernel, rfl, by decide +kernel, by decide +kernel⟩
theorem sc_InvalidSpace_init : FnScope ["self", "index"] ["self", "index"] (defScope s_InvalidSpace_init) := ⟨rfl, rfl, rfl, by decide +kernel, rfl, by decide +kernel, by decide +kernel⟩
structure Txt (P : Program) (w : World) (mg : Str → Option Value) (base : Heap) (G : Gc) : Prop where
  hw : G.w = w
  b_ValueError : mg "ValueError" = none
  b_abs : mg "abs" = none
  b_all : mg "all" = none
  b_bool : mg "bool" = none
  b_divmod : mg "divmod" = none
  b_enumerate : mg "enumerate" = none
  b_int : mg "int" = none
  b_isinstance : mg "isinstance" = none
  b_len : mg "len" = none
  b_list : mg "list" = none
  b_range : mg "range" = none
  b_repr : mg "repr" = none
  b_set : mg "set" = none
  b_sorted : mg "sorted" = none
  b_tuple : mg "tuple" = none
  b_zip : mg "zip" = none
  im_combinations : mg "combinations" = some (.type "itertools.combinations")
  g_BARE : GTup G.K mg "BARE" ["", "i", "ik", "iki", "k", "ki", "kik"]
  g_MOST_PLACES : ∃ t, mg "MOST_PLACES" = some (.int 7 t)
  x_InvalidNumber : OwnX P w G.K mg base G "InvalidNumber" "given"
  x_InvalidSpace : OwnX P w G.K mg base G "InvalidSpace" "index"
  f_Yard_deeds : FldOk G.K G "Yard" "deeds"
  f_Yard_past : FldOk G.K G "Yard" "past"
  f_Yard_places : FldOk G.K G "Yard" "places"
  f_Yard_space : FldOk G.K G "Yard" "space"
  nm_InvalidNumber : mg "InvalidNumber" = some (.ref (G.cls "InvalidNumber"))
  nm_NearError : mg "NearError" = some (.ref (G.cls "NearError"))
  nm_Yard : mg "Yard" = some (.ref (G.cls "Yard"))
  qm_NearError : ∀ c b, xm_NearError c = some b → PySem.W.exmOne G.K (.ref (G.cls c)) (.ref (G.cls "NearError")) = some b
  exc_NearError : ∀ c, xm_NearError c = some true → ExcC G.K (G.cls c)
  xfc_NearError : ∀ c, xm_NearError c = some true → XfC G.K (G.cls c)
  xn_NearError_given : ∀ c, xm_NearError c = some true → PySem.W.findIn G.K (.ref (G.cls c)) "given" = some none
  xt_given : ∀ c, xh_given c = true → G.xf c = some "given" ∧ PySem.W.findIn G.K (.ref (G.cls c)) "given" = some none
  qi_InvalidNumber : ∀ c b, xi_InvalidNumber c = some b → PySem.W.kitOne G.K (.ref (G.cls c)) (.ref (G.cls "InvalidNumber")) = some b
  qi_ValueError : ∀ c b, xi_ValueError c = some b → PySem.W.kitOne G.K (.ref (G.cls c)) (.type "ValueError") = some b
  io_Yard : IsoOk G.K mg G "Yard"
section
variable {P : Program} {w : World} {mg : Str → Option Value} {base : Heap} {G : Gc}
theorem ok_InvalidNumber_init {f : Addr} {fd : FuncData} (F : Fun G.K "__init__" "InvalidNumber.__init__" s_InvalidNumber_init f fd) : FnOk P w G.K mg base (L2.CX P w) 1 f fd ["self", "given"] (spIni G.K "given") :=
  F.okX sc_InvalidNumber_init (fun vs H Q E h => by obtain ⟨a, C, y, rfl, _⟩ := h; rfl) fun cdv A outer s H vs Q E hr h => by
    obtain ⟨a, C, y, rfl, h1, h2, h3, h4⟩ := h
    exact ⟨_, pss_one (ps_ost (pv 0) (pv 1)), _, rfl, _, rfl, a, C, rfl, h1, h2, .inl ⟨h3, fun dx h5 h6 => h4 dx h5 h6⟩⟩
theorem ok_InvalidSpace_init {f : Addr} {fd : FuncData} (F : Fun G.K "__init__" "InvalidSpace.__init__" s_InvalidSpace_init f fd) : FnOk P w G.K mg base (L2.CX P w) 1 f fd ["self", "index"] (spIni G.K "index") :=
  F.okX sc_InvalidSpace_init (fun vs H Q E h => by obtain ⟨a, C, y, rfl, _⟩ := h; rfl) fun cdv A outer s H vs Q E hr h => by
    obtain ⟨a, C, y, rfl, h1, h2, h3, h4⟩ := h
    exact ⟨_, pss_one (ps_ost (pv 0) (pv 1)), _, rfl, _, rfl, a, C, rfl, h1, h2, .inl ⟨h3, fun dx h5 h6 => h4 dx h5 h6⟩⟩
theorem ok_Yard_eq {f : Addr} {fd : FuncData} (F : Fun G.K "__eq__" "Yard.__eq__" s_Yard_eq f fd) (T : Txt P w mg base G) : FnG P w G.K mg base 1 f fd ["self", "other"] (spM G 2 m_Yard_eq) :=
  defk 0 2 2 m_Yard_eq b_Yard_eq rfl rfl rfl F sc_Yard_eq fun cdv A outer s H E hr => psd_one (psd_ret (pd_and (pd_isO T.io_Yard T.b_isinstance (pd_var 1)) (pd_and (pd_cmp (or_eq (hu64 hr)) (pdc_fld T.f_Yard_places (pd_var 0)) (pdc_fld T.f_Yard_places (pd_var 1))) (pd_one (pd_cmp (or_eq (hu64 hr)) (pdc_fld T.f_Yard_deeds (pd_var 0)) (pdc_fld T.f_Yard_deeds (pd_var 1)))))))
theorem ok_is_whole {f : Addr} {fd : FuncData} (F : Fun G.K "is_whole" "is_whole" s_is_whole f fd) (T : Txt P w mg base G) : FnG P w G.K mg base 1 f fd ["value"] (spM G 1 m_is_whole) :=
  defk 0 1 1 m_is_whole b_is_whole rfl rfl rfl F sc_is_whole fun cdv A outer s H E hr => psd_one (psd_ret (pd_and (pd_isi T.b_isinstance (pd_var 0) T.b_int) (pd_one (pd_not (pd_isi T.b_isinstance (pd_var 0) T.b_bool)))))
theorem ok_is_between {f : Addr} {fd : FuncData} (F : Fun G.K "is_between" "is_between" s_is_between f fd) (T : Txt P w mg base G) (c_is_whole : CallOk P w G.K mg base G "is_whole" 1 1 m_is_whole) : FnG P w G.K mg base 2 f fd ["value", "least", "most"] (spM G 3 m_is_between) :=
  defk 1 3 3 m_is_between b_is_between rfl rfl rfl F sc_is_between fun cdv A outer s H E hr => psd_one (psd_ret (pd_and (pdc_call c_is_whole (hr.mono (by decide)) (takes_of rfl rfl rfl rfl) (pda_cons (pd_var 0) (pda_nil))) (pd_one (pd_chain or_le or_le (pd_var 1) (pd_var 0) (pd_var 2)))))
theorem ok_single_space {f : Addr} {fd : FuncData} (F : Fun G.K "single_space" "single_space" s_single_space f fd) (T : Txt P w mg base G) : FnG P w G.K mg base 1 f fd ["places"] (spM G 1 m_single_space) :=
  defk 0 1 2 m_single_space b_single_space rfl rfl rfl F sc_single_space fun cdv A outer s H E hr => psd_one (psd_ret (pd_callT cr_tuple T.b_tuple (pda_cons (pd_frz (pd_lc (own := [("place", 1)]) rfl sc_single_space.nd (pid_range1 T.b_range (pd_var 0)) (blkOk_by (by kernel_rfl)) (fun _ _ _ _ _ => pgd_name (i := 1) sc_single_space.nd) (fun _ _ _ _ _ => ptsd_nil) (fun _ _ _ _ _ => pd_tup (pda_cons (pd_var 1) (pda_nil))))) (pda_nil))))
theorem ok_Yard_init {f : Addr} {fd : FuncData} (F : Fun G.K "__init__" "Yard.__init__" s_Yard_init f fd) (T : Txt P w mg base G) (c_is_between : CallOk P w G.K mg base G "is_between" 2 3 m_is_between) (c_single_space : CallOk P w G.K mg base G "single_space" 1 1 m_single_space) : FnG P w G.K mg base 3 f fd ["self", "places"] (spM G 2 m_Yard_init) :=
  defk 2 2 2 m_Yard_init b_Yard_init rfl rfl rfl F sc_Yard_init fun cdv A outer s H E hr => psd_cons (psd_if (ptd_not (ptd_val (pdc_call c_is_between (hr.mono (by decide)) (takes_of rfl rfl rfl rfl) (pda_cons (pd_var 1) (pda_cons (pd_int) (pda_cons (pd_gintE T.g_MOST_PLACES) (pda_nil))))))) (psd_one (psd_raise T.x_InvalidNumber (hr.mono (by decide)) (takes_of rfl rfl rfl rfl) (pd_var 1) (hpx := passX0))) (psd_nil)) (psd_cons (psdc_fld T.f_Yard_places (pd_var 0) (pd_var 1)) (psd_cons (psdc_fld T.f_Yard_space (pd_var 0) (pdc_call c_single_space (hr.mono (by decide)) (takes_of rfl rfl rfl rfl) (pda_cons (pd_var 1) (pda_nil)))) (psd_cons (psdc_fld T.f_Yard_deeds (pd_var 0) (pd_tup (pda_nil))) (psd_one (psdc_fld T.f_Yard_past (pd_var 0) (pd_cel (pdf_lst (pda_nil))))))))
theorem ok_is_near_by {f : Addr} {fd : FuncData} (F : Fun G.K "is_near_by" "is_near_by" s_is_near_by f fd) (T : Txt P w mg base G) : FnG P w G.K mg base 1 f fd ["space", "place", "near_to"] (spM G 3 m_is_near_by) :=
  defk 0 3 3 m_is_near_by b_is_near_by rfl rfl rfl F sc_is_near_by fun cdv A outer s H E hr => psd_one (psd_ret (pd_cmp or_in (pd_var 1) (pd_ix ir_ix (pd_var 0) (pd_var 2))))
theorem ok_are_tied {f : Addr} {fd : FuncData} (F : Fun G.K "are_tied" "are_tied" s_are_tied f fd) (T : Txt P w mg base G) (c_is_near_by : CallOk P w G.K mg base G "is_near_by" 1 3 m_is_near_by) : FnG P w G.K mg base 2 f fd ["space", "one", "other"] (spM G 3 m_are_tied) :=
  defk 1 3 3 m_are_tied b_are_tied rfl rfl rfl F sc_are_tied fun cdv A outer s H E hr => psd_one (psd_ret (pd_or (pdc_call c_is_near_by (hr.mono (by decide)) (takes_of rfl rfl rfl rfl) (pda_cons (pd_var 0) (pda_cons (pd_var 1) (pda_cons (pd_var 2) (pda_nil))))) (pd_one (pdc_call c_is_near_by (hr.mono (by decide)) (takes_of rfl rfl rfl rfl) (pda_cons (pd_var 0) (pda_cons (pd_var 2) (pda_cons (pd_var 1) (pda_nil))))))))
theorem ok_places_of {f : Addr} {fd : FuncData} (F : Fun G.K "places_of" "places_of" s_places_of f fd) (T : Txt P w mg base G) : FnG P w G.K mg base 1 f fd ["space"] (spM G 1 m_places_of) :=
  defk 0 1 1 m_places_of b_places_of rfl rfl rfl F sc_places_of fun cdv A outer s H E hr => psd_one (psd_ret (pd_frz (pdf_listRange T.b_list T.b_range (pd_callB cr_len T.b_len (pda_cons (pd_var 0) (pda_nil))))))
theorem ok_held_with {f : Addr} {fd : FuncData} (F : Fun G.K "held_with" "held_with" s_held_with f fd) (T : Txt P w mg base G) (c_are_tied : CallOk P w G.K mg base G "are_tied" 2 3 m_are_tied) (c_places_of : CallOk P w G.K mg base G "places_of" 1 1 m_places_of) : FnG P w G.K mg base 3 f fd ["space", "place"] (spM G 2 m_held_with) :=
  defk 2 2 6 m_held_with b_held_with rfl rfl rfl F sc_held_with fun cdv A outer s H E hr => psd_cons (psm_asg (pd_tup (pda_cons (pd_frz (pdf_lst (pda_cons (pd_var 1) (pda_nil)))) (pda_cons (pd_int) (pda_nil)))) (pgm_tup rfl (pgm_cons (pgm_name (i := 2) sc_held_with.nd) (pgm_cons (pgm_name (i := 3) sc_held_with.nd) (pgm_nil))))) (psd_cons (psd_while 1000 (passes_of rfl) (ptd_cmp or_lt (pd_var 3) (pd_callB cr_len T.b_len (pda_cons (pd_var 2) (pda_nil)))) (psd_cons (psm_asg (pd_tup (pda_cons (pd_ix ir_ix (pd_var 2) (pd_var 3)) (pda_cons (pd_op or_add (pd_var 3) (pd_int)) (pda_nil)))) (pgm_tup rfl (pgm_cons (pgm_name (i := 4) sc_held_with.nd) (pgm_cons (pgm_name (i := 3) sc_held_with.nd) (pgm_nil))))) (psd_one (psd_set (i := 2) sc_held_with.nd (pd_frz (pdf_cat (pd_var 2) (pd_frz (pd_lc (own := [("other", 5)]) rfl sc_held_with.nd (pid_list (pdc_call c_places_of (hr.mono (by decide)) (takes_of rfl rfl rfl rfl) (pda_cons (pd_var 0) (pda_nil)))) (blkOk_by (by kernel_rfl)) (fun _ _ _ _ _ => pgd_name (i := 5) sc_held_with.nd) (fun _ _ _ _ _ => ptsd_one (ptd_of (pwd_and (ptd_cmp or_notin (pd_var 5) (pd_var 2)) (pwd_and1 (ptd_val (pdc_call c_are_tied (hr.mono (by decide)) takes0 (pda_cons (pd_var 0) (pda_cons (pd_var 4) (pda_cons (pd_var 5) (pda_nil)))))))))) (fun _ _ _ _ _ => pd_var 5))))))))) (psd_one (psd_ret (pd_callT cr_tuple T.b_tuple (pda_cons (pd_frz (pdf_sortI T.b_sorted (pd_var 2))) (pda_nil))))))
theorem ok_parts_by {f : Addr} {fd : FuncData} (F : Fun G.K "parts_by" "parts_by" s_parts_by f fd) (T : Txt P w mg base G) (c_held_with : CallOk P w G.K mg base G "held_with" 3 2 m_held_with) (c_places_of : CallOk P w G.K mg base G "places_of" 1 1 m_places_of) : FnG P w G.K mg base 4 f fd ["space"] (spM G 1 m_parts_by) :=
  defk 3 1 2 m_parts_by b_parts_by rfl rfl rfl F sc_parts_by fun cdv A outer s H E hr => psd_one (psd_ret (pd_callT cr_tuple T.b_tuple (pda_cons (pd_frz (pdf_sortSet (hu64 hr) T.b_sorted T.b_set (pd_frz (pd_lc (own := [("place", 1)]) rfl sc_parts_by.nd (pid_list (pdc_call c_places_of (hr.mono (by decide)) (takes_of rfl rfl rfl rfl) (pda_cons (pd_var 0) (pda_nil)))) (blkOk_by (by kernel_rfl)) (fun _ _ _ _ _ => pgd_name (i := 1) sc_parts_by.nd) (fun _ _ _ _ _ => ptsd_nil) (fun _ _ _ _ _ => pdc_call c_held_with (hr.mono (by decide)) takes0 (pda_cons (pd_var 0) (pda_cons (pd_var 1) (pda_nil)))))))) (pda_nil))))
theorem ok_Yard_parts {f : Addr} {fd : FuncData} (F : Fun G.K "parts" "Yard.parts" s_Yard_parts f fd) (T : Txt P w mg base G) (c_parts_by : CallOk P w G.K mg base G "parts_by" 4 1 m_parts_by) : FnG P w G.K mg base 5 f fd ["self"] (spM G 1 m_Yard_parts) :=
  defk 4 1 1 m_Yard_parts b_Yard_parts rfl rfl rfl F sc_Yard_parts fun cdv A outer s H E hr => psd_one (psd_ret (pd_callB cr_len T.b_len (pda_cons (pdc_call c_parts_by (hr.mono (by decide)) (takes_of rfl rfl rfl rfl) (pda_cons (pdc_fld T.f_Yard_space (pd_var 0)) (pda_nil))) (pda_nil))))
theorem ok_all_lots {f : Addr} {fd : FuncData} (F : Fun G.K "all_lots" "all_lots" s_all_lots f fd) (T : Txt P w mg base G) : FnG P w G.K mg base 1 f fd ["places"] (spM G 1 m_all_lots) :=
  defk 0 1 4 m_all_lots b_all_lots rfl rfl rfl F sc_all_lots fun cdv A outer s H E hr => psd_cons (psd_set (i := 1) sc_all_lots.nd (pd_cel (pdf_lst (pda_nil)))) (psd_cons (psd_for (passes_of rfl) rfl (pid_range1 T.b_range (pd_op or_add (pd_var 0) (pd_int))) (pgd_name (i := 2) sc_all_lots.nd) (psd_one (psd_expr (pd_ext (pd_var 1) (pd_lc (own := [("lot", 3)]) rfl sc_all_lots.nd (pid_comb T.im_combinations (pd_frz (pdf_listRange T.b_list T.b_range (pd_var 0))) (pd_callT cr_int T.b_int (pda_cons (pd_var 2) (pda_nil)))) (blkOk_by (by kernel_rfl)) (fun _ _ _ _ _ => pgd_name (i := 3) sc_all_lots.nd) (fun _ _ _ _ _ => ptsd_nil) (fun _ _ _ _ _ => pd_var 3)))))) (psd_one (psd_ret (pd_frz (pdf_sortL (hu64 hr) T.b_sorted (pd_var 1))))))
theorem ok_common_of {f : Addr} {fd : FuncData} (F : Fun G.K "common_of" "common_of" s_common_of f fd) (T : Txt P w mg base G) : FnG P w G.K mg base 1 f fd ["lot", "other"] (spM G 2 m_common_of) :=
  defk 0 2 3 m_common_of b_common_of rfl rfl rfl F sc_common_of fun cdv A outer s H E hr => psd_one (psd_ret (pd_callT cr_tuple T.b_tuple (pda_cons (pd_frz (pd_lc (own := [("place", 2)]) rfl sc_common_of.nd (pid_tup (pd_var 0)) (blkOk_by (by kernel_rfl)) (fun _ _ _ _ _ => pgd_name (i := 2) sc_common_of.nd) (fun _ _ _ _ _ => ptsd_one (ptd_cmp or_in (pd_var 2) (pd_var 1))) (fun _ _ _ _ _ => pd_var 2))) (pda_nil))))
theorem ok_closing_by {f : Addr} {fd : FuncData} (F : Fun G.K "closing_by" "closing_by" s_closing_by f fd) (T : Txt P w mg base G) (c_common_of : CallOk P w G.K mg base G "common_of" 1 2 m_common_of) (c_places_of : CallOk P w G.K mg base G "places_of" 1 1 m_places_of) : FnG P w G.K mg base 2 f fd ["space", "lot"] (spM G 2 m_closing_by) :=
  defk 1 2 3 m_closing_by b_closing_by rfl rfl rfl F sc_closing_by fun cdv A outer s H E hr => psd_one (psd_ret (pd_callT cr_tuple T.b_tuple (pda_cons (pd_frz (pd_lc (own := [("place", 2)]) rfl sc_closing_by.nd (pid_list (pdc_call c_places_of (hr.mono (by decide)) (takes_of rfl rfl rfl rfl) (pda_cons (pd_var 0) (pda_nil)))) (blkOk_by (by kernel_rfl)) (fun _ _ _ _ _ => pgd_name (i := 2) sc_closing_by.nd) (fun _ _ _ _ _ => ptsd_one (ptd_cmp (or_ne (hu64 hr)) (pdc_call c_common_of (hr.mono (by decide)) takes0 (pda_cons (pd_ix ir_ix (pd_var 0) (pd_var 2)) (pda_cons (pd_var 1) (pda_nil)))) (pd_tup (pda_nil)))) (fun _ _ _ _ _ => pd_var 2))) (pda_nil))))
theorem ok_is_within {f : Addr} {fd : FuncData} (F : Fun G.K "is_within" "is_within" s_is_within f fd) (T : Txt P w mg base G) : FnG P w G.K mg base 1 f fd ["lot", "other"] (spM G 2 m_is_within) :=
  defk 0 2 3 m_is_within b_is_within rfl rfl rfl F sc_is_within fun cdv A outer s H E hr => psd_one (psd_ret (pd_callB (cr_allD rfl) T.b_all (pda_cons (pd_frz (pd_lc (own := [("place", 2)]) rfl sc_is_within.nd (pid_tup (pd_var 0)) (blkOk_by (by kernel_rfl)) (fun _ _ _ _ _ => pgd_name (i := 2) sc_is_within.nd) (fun _ _ _ _ _ => ptsd_nil) (fun _ _ _ _ _ => pd_cmp or_in (pd_var 2) (pd_var 1)))) (pda_nil))))
theorem ok_inside_by {f : Addr} {fd : FuncData} (F : Fun G.K "inside_by" "inside_by" s_inside_by f fd) (T : Txt P w mg base G) (c_is_within : CallOk P w G.K mg base G "is_within" 1 2 m_is_within) : FnG P w G.K mg base 2 f fd ["space", "lot"] (spM G 2 m_inside_by) :=
  defk 1 2 3 m_inside_by b_inside_by rfl rfl rfl F sc_inside_by fun cdv A outer s H E hr => psd_one (psd_ret (pd_callT cr_tuple T.b_tuple (pda_cons (pd_frz (pd_lc (own := [("place", 2)]) rfl sc_inside_by.nd (pid_tup (pd_var 1)) (blkOk_by (by kernel_rfl)) (fun _ _ _ _ _ => pgd_name (i := 2) sc_inside_by.nd) (fun _ _ _ _ _ => ptsd_one (ptd_val (pdc_call c_is_within (hr.mono (by decide)) takes0 (pda_cons (pd_ix ir_ix (pd_var 0) (pd_var 2)) (pda_cons (pd_var 1) (pda_nil)))))) (fun _ _ _ _ _ => pd_var 2))) (pda_nil))))
theorem ok_rest_by {f : Addr} {fd : FuncData} (F : Fun G.K "rest_by" "rest_by" s_rest_by f fd) (T : Txt P w mg base G) (c_places_of : CallOk P w G.K mg base G "places_of" 1 1 m_places_of) : FnG P w G.K mg base 2 f fd ["space", "lot"] (spM G 2 m_rest_by) :=
  defk 1 2 3 m_rest_by b_rest_by rfl rfl rfl F sc_rest_by fun cdv A outer s H E hr => psd_one (psd_ret (pd_callT cr_tuple T.b_tuple (pda_cons (pd_frz (pd_lc (own := [("place", 2)]) rfl sc_rest_by.nd (pid_list (pdc_call c_places_of (hr.mono (by decide)) (takes_of rfl rfl rfl rfl) (pda_cons (pd_var 0) (pda_nil)))) (blkOk_by (by kernel_rfl)) (fun _ _ _ _ _ => pgd_name (i := 2) sc_rest_by.nd) (fun _ _ _ _ _ => ptsd_one (ptd_cmp or_notin (pd_var 2) (pd_var 1))) (fun _ _ _ _ _ => pd_var 2))) (pda_nil))))
theorem ok_letter_by {f : Addr} {fd : FuncData} (F : Fun G.K "letter_by" "letter_by" s_letter_by f fd) (T : Txt P w mg base G) (c_closing_by : CallOk P w G.K mg base G "closing_by" 2 2 m_closing_by) (c_inside_by : CallOk P w G.K mg base G "inside_by" 2 2 m_inside_by) (c_rest_by : CallOk P w G.K mg base G "rest_by" 2 2 m_rest_by) : FnG P w G.K mg base 3 f fd ["space", "letter", "lot"] (spM G 3 m_letter_by) :=
  defk 2 3 3 m_letter_by b_letter_by rfl rfl rfl F sc_letter_by fun cdv A outer s H E hr => psd_cons (psd_if (ptd_cmp (or_eq (hu64 hr)) (pd_var 1) (pd_str)) (psd_one (psd_ret (pdc_call c_rest_by (hr.mono (by decide)) (takes_of rfl rfl rfl rfl) (pda_cons (pd_var 0) (pda_cons (pd_var 2) (pda_nil)))))) (psd_nil)) (psd_one (psd_ret (pd_if (ptd_cmp (or_eq (hu64 hr)) (pd_var 1) (pd_str)) (pdc_call c_closing_by (hr.mono (by decide)) (takes_of rfl rfl rfl rfl) (pda_cons (pd_var 0) (pda_cons (pd_var 2) (pda_nil)))) (pdc_call c_inside_by (hr.mono (by decide)) (takes_of rfl rfl rfl rfl) (pda_cons (pd_var 0) (pda_cons (pd_var 2) (pda_nil)))))))
theorem ok_done_by {f : Addr} {fd : FuncData} (F : Fun G.K "done_by" "done_by" s_done_by f fd) (T : Txt P w mg base G) (c_letter_by : CallOk P w G.K mg base G "letter_by" 3 3 m_letter_by) : FnG P w G.K mg base 4 f fd ["space", "word", "lot"] (spM G 3 m_done_by) :=
  defk 3 3 5 m_done_by b_done_by rfl rfl rfl F sc_done_by fun cdv A outer s H E hr => psd_cons (psd_set (i := 3) sc_done_by.nd (pd_var 2)) (psd_cons (psd_for (passes_of rfl) rfl (pid_str (pd_revS (pd_var 1))) (pgd_name (i := 4) sc_done_by.nd) (psd_one (psd_set (i := 3) sc_done_by.nd (pdc_call c_letter_by (hr.mono (by decide)) (takes_of rfl rfl rfl rfl) (pda_cons (pd_var 0) (pda_cons (pd_var 4) (pda_cons (pd_var 3) (pda_nil)))))))) (psd_one (psd_ret (pd_var 3))))
theorem ok_made_by_all {f : Addr} {fd : FuncData} (F : Fun G.K "made_by_all" "made_by_all" s_made_by_all f fd) (T : Txt P w mg base G) (c_all_lots : CallOk P w G.K mg base G "all_lots" 1 1 m_all_lots) (c_done_by : CallOk P w G.K mg base G "done_by" 4 3 m_done_by) : FnG P w G.K mg base 5 f fd ["space", "word"] (spM G 2 m_made_by_all) :=
  defk 4 2 3 m_made_by_all b_made_by_all rfl rfl rfl F sc_made_by_all fun cdv A outer s H E hr => psd_one (psd_ret (pd_callT cr_tuple T.b_tuple (pda_cons (pd_frz (pd_lc (own := [("lot", 2)]) rfl sc_made_by_all.nd (pid_list (pdc_call c_all_lots (hr.mono (by decide)) (takes_of rfl rfl rfl rfl) (pda_cons (pd_callB cr_len T.b_len (pda_cons (pd_var 0) (pda_nil))) (pda_nil)))) (blkOk_by (by kernel_rfl)) (fun _ _ _ _ _ => pgd_name (i := 2) sc_made_by_all.nd) (fun _ _ _ _ _ => ptsd_nil) (fun _ _ _ _ _ => pdc_call c_done_by (hr.mono (by decide)) takes0 (pda_cons (pd_var 0) (pda_cons (pd_var 1) (pda_cons (pd_var 2) (pda_nil))))))) (pda_nil))))
theorem ok_plain_words {f : Addr} {fd : FuncData} (F : Fun G.K "plain_words" "plain_words" s_plain_words f fd) (T : Txt P w mg base G) : FnG P w G.K mg base 1 f fd [] (spM G 0 m_plain_words) :=
  defk 0 0 1 m_plain_words b_plain_words rfl rfl rfl F sc_plain_words fun cdv A outer s H E hr => psd_one (psd_ret (pd_frz (pdf_lst (pda_star (pd_gtup T.g_BARE) (pda_star (pd_frz (pd_lc (own := [("word", 0)]) rfl sc_plain_words.nd (pid_tup (pd_gtup T.g_BARE)) (blkOk_by (by kernel_rfl)) (fun _ _ _ _ _ => pgd_name (i := 0) sc_plain_words.nd) (fun _ _ _ _ _ => ptsd_nil) (fun _ _ _ _ _ => pd_op or_add (pd_var 0) (pd_str)))) (pda_nil))))))
theorem ok_unlike_by {f : Addr} {fd : FuncData} (F : Fun G.K "unlike_by" "unlike_by" s_unlike_by f fd) (T : Txt P w mg base G) (c_made_by_all : CallOk P w G.K mg base G "made_by_all" 5 2 m_made_by_all) (c_plain_words : CallOk P w G.K mg base G "plain_words" 1 0 m_plain_words) : FnG P w G.K mg base 6 f fd ["space"] (spM G 1 m_unlike_by) :=
  defk 5 1 2 m_unlike_by b_unlike_by rfl rfl rfl F sc_unlike_by fun cdv A outer s H E hr => psd_one (psd_ret (pd_callB (cr_dlen T.hw) T.b_len (pda_cons (pd_dc (own := [("word", 1)]) T.hw (hu64 hr) rfl sc_unlike_by.nd (pid_list (pdc_call0 c_plain_words (hr.mono (by decide)) (takes_of rfl rfl rfl rfl))) (blkOk_by (by kernel_rfl)) (fun _ _ _ _ _ => pgd_name (i := 1) sc_unlike_by.nd) (fun _ _ _ _ _ => ptsd_nil) (fun _ _ _ _ _ => pdc_call c_made_by_all (hr.mono (by decide)) takes0 (pda_cons (pd_var 0) (pda_cons (pd_var 1) (pda_nil)))) (fun _ _ _ _ _ => pd_bl)) (pda_nil))))
theorem ok_Yard_words {f : Addr} {fd : FuncData} (F : Fun G.K "words" "Yard.words" s_Yard_words f fd) (T : Txt P w mg base G) (c_unlike_by : CallOk P w G.K mg base G "unlike_by" 6 1 m_unlike_by) : FnG P w G.K mg base 7 f fd ["self"] (spM G 1 m_Yard_words) :=
  defk 6 1 1 m_Yard_words b_Yard_words rfl rfl rfl F sc_Yard_words fun cdv A outer s H E hr => psd_one (psd_ret (pdc_call c_unlike_by (hr.mono (by decide)) (takes_of rfl rfl rfl rfl) (pda_cons (pdc_fld T.f_Yard_space (pd_var 0)) (pda_nil))))
theorem ok__law_alone {f : Addr} {fd : FuncData} (F : Fun G.K "_law_alone" "_law_alone" s__law_alone f fd) (T : Txt P w mg base G) : FnG P w G.K mg base 1 f fd ["many"] (spM G 1 m__law_alone) :=
  defk 0 1 2 m__law_alone b__law_alone rfl rfl rfl F sc__law_alone fun cdv A outer s H E hr => psd_one (psd_ret (pd_callT cr_tuple T.b_tuple (pda_cons (pd_frz (pd_lc (own := [("place", 1)]) rfl sc__law_alone.nd (pid_range1 T.b_range (pd_var 0)) (blkOk_by (by kernel_rfl)) (fun _ _ _ _ _ => pgd_name (i := 1) sc__law_alone.nd) (fun _ _ _ _ _ => ptsd_nil) (fun _ _ _ _ _ => pd_tup (pda_cons (pd_var 1) (pda_nil))))) (pda_nil))))
theorem hd__law_caught_0_ind : ∀ (a : Addr) (dx : Option Addr) (c : Str) (d : Da) (ρ : En) (S : Store), wipeRS 1 (hd__law_caught_0 a dx c (ρ.set 1 (some (.exc a dx c d))) S) = wipeRS 1 (hd__law_caught_0 0 none c (ρ.set 1 (some (.exc 0 none c d))) S) := by
  exact fun a dx c d ρ S => ags_hind (i := 1) (by unfold hd__law_caught_0; repeat' (with_reducible first | exact ag_c | exact ag_nil | exact ag_noPart | exact ag_isX | exact ag_xf | exact ags_skip | exact ags_retN | exact ags_never | exact ags_break | exact ags_cont | exact (ag_var (by decide)) | exact (ag_isX2 (by decide)) | exact (ag_xf2 (by decide)) | refine ag_part ?_ | refine ag_cons ?_ ?_ | refine ag_op ?_ ?_ | refine ag_un ?_ | refine ag_tst ?_ | refine ag_notT ?_ | refine ag_andT ?_ ?_ | refine ag_orT ?_ ?_ | refine ag_not ?_ | refine ag_and ?_ ?_ | refine ag_or ?_ ?_ | refine ag_if ?_ ?_ ?_ | refine ag_disp ?_ | refine ag_list ?_ | refine ag_frz ?_ | refine ag_call ?_ | refine ag_slice ?_ ?_ ?_ | refine ag_cntB ?_ ?_ | refine ag_idxB ?_ ?_ | refine ag_callF ?_ | refine ag_itL ?_ | refine ag_itT ?_ | refine ag_itET ?_ | refine ag_act ?_ | refine ags_ret ?_ | refine ags_drop ?_ | refine ags_set (by decide) ?_ | refine ags_if ?_ ?_ ?_ | refine ags_seq ?_ ?_ | refine ags_for (by decide) ?_ ?_ | refine ags_tryAs (by decide) ?_ (fun c => ?_) | unfold hd__law_caught_0)) ρ S
theorem lok__law_caught {f : Addr} {fd : FuncData} (F : Fun G.K "_law_caught" "_law_caught" s__law_caught f fd) (TA : ∀ B, Txt P w mg base (G.at B)) (hm : mg "_law_caught" = some (.ref f)) (hk : PySem.W.keepIn G.K (.ref f) = true) (hb : Binds G.K fd ["act"] []) : LamOk P w G.K mg base G "_law_caught" 1 0 0 m__law_caught :=
  ⟨f, fd, s__law_caught, "_law_caught", "act", ["act", "e", "told", "words"], ["act"], b__law_caught, rfl, hm, hk, F, hb, sc__law_caught, rfl, rfl, (by first | exact Or.inl rfl | exact Or.inr (Or.inl rfl)), by decide, by decide, fun tk f c B k cdv A outer s H E hr act => by
      have T := TA B
      exact psd_cons (psd_try_as (i := 1) sc__law_caught.nd ⟨rfl, by decide, .inl T.nm_NearError⟩ T.qm_NearError (takes_of rfl rfl rfl rfl) (fun _ _ _ tk po => psd_one (psd_expr (act _ _ _ _ _ _ _ tk (pda_nil) (.inl ⟨rfl, rfl⟩)))) (fun a oe c dx pn hm hz hf => psd_cons (psd_set (i := 2) sc__law_caught.nd (pd_frz (pdf_lst (pda_cons (pd_isX (i := 1) (T.exc_NearError c hm) hz hf (pe_glob (v := .ref (G.cls "InvalidNumber")) rfl T.nm_InvalidNumber rfl) (.own _) (T.qi_InvalidNumber c) T.b_isinstance) (pda_nil))))) (psd_cons (psd_if (ptd_of (pwd_or (ptd_cmp (or_ne hr.rm.units) (pd_cntB (pd_var 2) (pd_bl)) (pd_int)) (pwd_or1 (ptd_not (ptd_val (pd_isX (i := 1) (T.exc_NearError c hm) hz hf (pe_bltn (v := .ty "ValueError") rfl T.b_ValueError (by decide +kernel) rfl (by decide) (by decide)) (.ty _) (T.qi_ValueError c) T.b_isinstance)))))) (psd_one (psd_ret (pd_str))) (psd_nil)) (psd_cons (psd_set (i := 3) sc__law_caught.nd (pd_frz (pdf_lst (pda_cons (pd_str) (pda_nil))))) (psd_one (psd_ret (pd_tup (pda_cons (pd_ix ir_ix (pd_var 3) (pd_idxB (pd_var 2) (pd_bl))) (pda_cons (pd_callB (cr_reprA hr.rm.units hr.gd) T.b_repr (pda_cons (pd_xf (i := 1) (T.xfc_NearError c hm) hz hf (T.xt_given c) (T.xn_NearError_given c hm)) (pda_nil))) (pda_nil))))))))) hd__law_caught_0_ind) (psd_one (psd_ret (pd_non))),
    fun tk f c k ds S hl => ags_lind (i := 0) (by unfold b__law_caught; repeat' (with_reducible first | exact ag_c | exact ag_nil | exact ag_noPart | exact ag_isX | exact ag_xf | exact ags_skip | exact ags_retN | exact ags_never | exact ags_break | exact ags_cont | exact (ag_var (by decide)) | exact (ag_isX2 (by decide)) | exact (ag_xf2 (by decide)) | refine ag_part ?_ | refine ag_cons ?_ ?_ | refine ag_op ?_ ?_ | refine ag_un ?_ | refine ag_tst ?_ | refine ag_notT ?_ | refine ag_andT ?_ ?_ | refine ag_orT ?_ ?_ | refine ag_not ?_ | refine ag_and ?_ ?_ | refine ag_or ?_ ?_ | refine ag_if ?_ ?_ ?_ | refine ag_disp ?_ | refine ag_list ?_ | refine ag_frz ?_ | refine ag_call ?_ | refine ag_slice ?_ ?_ ?_ | refine ag_cntB ?_ ?_ | refine ag_idxB ?_ ?_ | refine ag_callF ?_ | refine ag_itL ?_ | refine ag_itT ?_ | refine ag_itET ?_ | refine ag_act ?_ | refine ags_ret ?_ | refine ags_drop ?_ | refine ags_set (by decide) ?_ | refine ags_if ?_ ?_ ?_ | refine ags_seq ?_ ?_ | refine ags_for (by decide) ?_ ?_ | refine ags_tryAs (by decide) ?_ (fun c => ?_) | unfold hd__law_caught_0)) (by decide) hl S⟩
theorem ok__law_take {f : Addr} {fd : FuncData} (F : Fun G.K "_law_take" "_law_take" s__law_take f fd) (T : Txt P w mg base G) : FnG P w G.K mg base 1 f fd ["well", "many"] (spM G 2 m__law_take) :=
  defk 0 2 3 m__law_take b__law_take rfl rfl rfl F sc__law_take fun cdv A outer s H E hr => psd_cons (psd_if (ptd_cmp or_gt (pd_ix ir_ix (pd_var 0) (pd_int)) (pd_int)) (psd_cons (psm_asg (pd_callB cr_divmod' T.b_divmod (pda_cons (pd_ix ir_ix (pd_var 0) (pd_int)) (pda_cons (pd_var 1) (pda_nil)))) (pgm_tup rfl (pgm_cons (pgm_sub (pd_var 0) (pd_int)) (pgm_cons (pgm_name (i := 2) sc__law_take.nd) (pgm_nil))))) (psd_one (psd_ret (pd_var 2)))) (psd_nil)) (psd_cons (psm_asg (pd_op or_add (pd_ix ir_ix (pd_var 0) (pd_int)) (pd_int)) (pgm_sub (pd_var 0) (pd_int))) (psd_cons (psm_asg (pd_op or_mod (pd_callT cr_int T.b_int (pda_cons (pd_op or_add (pd_op or_add (pd_op or_mul (pd_ix ir_ix (pd_var 0) (pd_int)) (pd_int)) (pd_op or_mul (pd_ix ir_ix (pd_var 0) (pd_int)) (pd_int))) (pd_int)) (pda_nil))) (pd_int)) (pgm_sub (pd_var 0) (pd_int))) (psd_one (psd_ret (pd_op or_mod (pd_callT cr_int T.b_int (pda_cons (pd_op or_add (pd_op or_fdiv (pd_ix ir_ix (pd_var 0) (pd_int)) (pd_int)) (pd_ix ir_ix (pd_var 0) (pd_int))) (pda_nil))) (pd_var 1))))))
theorem ok__law_well {f : Addr} {fd : FuncData} (F : Fun G.K "_law_well" "_law_well" s__law_well f fd) (T : Txt P w mg base G) : FnG P w G.K mg base 1 f fd ["script", "lap"] (spM G 2 m__law_well) :=
  defk 0 2 5 m__law_well b__law_well rfl rfl rfl F sc__law_well fun cdv A outer s H E hr => psd_cons (psd_set (i := 2) sc__law_well.nd (pd_if (ptd_cmp or_lt (pd_var 1) (pd_callB cr_len T.b_len (pda_cons (pd_var 0) (pda_nil)))) (pd_callT cr_int T.b_int (pda_cons (pd_ix ir_ix (pd_var 0) (pd_var 1)) (pda_nil))) (pd_int))) (psd_cons (psd_set (i := 3) sc__law_well.nd (pd_op or_add (pd_int) (pd_op or_mul (pd_int) (pd_var 1)))) (psd_cons (psd_for (passes_of rfl) rfl (pid_list (pd_frz (pdf_cat (pd_slice sr_lst (pd_var 0) (pod_none) (pod_some (pd_int))) (pd_frz (pdf_lst (pda_cons (pd_var 2) (pda_nil))))))) (pgd_name (i := 4) sc__law_well.nd) (psd_one (psd_set (i := 3) sc__law_well.nd (pd_op or_mod (pd_callT cr_int T.b_int (pda_cons (pd_op or_add (pd_op or_add (pd_op or_mul (pd_var 3) (pd_int)) (pd_op or_mod (pd_callT cr_int T.b_int (pda_cons (pd_var 4) (pda_nil))) (pd_int))) (pd_int)) (pda_nil))) (pd_int))))) (psd_one (psd_ret (pd_cel (pdf_lst (pda_cons (pd_if (ptd_of (pwd_or (ptd_cmp or_lt (pd_var 2) (pd_int)) (pwd_or1 (ptd_cmp or_ge (pd_var 2) (pd_op or_pow (pd_int) (pd_int)))))) (pd_callB cr_abs T.b_abs (pda_cons (pd_var 2) (pda_nil))) (pd_int)) (pda_cons (pd_var 3) (pda_cons (pd_int) (pda_nil))))))))))
theorem ok_is_row {f : Addr} {fd : FuncData} (F : Fun G.K "is_row" "is_row" s_is_row f fd) (T : Txt P w mg base G) : FnG P w G.K mg base 1 f fd ["value", "least", "most"] (spM G 3 m_is_row) :=
  defk 0 3 3 m_is_row b_is_row rfl rfl rfl F sc_is_row fun cdv A outer s H E hr => psd_one (psd_ret (pd_and (pd_isi T.b_isinstance (pd_var 0) T.b_tuple) (pd_one (pd_chain or_le or_le (pd_var 1) (pd_callB cr_len T.b_len (pda_cons (pd_var 0) (pda_nil))) (pd_var 2)))))
theorem lok_first_wrong {f : Addr} {fd : FuncData} (F : Fun G.K "first_wrong" "first_wrong" s_first_wrong f fd) (TA : ∀ B, Txt P w mg base (G.at B)) (hm : mg "first_wrong" = some (.ref f)) (hk : PySem.W.keepIn G.K (.ref f) = true) (hb : Binds G.K fd ["value", "is_right"] []) : LamOk P w G.K mg base G "first_wrong" 1 1 2 m_first_wrong :=
  ⟨f, fd, s_first_wrong, "first_wrong", "is_right", ["value", "is_right", "index", "each"], ["value", "is_right"], b_first_wrong, rfl, hm, hk, F, hb, sc_first_wrong, rfl, rfl, (by first | exact Or.inl rfl | exact Or.inr (Or.inl rfl)), by decide, by decide, fun tk f c B k cdv A outer s H E hr act => by
      have T := TA B
      exact psd_cons (psd_for (passes_of rfl) rfl (pid_enumT T.b_enumerate (pd_var 0)) (pgd_tup rfl rfl (pgd_cons (pgd_name (i := 2) sc_first_wrong.nd) (pgd_cons (pgd_name (i := 3) sc_first_wrong.nd) (pgd_nil)))) (psd_one (psd_if (ptd_not (ptd_val (act _ [] _ _ _ _ _ (takes_of rfl rfl rfl rfl) (pda_cons (pd_var 3) (pda_cons (pd_slice sr_tup (pd_var 0) (pod_none) (pod_some (pd_var 2))) (pda_nil))) (.inr ⟨_, _, rfl, rfl, rfl⟩)))) (psd_one (psd_ret (pd_var 2))) (psd_nil)))) (psd_one (psd_ret (pd_non))),
    fun tk f c k ds S hl => ags_lind (i := 1) (by unfold b_first_wrong; repeat' (with_reducible first | exact ag_c | exact ag_nil | exact ag_noPart | exact ag_isX | exact ag_xf | exact ags_skip | exact ags_retN | exact ags_never | exact ags_break | exact ags_cont | exact (ag_var (by decide)) | exact (ag_isX2 (by decide)) | exact (ag_xf2 (by decide)) | refine ag_part ?_ | refine ag_cons ?_ ?_ | refine ag_op ?_ ?_ | refine ag_un ?_ | refine ag_tst ?_ | refine ag_notT ?_ | refine ag_andT ?_ ?_ | refine ag_orT ?_ ?_ | refine ag_not ?_ | refine ag_and ?_ ?_ | refine ag_or ?_ ?_ | refine ag_if ?_ ?_ ?_ | refine ag_disp ?_ | refine ag_list ?_ | refine ag_frz ?_ | refine ag_call ?_ | refine ag_slice ?_ ?_ ?_ | refine ag_cntB ?_ ?_ | refine ag_idxB ?_ ?_ | refine ag_callF ?_ | refine ag_itL ?_ | refine ag_itT ?_ | refine ag_itET ?_ | refine ag_act ?_ | refine ags_ret ?_ | refine ags_drop ?_ | refine ags_set (by decide) ?_ | refine ags_if ?_ ?_ ?_ | refine ags_seq ?_ ?_ | refine ags_for (by decide) ?_ ?_ | refine ags_tryAs (by decide) ?_ (fun c => ?_) | unfold hd__law_caught_0)) (by decide) hl S⟩
theorem ok_is_closed_up {f : Addr} {fd : FuncData} (F : Fun G.K "is_closed_up" "is_closed_up" s_is_closed_up f fd) (T : Txt P w mg base G) (c_is_within : CallOk P w G.K mg base G "is_within" 1 2 m_is_within) : FnG P w G.K mg base 2 f fd ["reaches", "reach"] (spM G 2 m_is_closed_up) :=
  defk 1 2 3 m_is_closed_up b_is_closed_up rfl rfl rfl F sc_is_closed_up fun cdv A outer s H E hr => psd_one (psd_ret (pd_callB (cr_allD rfl) T.b_all (pda_cons (pd_frz (pd_lc (own := [("place", 2)]) rfl sc_is_closed_up.nd (pid_tup (pd_var 1)) (blkOk_by (by kernel_rfl)) (fun _ _ _ _ _ => pgd_name (i := 2) sc_is_closed_up.nd) (fun _ _ _ _ _ => ptsd_nil) (fun _ _ _ _ _ => pdc_call c_is_within (hr.mono (by decide)) takes0 (pda_cons (pd_ix ir_ix (pd_var 0) (pd_var 2)) (pda_cons (pd_var 1) (pda_nil)))))) (pda_nil))))
theorem ok_is_lot_of {f : Addr} {fd : FuncData} (F : Fun G.K "is_lot_of" "is_lot_of" s_is_lot_of f fd) (T : Txt P w mg base G) (c_is_between : CallOk P w G.K mg base G "is_between" 2 3 m_is_between) : FnG P w G.K mg base 3 f fd ["places", "value"] (spM G 2 m_is_lot_of) :=
  defk 2 2 5 m_is_lot_of b_is_lot_of rfl rfl rfl F sc_is_lot_of fun cdv A outer s H E hr => psd_cons (psd_if (ptd_of (pwd_or (ptd_not (ptd_val (pd_isi T.b_isinstance (pd_var 1) T.b_tuple))) (pwd_or1 (ptd_not (ptd_val (pd_callB (cr_allD rfl) T.b_all (pda_cons (pd_frz (pd_lc (own := [("place", 2)]) rfl sc_is_lot_of.nd (pid_tup (pd_var 1)) (blkOk_by (by kernel_rfl)) (fun _ _ _ _ _ => pgd_name (i := 2) sc_is_lot_of.nd) (fun _ _ _ _ _ => ptsd_nil) (fun _ _ _ _ _ => pdc_call c_is_between (hr.mono (by decide)) takes0 (pda_cons (pd_var 2) (pda_cons (pd_int) (pda_cons (pd_op or_sub (pd_var 0) (pd_int)) (pda_nil))))))) (pda_nil)))))))) (psd_one (psd_ret (pd_bl))) (psd_nil)) (psd_one (psd_ret (pd_callB (cr_allD rfl) T.b_all (pda_cons (pd_frz (pd_lc (own := [("one", 3), ("other", 4)]) rfl sc_is_lot_of.nd (pid_zipT T.b_zip (pd_var 1) (pd_slice sr_tup (pd_var 1) (pod_some (pd_int)) (pod_none))) (blkOk_by (by kernel_rfl)) (fun _ _ _ _ _ => pgd_tup rfl rfl (pgd_cons (pgd_name (i := 3) sc_is_lot_of.nd) (pgd_cons (pgd_name (i := 4) sc_is_lot_of.nd) (pgd_nil)))) (fun _ _ _ _ _ => ptsd_nil) (fun _ _ _ _ _ => pd_cmp or_lt (pd_var 3) (pd_var 4)))) (pda_nil)))))
theorem ok_is_reach_of {f : Addr} {fd : FuncData} (F : Fun G.K "is_reach_of" "is_reach_of" s_is_reach_of f fd) (T : Txt P w mg base G) (c_is_lot_of : CallOk P w G.K mg base G "is_lot_of" 3 2 m_is_lot_of) : FnG P w G.K mg base 4 f fd ["places", "place", "value"] (spM G 3 m_is_reach_of) :=
  defk 3 3 3 m_is_reach_of b_is_reach_of rfl rfl rfl F sc_is_reach_of fun cdv A outer s H E hr => psd_one (psd_ret (pd_and (pdc_call c_is_lot_of (hr.mono (by decide)) (takes_of rfl rfl rfl rfl) (pda_cons (pd_var 0) (pda_cons (pd_var 2) (pda_nil)))) (pd_one (pd_cmp or_in (pd_var 1) (pd_var 2)))))
theorem ok_wrong_reach {f : Addr} {fd : FuncData} (F : Fun G.K "wrong_reach" "wrong_reach" s_wrong_reach f fd) (T : Txt P w mg base G) {cA : Addr} (hcd : fd.code = .ref cA) (TB : TabB base mg cA (G.tab 0)) (hq : ("wrong_reach" ++ ".<locals>.") ++ "<lambda>" = G.tq 0) (c_first_wrong : LamOk P w G.K mg base G "first_wrong" 1 1 2 m_first_wrong) (c_is_closed_up : CallOk P w G.K mg base G "is_closed_up" 2 2 m_is_closed_up) (c_is_reach_of : CallOk P w G.K mg base G "is_reach_of" 4 3 m_is_reach_of) : FnG P w G.K mg base 7 f fd ["value"] (spM G 1 m_wrong_reach) :=
  defkC 6 1 4 m_wrong_reach b_wrong_reach rfl rfl rfl F sc_wrong_reach fun A outer s H E hr => psd_cons (psd_set (i := 1) sc_wrong_reach.nd (pdc_lam (es := [_]) (lps := ["reach", "ahead"]) (kb := 4) c_first_wrong rfl rfl TB hcd hq (lamP_by (by kernel_rfl)) rfl (fun q cl pm cv ctv us hl => match us, hl with | [_, _], _ => rfl) sc_wrong_reach.nd rfl (by decide) (lam_hi2 rfl rfl) hr (by decide) (by decide) (takes_of rfl rfl rfl rfl) (spl1 (pd_var 0)) ⟨_, _, rfl, rfl, rfl⟩ (fun A outer s H E f c hr => pdc_call c_is_reach_of (hr.mono (by decide)) (takes_of rfl rfl rfl rfl) (pda_cons (pd_callB cr_len T.b_len (pda_cons (pd_var 0) (pda_nil))) (pda_cons (pd_callB cr_len T.b_len (pda_cons (pd_var 3) (pda_nil))) (pda_cons (pd_var 2) (pda_nil))))))) (psd_cons (psd_if (ptd_cmp or_notN (pd_var 1) (pd_non)) (psd_one (psd_ret (pd_var 1))) (psd_nil)) (psd_one (psd_ret (pdc_lam (es := [_]) (lps := ["reach", "ahead"]) (kb := 2) c_first_wrong rfl rfl TB hcd hq (lamP_by (by kernel_rfl)) rfl (fun q cl pm cv ctv us hl => match us, hl with | [_, _], _ => rfl) sc_wrong_reach.nd rfl (by decide) (lam_hi2 rfl rfl) hr (by decide) (by decide) (takes_of rfl rfl rfl rfl) (spl1 (pd_var 0)) ⟨_, _, rfl, rfl, rfl⟩ (fun A outer s H E f c hr => pdc_call c_is_closed_up (hr.mono (by decide)) (takes_of rfl rfl rfl rfl) (pda_cons (pd_var 0) (pda_cons (pd_var 2) (pda_nil))))))))
theorem ok_check_space {f : Addr} {fd : FuncData} (F : Fun G.K "check_space" "check_space" s_check_space f fd) (T : Txt P w mg base G) (c_is_row : CallOk P w G.K mg base G "is_row" 1 3 m_is_row) (c_wrong_reach : CallOk P w G.K mg base G "wrong_reach" 7 1 m_wrong_reach) : FnG P w G.K mg base 8 f fd ["value"] (spM G 1 m_check_space) :=
  defk 7 1 2 m_check_space b_check_space rfl rfl rfl F sc_check_space fun cdv A outer s H E hr => psd_cons (psd_if (ptd_not (ptd_val (pdc_call c_is_row (hr.mono (by decide)) (takes_of rfl rfl rfl rfl) (pda_cons (pd_var 0) (pda_cons (pd_int) (pda_cons (pd_gintE T.g_MOST_PLACES) (pda_nil))))))) (psd_one (psd_raise T.x_InvalidSpace (hr.mono (by decide)) (takes_of rfl rfl rfl rfl) (pd_non) (hpx := passX0))) (psd_nil)) (psd_cons (psd_set (i := 1) sc_check_space.nd (pdc_call c_wrong_reach (hr.mono (by decide)) (takes_of rfl rfl rfl rfl) (pda_cons (pd_var 0) (pda_nil)))) (psd_one (psd_if (ptd_cmp or_notN (pd_var 1) (pd_non)) (psd_one (psd_raise T.x_InvalidSpace (hr.mono (by decide)) (takes_of rfl rfl rfl rfl) (pd_var 1) (hpx := passX0))) (psd_nil))))
theorem ok_is_open_by {f : Addr} {fd : FuncData} (F : Fun G.K "is_open_by" "is_open_by" s_is_open_by f fd) (T : Txt P w mg base G) (c_is_within : CallOk P w G.K mg base G "is_within" 1 2 m_is_within) : FnG P w G.K mg base 2 f fd ["space", "lot"] (spM G 2 m_is_open_by) :=
  defk 1 2 3 m_is_open_by b_is_open_by rfl rfl rfl F sc_is_open_by fun cdv A outer s H E hr => psd_one (psd_ret (pd_callB (cr_allD rfl) T.b_all (pda_cons (pd_frz (pd_lc (own := [("place", 2)]) rfl sc_is_open_by.nd (pid_tup (pd_var 1)) (blkOk_by (by kernel_rfl)) (fun _ _ _ _ _ => pgd_name (i := 2) sc_is_open_by.nd) (fun _ _ _ _ _ => ptsd_nil) (fun _ _ _ _ _ => pdc_call c_is_within (hr.mono (by decide)) takes0 (pda_cons (pd_ix ir_ix (pd_var 0) (pd_var 2)) (pda_cons (pd_var 1) (pda_nil)))))) (pda_nil))))
theorem ok_open_lots_by {f : Addr} {fd : FuncData} (F : Fun G.K "open_lots_by" "open_lots_by" s_open_lots_by f fd) (T : Txt P w mg base G) (c_all_lots : CallOk P w G.K mg base G "all_lots" 1 1 m_all_lots) (c_is_open_by : CallOk P w G.K mg base G "is_open_by" 2 2 m_is_open_by) : FnG P w G.K mg base 3 f fd ["space"] (spM G 1 m_open_lots_by) :=
  defk 2 1 2 m_open_lots_by b_open_lots_by rfl rfl rfl F sc_open_lots_by fun cdv A outer s H E hr => psd_one (psd_ret (pd_callT cr_tuple T.b_tuple (pda_cons (pd_frz (pd_lc (own := [("lot", 1)]) rfl sc_open_lots_by.nd (pid_list (pdc_call c_all_lots (hr.mono (by decide)) (takes_of rfl rfl rfl rfl) (pda_cons (pd_callB cr_len T.b_len (pda_cons (pd_var 0) (pda_nil))) (pda_nil)))) (blkOk_by (by kernel_rfl)) (fun _ _ _ _ _ => pgd_name (i := 1) sc_open_lots_by.nd) (fun _ _ _ _ _ => ptsd_one (ptd_val (pdc_call c_is_open_by (hr.mono (by decide)) takes0 (pda_cons (pd_var 0) (pda_cons (pd_var 1) (pda_nil)))))) (fun _ _ _ _ _ => pd_var 1))) (pda_nil))))
theorem ok_open_lots {f : Addr} {fd : FuncData} (F : Fun G.K "open_lots" "open_lots" s_open_lots f fd) (T : Txt P w mg base G) (c_check_space : CallOk P w G.K mg base G "check_space" 8 1 m_check_space) (c_open_lots_by : CallOk P w G.K mg base G "open_lots_by" 3 1 m_open_lots_by) : FnG P w G.K mg base 9 f fd ["space"] (spM G 1 m_open_lots) :=
  defk 8 1 1 m_open_lots b_open_lots rfl rfl rfl F sc_open_lots fun cdv A outer s H E hr => psd_cons (psd_expr (pdc_call c_check_space (hr.mono (by decide)) (takes_of rfl rfl rfl rfl) (pda_cons (pd_var 0) (pda_nil)))) (psd_one (psd_ret (pdc_call c_open_lots_by (hr.mono (by decide)) (takes_of rfl rfl rfl rfl) (pda_cons (pd_var 0) (pda_nil)))))
theorem ok_law {f : Addr} {fd : FuncData} (F : Fun G.K "law" "law" s_law f fd) (T : Txt P w mg base G) {cA : Addr} (hcd : fd.code = .ref cA) (TB : TabB base mg cA (G.tab 1)) (hq : ("law" ++ ".<locals>.") ++ "<lambda>" = G.tq 1) (c_Yard_eq : EqOk P w G.K mg base G "Yard" 1 m_Yard_eq) (c_Yard_init : MakeOk P w G.K mg base G "Yard" 3 2 m_Yard_init) (c_Yard_parts : MethOk P w G.K mg base G "Yard" "parts" 5 1 m_Yard_parts) (c_Yard_words : MethOk P w G.K mg base G "Yard" "words" 7 1 m_Yard_words) (c__law_alone : CallOk P w G.K mg base G "_law_alone" 1 1 m__law_alone) (c__law_caught : LamOk P w G.K mg base G "_law_caught" 1 0 0 m__law_caught) (c__law_take : CallOk P w G.K mg base G "_law_take" 1 2 m__law_take) (c__law_well : CallOk P w G.K mg base G "_law_well" 1 2 m__law_well) (c_open_lots : CallOk P w G.K mg base G "open_lots" 9 1 m_open_lots) (kc_Yard_init : MakeOkK P w G.K mg base G "Yard" 3 2 m_Yard_init ["places"]) : FnG P w G.K mg base 10 f fd ["script"] (spM G 1 m_law) :=
  defkC 9 1 8 m_law b_law rfl rfl rfl F sc_law fun A outer s H E hr => psd_cons (psd_for (passes_of rfl) rfl (pid_range1 T.b_range (pd_int)) (pgd_name (i := 1) sc_law.nd) (psd_cons (psd_set (i := 2) sc_law.nd (pdc_call c__law_well (hr.mono (by decide)) (takes_of rfl rfl rfl rfl) (pda_cons (pd_var 0) (pda_cons (pd_var 1) (pda_nil))))) (psd_cons (psd_par (i := 3) (j := 4) sc_law.nd (pda_cons (pd_op or_add (pd_int) (pdc_call c__law_take (hr.mono (by decide)) (takes_of rfl rfl rfl rfl) (pda_cons (pd_var 2) (pda_cons (pd_int) (pda_nil))))) (pda_cons (pd_int) (pda_nil)))) (psd_cons (psd_for (passes_of rfl) rfl (pid_range1 T.b_range (pd_var 3)) (pgd_name (i := 5) sc_law.nd) (psd_one (psd_set (i := 4) sc_law.nd (pd_op or_mul (pd_var 4) (pd_int))))) (psd_cons (psd_for (passes_of rfl) rfl (pid_list (pd_frz (pdf_lst (pda_cons (pdc_make c_Yard_init (hr.mono (by decide)) (takes_of rfl rfl rfl rfl) (pda_cons (pd_var 3) (pda_nil))) (pda_cons (pdk_make kc_Yard_init (hr.mono (by decide)) (takes_of rfl rfl rfl rfl) rfl (pkd_cons (pd_var 3) (pkd_nil))) (pda_nil)))))) (pgd_name (i := 6) sc_law.nd) (psd_cons (psd_if (ptd_cmp (or_ne (hu64 hr)) (pd_callB (cr_reprA (hu64 hr) hr.gd) T.b_repr (pda_cons (pd_frz (pdf_lst (pda_cons (pdc_fld T.f_Yard_places (pd_var 6)) (pda_cons (pdc_fld T.f_Yard_space (pd_var 6)) (pda_cons (pdc_fld T.f_Yard_deeds (pd_var 6)) (pda_nil)))))) (pda_nil))) (pd_callB (cr_reprA (hu64 hr) hr.gd) T.b_repr (pda_cons (pd_frz (pdf_lst (pda_cons (pd_var 3) (pda_cons (pdc_call c__law_alone (hr.mono (by decide)) (takes_of rfl rfl rfl rfl) (pda_cons (pd_var 3) (pda_nil))) (pda_cons (pd_tup (pda_nil)) (pda_nil)))))) (pda_nil)))) (psd_one (psd_ret (pd_bl))) (psd_nil)) (psd_one (psd_if (ptd_cmp (or_ne (hu64 hr)) (pd_frz (pdf_lst (pda_cons (pdc_meth0 c_Yard_words (hr.mono (by decide)) (takes_of rfl rfl rfl rfl) (pd_var 6)) (pda_cons (pdc_meth0 c_Yard_parts (hr.mono (by decide)) (takes_of rfl rfl rfl rfl) (pd_var 6)) (pda_cons (pd_callB cr_len T.b_len (pda_cons (pdc_call c_open_lots (hr.mono (by decide)) (takes_of rfl rfl rfl rfl) (pda_cons (pdc_fld T.f_Yard_space (pd_var 6)) (pda_nil))) (pda_nil))) (pda_nil)))))) (pd_frz (pdf_lst (pda_cons (pd_int) (pda_cons (pd_var 3) (pda_cons (pd_var 4) (pda_nil))))))) (psd_one (psd_ret (pd_bl))) (psd_nil))))) (psd_one (psd_if (ptd_of (pwd_or (ptd_neO c_Yard_eq (hr.mono (by decide)) (pdc_make c_Yard_init (hr.mono (by decide)) (takes_of rfl rfl rfl rfl) (pda_cons (pd_var 3) (pda_nil))) (pdc_make c_Yard_init (hr.mono (by decide)) (takes_of rfl rfl rfl rfl) (pda_cons (pd_var 3) (pda_nil)))) (pwd_or1 (ptd_eqO c_Yard_eq (hr.mono (by decide)) (pdc_make c_Yard_init (hr.mono (by decide)) (takes_of rfl rfl rfl rfl) (pda_cons (pd_var 3) (pda_nil))) (pdc_make c_Yard_init (hr.mono (by decide)) (takes_of rfl rfl rfl rfl) (pda_cons (pd_op or_add (pd_op or_mod (pd_callT cr_int T.b_int (pda_cons (pd_var 3) (pda_nil))) (pd_int)) (pd_int)) (pda_nil))))))) (psd_one (psd_ret (pd_bl))) (psd_nil)))))))) (psd_cons (psd_for (passes_of rfl) rfl (pid_list (pd_frz (pdf_lst (pda_cons (pd_int) (pda_cons (pd_int) (pda_cons (pd_un ur_neg (pd_int)) (pda_cons (pd_non) (pda_cons (pd_bl) (pda_cons (pd_str) (pda_cons (pd_tup (pda_cons (pd_int) (pda_nil))) (pda_cons (pd_op or_pow (pd_int) (pd_int)) (pda_nil)))))))))))) (pgd_name (i := 7) sc_law.nd) (psd_one (psd_if (ptd_cmp (or_ne (hu64 hr)) (pdc_lam (es := []) (lps := []) (kb := 4) c__law_caught rfl rfl TB hcd hq (lamP_by (by kernel_rfl)) rfl (fun q cl pm cv ctv us hl => match us, hl with | [], _ => rfl) sc_law.nd rfl (by decide) (lam_hi0) hr (by decide) (by decide) (takes_of rfl rfl rfl rfl) (spl0) ⟨_, _, rfl, rfl, rfl⟩ (fun A outer s H E f c hr => pdc_make c_Yard_init (hr.mono (by decide)) (takes_of rfl rfl rfl rfl) (pda_cons (pd_var 7) (pda_nil)))) (pd_tup (pda_cons (pd_str) (pda_cons (pd_callB (cr_reprA (hu64 hr) hr.gd) T.b_repr (pda_cons (pd_var 7) (pda_nil))) (pda_nil))))) (psd_one (psd_ret (pd_bl))) (psd_nil)))) (psd_one (psd_ret (pd_bl))))
end
end NL

set_option Elab.async false
set_option linter.all false
set_option autoImplicit false
set_option maxRecDepth 100000
set_option maxHeartbeats 4100000
namespace NL
open PySem PySem.Spec PyProof.Rows L2

theorem all_mk {P : Program} {w : World} {K : PySem.W.Frag} {h : Heap} {mg : Str → Option Value} {fa : Addr} {C_NearError : Addr} {C_InvalidNumber : Addr} {C_InvalidSpace : Addr} {C_Yard : Addr} {D_BARE : Addr} {oc_BARE : Value} {od_BARE : Option Addr} {its_BARE : Array Value} {nn_BARE : Nat} {sl_BARE : Array (Option Value)} {t_MOST_PLACES : Tok} {f_Yard_eq : Addr} {od_Yard_eq an_Yard_eq : Option Addr} {sl_Yard_eq : Array (Option Value)} {oc_Yard_eq kV_Yard_eq dc_Yard_eq pm_Yard_eq cd_Yard_eq ct_Yard_eq : Value} {f_is_whole : Addr} {od_is_whole an_is_whole : Option Addr} {sl_is_whole : Array (Option Value)} {oc_is_whole kV_is_whole dc_is_whole pm_is_whole cd_is_whole ct_is_whole : Value} {f_is_between : Addr} {od_is_between an_is_between : Option Addr} {sl_is_between : Array (Option Value)} {oc_is_between kV_is_between dc_is_between pm_is_between cd_is_between ct_is_between : Value} {f_single_space : Addr} {od_single_space an_single_space : Option Addr} {sl_single_space : Array (Option Value)} {oc_single_space kV_single_space dc_single_space pm_single_space cd_single_space ct_single_space : Value} {f_Yard_init : Addr} {od_Yard_init an_Yard_init : Option Addr} {sl_Yard_init : Array (Option Value)} {oc_Yard_init kV_Yard_init dc_Yard_init pm_Yard_init cd_Yard_init ct_Yard_init : Value} {f_is_near_by : Addr} {od_is_near_by an_is_near_by : Option Addr} {sl_is_near_by : Array (Option Value)} {oc_is_near_by kV_is_near_by dc_is_near_by pm_is_near_by cd_is_near_by ct_is_near_by : Value} {f_are_tied : Addr} {od_are_tied an_are_tied : Option Addr} {sl_are_tied : Array (Option Value)} {oc_are_tied kV_are_tied dc_are_tied pm_are_tied cd_are_tied ct_are_tied : Value} {f_places_of : Addr} {od_places_of an_places_of : Option Addr} {sl_places_of : Array (Option Value)} {oc_places_of kV_places_of dc_places_of pm_places_of cd_places_of ct_places_of : Value} {f_held_with : Addr} {od_held_with an_held_with : Option Addr} {sl_held_with : Array (Option Value)} {oc_held_with kV_held_with dc_held_with pm_held_with cd_held_with ct_held_with : Value} {f_parts_by : Addr} {od_parts_by an_parts_by : Option Addr} {sl_parts_by : Array (Option Value)} {oc_parts_by kV_parts_by dc_parts_by pm_parts_by cd_parts_by ct_parts_by : Value} {f_Yard_parts : Addr} {od_Yard_parts an_Yard_parts : Option Addr} {sl_Yard_parts : Array (Option Value)} {oc_Yard_parts kV_Yard_parts dc_Yard_parts pm_Yard_parts cd_Yard_parts ct_Yard_parts : Value} {f_all_lots : Addr} {od_all_lots an_all_lots : Option Addr} {sl_all_lots : Array (Option Value)} {oc_all_lots kV_all_lots dc_all_lots pm_all_lots cd_all_lots ct_all_lots : Value} {f_common_of : Addr} {od_common_of an_common_of : Option Addr} {sl_common_of : Array (Option Value)} {oc_common_of kV_common_of dc_common_of pm_common_of cd_common_of ct_common_of : Value} {f_closing_by : Addr} {od_closing_by an_closing_by : Option Addr} {sl_closing_by : Array (Option Value)} {oc_closing_by kV_closing_by dc_closing_by pm_closing_by cd_closing_by ct_closing_by : Value} {f_is_within : Addr} {od_is_within an_is_within : Option Addr} {sl_is_within : Array (Option Value)} {oc_is_within kV_is_within dc_is_within pm_is_within cd_is_within ct_is_within : Value} {f_inside_by : Addr} {od_inside_by an_inside_by : Option Addr} {sl_inside_by : Array (Option Value)} {oc_inside_by kV_inside_by dc_inside_by pm_inside_by cd_inside_by ct_inside_by : Value} {f_rest_by : Addr} {od_rest_by an_rest_by : Option Addr} {sl_rest_by : Array (Option Value)} {oc_rest_by kV_rest_by dc_rest_by pm_rest_by cd_rest_by ct_rest_by : Value} {f_letter_by : Addr} {od_letter_by an_letter_by : Option Addr} {sl_letter_by : Array (Option Value)} {oc_letter_by kV_letter_by dc_letter_by pm_letter_by cd_letter_by ct_letter_by : Value} {f_done_by : Addr} {od_done_by an_done_by : Option Addr} {sl_done_by : Array (Option Value)} {oc_done_by kV_done_by dc_done_by pm_done_by cd_done_by ct_done_by : Value} {f_made_by_all : Addr} {od_made_by_all an_made_by_all : Option Addr} {sl_made_by_all : Array (Option Value)} {oc_made_by_all kV_made_by_all dc_made_by_all pm_made_by_all cd_made_by_all ct_made_by_all : Value} {f_plain_words : Addr} {od_plain_words an_plain_words : Option Addr} {sl_plain_words : Array (Option Value)} {oc_plain_words kV_plain_words dc_plain_words pm_plain_words cd_plain_words ct_plain_words : Value} {f_unlike_by : Addr} {od_unlike_by an_unlike_by : Option Addr} {sl_unlike_by : Array (Option Value)} {oc_unlike_by kV_unlike_by dc_unlike_by pm_unlike_by cd_unlike_by ct_unlike_by : Value} {f_Yard_words : Addr} {od_Yard_words an_Yard_words : Option Addr} {sl_Yard_words : Array (Option Value)} {oc_Yard_words kV_Yard_words dc_Yard_words pm_Yard_words cd_Yard_words ct_Yard_words : Value} {f__law_alone : Addr} {od__law_alone an__law_alone : Option Addr} {sl__law_alone : Array (Option Value)} {oc__law_alone kV__law_alone dc__law_alone pm__law_alone cd__law_alone ct__law_alone : Value} {f__law_caught : Addr} {od__law_caught an__law_caught : Option Addr} {sl__law_caught : Array (Option Value)} {oc__law_caught kV__law_caught dc__law_caught pm__law_caught cd__law_caught ct__law_caught : Value} {f__law_take : Addr} {od__law_take an__law_take : Option Addr} {sl__law_take : Array (Option Value)} {oc__law_take kV__law_take dc__law_take pm__law_take cd__law_take ct__law_take : Value} {f__law_well : Addr} {od__law_well an__law_well : Option Addr} {sl__law_well : Array (Option Value)} {oc__law_well kV__law_well dc__law_well pm__law_well cd__law_well ct__law_well : Value} {f_is_row : Addr} {od_is_row an_is_row : Option Addr} {sl_is_row : Array (Option Value)} {oc_is_row kV_is_row dc_is_row pm_is_row cd_is_row ct_is_row : Value} {f_first_wrong : Addr} {od_first_wrong an_first_wrong : Option Addr} {sl_first_wrong : Array (Option Value)} {oc_first_wrong kV_first_wrong dc_first_wrong pm_first_wrong cd_first_wrong ct_first_wrong : Value} {f_is_closed_up : Addr} {od_is_closed_up an_is_closed_up : Option Addr} {sl_is_closed_up : Array (Option Value)} {oc_is_closed_up kV_is_closed_up dc_is_closed_up pm_is_closed_up cd_is_closed_up ct_is_closed_up : Value} {f_is_lot_of : Addr} {od_is_lot_of an_is_lot_of : Option Addr} {sl_is_lot_of : Array (Option Value)} {oc_is_lot_of kV_is_lot_of dc_is_lot_of pm_is_lot_of cd_is_lot_of ct_is_lot_of : Value} {f_is_reach_of : Addr} {od_is_reach_of an_is_reach_of : Option Addr} {sl_is_reach_of : Array (Option Value)} {oc_is_reach_of kV_is_reach_of dc_is_reach_of pm_is_reach_of cd_is_reach_of ct_is_reach_of : Value} {f_wrong_reach : Addr} {cc_wrong_reach TT_wrong_reach : Addr} {od_wrong_reach an_wrong_reach : Option Addr} {sl_wrong_reach : Array (Option Value)} {oc_wrong_reach kV_wrong_reach dc_wrong_reach pm_wrong_reach ct_wrong_reach : Value} {f_check_space : Addr} {od_check_space an_check_space : Option Addr} {sl_check_space : Array (Option Value)} {oc_check_space kV_check_space dc_check_space pm_check_space cd_check_space ct_check_space : Value} {f_is_open_by : Addr} {od_is_open_by an_is_open_by : Option Addr} {sl_is_open_by : Array (Option Value)} {oc_is_open_by kV_is_open_by dc_is_open_by pm_is_open_by cd_is_open_by ct_is_open_by : Value} {f_open_lots_by : Addr} {od_open_lots_by an_open_lots_by : Option Addr} {sl_open_lots_by : Array (Option Value)} {oc_open_lots_by kV_open_lots_by dc_open_lots_by pm_open_lots_by cd_open_lots_by ct_open_lots_by : Value} {f_open_lots : Addr} {od_open_lots an_open_lots : Option Addr} {sl_open_lots : Array (Option Value)} {oc_open_lots kV_open_lots dc_open_lots pm_open_lots cd_open_lots ct_open_lots : Value} {f_law : Addr} {cc_law TT_law : Addr} {od_law an_law : Option Addr} {sl_law : Array (Option Value)} {oc_law kV_law dc_law pm_law ct_law : Value} {to_wrong_reach : Value} {td_wrong_reach : Option Addr} {tv_wrong_reach : Array Value} {ts_wrong_reach : Array (Option Value)} {to_law : Value} {td_law : Option Addr} {tv_law : Array Value} {ts_law : Array (Option Value)} {nm_InvalidNumber q_InvalidNumber : Str} {N_InvalidNumber : Addr} {bs_InvalidNumber bm_InvalidNumber : List Value} {sn_InvalidNumber : List Str} {sub_InvalidNumber : List Value} {ab_InvalidNumber : Bool} {col_InvalidNumber : Option Bool} {dd_InvalidNumber : Option Addr} {m0_InvalidNumber m1_InvalidNumber m2_InvalidNumber m3_InvalidNumber m5_InvalidNumber : Option Value} {f_InvalidNumber_init : Addr} {od_InvalidNumber_init an_InvalidNumber_init : Option Addr} {sl_InvalidNumber_init : Array (Option Value)} {oc_InvalidNumber_init kV_InvalidNumber_init dc_InvalidNumber_init pm_InvalidNumber_init cd_InvalidNumber_init ct_InvalidNumber_init : Value} {nm_InvalidSpace q_InvalidSpace : Str} {N_InvalidSpace : Addr} {bs_InvalidSpace bm_InvalidSpace : List Value} {sn_InvalidSpace : List Str} {sub_InvalidSpace : List Value} {ab_InvalidSpace : Bool} {col_InvalidSpace : Option Bool} {dd_InvalidSpace : Option Addr} {m0_InvalidSpace m1_InvalidSpace m2_InvalidSpace m3_InvalidSpace m5_InvalidSpace : Option Value} {f_InvalidSpace_init : Addr} {od_InvalidSpace_init an_InvalidSpace_init : Option Addr} {sl_InvalidSpace_init : Array (Option Value)} {oc_InvalidSpace_init kV_InvalidSpace_init dc_InvalidSpace_init pm_InvalidSpace_init cd_InvalidSpace_init ct_InvalidSpace_init : Value} (X : K.In h) (Gh : h.Ns mainGlobals mg) (hfa : mg "law" = some (.ref fa))
    (aC_NearError : PySem.W.nsIn K mainGlobals "NearError" = some (some (.ref C_NearError)))
    (aC_InvalidNumber : PySem.W.nsIn K mainGlobals "InvalidNumber" = some (some (.ref C_InvalidNumber)))
    (aC_InvalidSpace : PySem.W.nsIn K mainGlobals "InvalidSpace" = some (some (.ref C_InvalidSpace)))
    (aC_Yard : PySem.W.nsIn K mainGlobals "Yard" = some (some (.ref C_Yard)))
    (im_combinations : PySem.W.nsIn K mainGlobals "combinations" = some (some (.type "itertools.combinations")))
    (z_ValueError : PySem.W.nsIn K mainGlobals "ValueError" = some none)
    (z_abs : PySem.W.nsIn K mainGlobals "abs" = some none)
    (z_all : PySem.W.nsIn K mainGlobals "all" = some none)
    (z_bool : PySem.W.nsIn K mainGlobals "bool" = some none)
    (z_divmod : PySem.W.nsIn K mainGlobals "divmod" = some none)
    (z_enumerate : PySem.W.nsIn K mainGlobals "enumerate" = some none)
    (z_int : PySem.W.nsIn K mainGlobals "int" = some none)
    (z_isinstance : PySem.W.nsIn K mainGlobals "isinstance" = some none)
    (z_len : PySem.W.nsIn K mainGlobals "len" = some none)
    (z_list : PySem.W.nsIn K mainGlobals "list" = some none)
    (z_range : PySem.W.nsIn K mainGlobals "range" = some none)
    (z_repr : PySem.W.nsIn K mainGlobals "repr" = some none)
    (z_set : PySem.W.nsIn K mainGlobals "set" = some none)
    (z_sorted : PySem.W.nsIn K mainGlobals "sorted" = some none)
    (z_tuple : PySem.W.nsIn K mainGlobals "tuple" = some none)
    (z_zip : PySem.W.nsIn K mainGlobals "zip" = some none)
    (g_BARE : PySem.W.nsIn K mainGlobals "BARE" = some (some (.ref D_BARE)))
    (gl_BARE : K.lookup D_BARE = some ⟨oc_BARE, od_BARE, .seq its_BARE nn_BARE, sl_BARE⟩)
    (gc_BARE : oc_BARE = .type "tuple")
    (gz_BARE : its_BARE.size ≤ sizeLine)
    (gv_BARE : Vals ((["", "i", "ik", "iki", "k", "ki", "kik"] : List Str).map V.str) its_BARE.toList)
    (g_MOST_PLACES : PySem.W.nsIn K mainGlobals "MOST_PLACES" = some (some (.int 7 t_MOST_PLACES)))
    (a_Yard_eq : PySem.W.findIn K (.ref C_Yard) "__eq__" = some (some (.ref f_Yard_eq)))
    (i_Yard_eq : PySem.W.isFn K (.ref f_Yard_eq) = true)
    (l_Yard_eq : K.lookup f_Yard_eq = some ⟨oc_Yard_eq, od_Yard_eq, .func (PySem.W.fnOf "__eq__" "Yard.__eq__" (defArgs s_Yard_eq) (defBody s_Yard_eq) (defScope s_Yard_eq) .none kV_Yard_eq dc_Yard_eq pm_Yard_eq an_Yard_eq cd_Yard_eq ct_Yard_eq), sl_Yard_eq⟩)
    (c_Yard_eq : PySem.W.codeIn K cd_Yard_eq "Yard.__eq__" = true)
    (k_Yard_eq : PySem.W.keepIn K (.ref f_Yard_eq) = true)
    (a_is_whole : PySem.W.nsIn K mainGlobals "is_whole" = some (some (.ref f_is_whole)))
    (l_is_whole : K.lookup f_is_whole = some ⟨oc_is_whole, od_is_whole, .func (PySem.W.fnOf "is_whole" "is_whole" (defArgs s_is_whole) (defBody s_is_whole) (defScope s_is_whole) .none kV_is_whole dc_is_whole pm_is_whole an_is_whole cd_is_whole ct_is_whole), sl_is_whole⟩)
    (c_is_whole : PySem.W.codeIn K cd_is_whole "is_whole" = true)
    (k_is_whole : PySem.W.keepIn K (.ref f_is_whole) = true)
    (a_is_between : PySem.W.nsIn K mainGlobals "is_between" = some (some (.ref f_is_between)))
    (l_is_between : K.lookup f_is_between = some ⟨oc_is_between, od_is_between, .func (PySem.W.fnOf "is_between" "is_between" (defArgs s_is_between) (defBody s_is_between) (defScope s_is_between) .none kV_is_between dc_is_between pm_is_between an_is_between cd_is_between ct_is_between), sl_is_between⟩)
    (c_is_between : PySem.W.codeIn K cd_is_between "is_between" = true)
    (k_is_between : PySem.W.keepIn K (.ref f_is_between) = true)
    (a_single_space : PySem.W.nsIn K mainGlobals "single_space" = some (some (.ref f_single_space)))
    (l_single_space : K.lookup f_single_space = some ⟨oc_single_space, od_single_space, .func (PySem.W.fnOf "single_space" "single_space" (defArgs s_single_space) (defBody s_single_space) (defScope s_single_space) .none kV_single_space dc_single_space pm_single_space an_single_space cd_single_space ct_single_space), sl_single_space⟩)
    (c_single_space : PySem.W.codeIn K cd_single_space "single_space" = true)
    (k_single_space : PySem.W.keepIn K (.ref f_single_space) = true)
    (a_Yard_init : PySem.W.findIn K (.ref C_Yard) "__init__" = some (some (.ref f_Yard_init)))
    (i_Yard_init : PySem.W.isFn K (.ref f_Yard_init) = true)
    (l_Yard_init : K.lookup f_Yard_init = some ⟨oc_Yard_init, od_Yard_init, .func (PySem.W.fnOf "__init__" "Yard.__init__" (defArgs s_Yard_init) (defBody s_Yard_init) (defScope s_Yard_init) .none kV_Yard_init dc_Yard_init pm_Yard_init an_Yard_init cd_Yard_init ct_Yard_init), sl_Yard_init⟩)
    (c_Yard_init : PySem.W.codeIn K cd_Yard_init "Yard.__init__" = true)
    (k_Yard_init : PySem.W.keepIn K (.ref f_Yard_init) = true)
    (a_is_near_by : PySem.W.nsIn K mainGlobals "is_near_by" = some (some (.ref f_is_near_by)))
    (l_is_near_by : K.lookup f_is_near_by = some ⟨oc_is_near_by, od_is_near_by, .func (PySem.W.fnOf "is_near_by" "is_near_by" (defArgs s_is_near_by) (defBody s_is_near_by) (defScope s_is_near_by) .none kV_is_near_by dc_is_near_by pm_is_near_by an_is_near_by cd_is_near_by ct_is_near_by), sl_is_near_by⟩)
    (c_is_near_by : PySem.W.codeIn K cd_is_near_by "is_near_by" = true)
    (k_is_near_by : PySem.W.keepIn K (.ref f_is_near_by) = true)
    (a_are_tied : PySem.W.nsIn K mainGlobals "are_tied" = some (some (.ref f_are_tied)))
    (l_are_tied : K.lookup f_are_tied = some ⟨oc_are_tied, od_are_tied, .func (PySem.W.fnOf "are_tied" "are_tied" (defArgs s_are_tied) (defBody s_are_tied) (defScope s_are_tied) .none kV_are_tied dc_are_tied pm_are_tied an_are_tied cd_are_tied ct_are_tied), sl_are_tied⟩)
    (c_are_tied : PySem.W.codeIn K cd_are_tied "are_tied" = true)
    (k_are_tied : PySem.W.keepIn K (.ref f_are_tied) = true)
    (a_places_of : PySem.W.nsIn K mainGlobals "places_of" = some (some (.ref f_places_of)))
    (l_places_of : K.lookup f_places_of = some ⟨oc_places_of, od_places_of, .func (PySem.W.fnOf "places_of" "places_of" (defArgs s_places_of) (defBody s_places_of) (defScope s_places_of) .none kV_places_of dc_places_of pm_places_of an_places_of cd_places_of ct_places_of), sl_places_of⟩)
    (c_places_of : PySem.W.codeIn K cd_places_of "places_of" = true)
    (k_places_of : PySem.W.keepIn K (.ref f_places_of) = true)
    (a_held_with : PySem.W.nsIn K mainGlobals "held_with" = some (some (.ref f_held_with)))
    (l_held_with : K.lookup f_held_with = some ⟨oc_held_with, od_held_with, .func (PySem.W.fnOf "held_with" "held_with" (defArgs s_held_with) (defBody s_held_with) (defScope s_held_with) .none kV_held_with dc_held_with pm_held_with an_held_with cd_held_with ct_held_with), sl_held_with⟩)
    (c_held_with : PySem.W.codeIn K cd_held_with "held_with" = true)
    (k_held_with : PySem.W.keepIn K (.ref f_held_with) = true)
    (a_parts_by : PySem.W.nsIn K mainGlobals "parts_by" = some (some (.ref f_parts_by)))
    (l_parts_by : K.lookup f_parts_by = some ⟨oc_parts_by, od_parts_by, .func (PySem.W.fnOf "parts_by" "parts_by" (defArgs s_parts_by) (defBody s_parts_by) (defScope s_parts_by) .none kV_parts_by dc_parts_by pm_parts_by an_parts_by cd_parts_by ct_parts_by), sl_parts_by⟩)
    (c_parts_by : PySem.W.codeIn K cd_parts_by "parts_by" = true)
    (k_parts_by : PySem.W.keepIn K (.ref f_parts_by) = true)
    (a_Yard_parts : PySem.W.findIn K (.ref C_Yard) "parts" = some (some (.ref f_Yard_parts)))
    (i_Yard_parts : PySem.W.isFn K (.ref f_Yard_parts) = true)
    (l_Yard_parts : K.lookup f_Yard_parts = some ⟨oc_Yard_parts, od_Yard_parts, .func (PySem.W.fnOf "parts" "Yard.parts" (defArgs s_Yard_parts) (defBody s_Yard_parts) (defScope s_Yard_parts) .none kV_Yard_parts dc_Yard_parts pm_Yard_parts an_Yard_parts cd_Yard_parts ct_Yard_parts), sl_Yard_parts⟩)
    (c_Yard_parts : PySem.W.codeIn K cd_Yard_parts "Yard.parts" = true)
    (k_Yard_parts : PySem.W.keepIn K (.ref f_Yard_parts) = true)
    (a_all_lots : PySem.W.nsIn K mainGlobals "all_lots" = some (some (.ref f_all_lots)))
    (l_all_lots : K.lookup f_all_lots = some ⟨oc_all_lots, od_all_lots, .func (PySem.W.fnOf "all_lots" "all_lots" (defArgs s_all_lots) (defBody s_all_lots) (defScope s_all_lots) .none kV_all_lots dc_all_lots pm_all_lots an_all_lots cd_all_lots ct_all_lots), sl_all_lots⟩)
    (c_all_lots : PySem.W.codeIn K cd_all_lots "all_lots" = true)
    (k_all_lots : PySem.W.keepIn K (.ref f_all_lots) = true)
    (a_common_of : PySem.W.nsIn K mainGlobals "common_of" = some (some (.ref f_common_of)))
    (l_common_of : K.lookup f_common_of = some ⟨oc_common_of, od_common_of, .func (PySem.W.fnOf "common_of" "common_of" (defArgs s_common_of) (defBody s_common_of) (defScope s_common_of) .none kV_common_of dc_common_of pm_common_of an_common_of cd_common_of ct_common_of), sl_common_of⟩)
    (c_common_of : PySem.W.codeIn K cd_common_of "common_of" = true)
    (k_common_of : PySem.W.keepIn K (.ref f_common_of) = true)
    (a_closing_by : PySem.W.nsIn K mainGlobals "closing_by" = some (some (.ref f_closing_by)))
    (l_closing_by : K.lookup f_closing_by = some ⟨oc_closing_by, od_closing_by, .func (PySem.W.fnOf "closing_by" "closing_by" (defArgs s_closing_by) (defBody s_closing_by) (defScope s_closing_by) .none kV_closing_by dc_closing_by pm_closing_by an_closing_by cd_closing_by ct_closing_by), sl_closing_by⟩)
    (c_closing_by : PySem.W.codeIn K cd_closing_by "closing_by" = true)
    (k_closing_by : PySem.W.keepIn K (.ref f_closing_by) = true)
    (a_is_within : PySem.W.nsIn K mainGlobals "is_within" = some (some (.ref f_is_within)))
    (l_is_within : K.lookup f_is_within = some ⟨oc_is_within, od_is_within, .func (PySem.W.fnOf "is_within" "is_within" (defArgs s_is_within) (defBody s_is_within) (defScope s_is_within) .none kV_is_within dc_is_within pm_is_within an_is_within cd_is_within ct_is_within), sl_is_within⟩)
    (c_is_within : PySem.W.codeIn K cd_is_within "is_within" = true)
    (k_is_within : PySem.W.keepIn K (.ref f_is_within) = true)
    (a_inside_by : PySem.W.nsIn K mainGlobals "inside_by" = some (some (.ref f_inside_by)))
    (l_inside_by : K.lookup f_inside_by = some ⟨oc_inside_by, od_inside_by, .func (PySem.W.fnOf "inside_by" "inside_by" (defArgs s_inside_by) (defBody s_inside_by) (defScope s_inside_by) .none kV_inside_by dc_inside_by pm_inside_by an_inside_by cd_inside_by ct_inside_by), sl_inside_by⟩)
    (c_inside_by : PySem.W.codeIn K cd_inside_by "inside_by" = true)
    (k_inside_by : PySem.W.keepIn K (.ref f_inside_by) = true)
    (a_rest_by : PySem.W.nsIn K mainGlobals "rest_by" = some (some (.ref f_rest_by)))
    (l_rest_by : K.lookup f_rest_by = some ⟨oc_rest_by, od_rest_by, .func (PySem.W.fnOf "rest_by" "rest_by" (defArgs s_rest_by) (defBody s_rest_by) (defScope s_rest_by) .none kV_rest_by dc_rest_by pm_rest_by an_rest_by cd_rest_by ct_rest_by), sl_rest_by⟩)
    (c_rest_by : PySem.W.codeIn K cd_rest_by "rest_by" = true)
    (k_rest_by : PySem.W.keepIn K (.ref f_rest_by) = true)
    (a_letter_by : PySem.W.nsIn K mainGlobals "letter_by" = some (some (.ref f_letter_by)))
    (l_letter_by : K.lookup f_letter_by = some ⟨oc_letter_by, od_letter_by, .func (PySem.W.fnOf "letter_by" "letter_by" (defArgs s_letter_by) (defBody s_letter_by) (defScope s_letter_by) .none kV_letter_by dc_letter_by pm_letter_by an_letter_by cd_letter_by ct_letter_by), sl_letter_by⟩)
    (c_letter_by : PySem.W.codeIn K cd_letter_by "letter_by" = true)
    (k_letter_by : PySem.W.keepIn K (.ref f_letter_by) = true)
    (a_done_by : PySem.W.nsIn K mainGlobals "done_by" = some (some (.ref f_done_by)))
    (l_done_by : K.lookup f_done_by = some ⟨oc_done_by, od_done_by, .func (PySem.W.fnOf "done_by" "done_by" (defArgs s_done_by) (defBody s_done_by) (defScope s_done_by) .none kV_done_by dc_done_by pm_done_by an_done_by cd_done_by ct_done_by), sl_done_by⟩)
    (c_done_by : PySem.W.codeIn K cd_done_by "done_by" = true)
    (k_done_by : PySem.W.keepIn K (.ref f_done_by) = true)
    (a_made_by_all : PySem.W.nsIn K mainGlobals "made_by_all" = some (some (.ref f_made_by_all)))
    (l_made_by_all : K.lookup f_made_by_all = some ⟨oc_made_by_all, od_made_by_all, .func (PySem.W.fnOf "made_by_all" "made_by_all" (defArgs s_made_by_all) (defBody s_made_by_all) (defScope s_made_by_all) .none kV_made_by_all dc_made_by_all pm_made_by_all an_made_by_all cd_made_by_all ct_made_by_all), sl_made_by_all⟩)
    (c_made_by_all : PySem.W.codeIn K cd_made_by_all "made_by_all" = true)
    (k_made_by_all : PySem.W.keepIn K (.ref f_made_by_all) = true)
    (a_plain_words : PySem.W.nsIn K mainGlobals "plain_words" = some (some (.ref f_plain_words)))
    (l_plain_words : K.lookup f_plain_words = some ⟨oc_plain_words, od_plain_words, .func (PySem.W.fnOf "plain_words" "plain_words" (defArgs s_plain_words) (defBody s_plain_words) (defScope s_plain_words) .none kV_plain_words dc_plain_words pm_plain_words an_plain_words cd_plain_words ct_plain_words), sl_plain_words⟩)
    (c_plain_words : PySem.W.codeIn K cd_plain_words "plain_words" = true)
    (k_plain_words : PySem.W.keepIn K (.ref f_plain_words) = true)
    (a_unlike_by : PySem.W.nsIn K mainGlobals "unlike_by" = some (some (.ref f_unlike_by)))
    (l_unlike_by : K.lookup f_unlike_by = some ⟨oc_unlike_by, od_unlike_by, .func (PySem.W.fnOf "unlike_by" "unlike_by" (defArgs s_unlike_by) (defBody s_unlike_by) (defScope s_unlike_by) .none kV_unlike_by dc_unlike_by pm_unlike_by an_unlike_by cd_unlike_by ct_unlike_by), sl_unlike_by⟩)
    (c_unlike_by : PySem.W.codeIn K cd_unlike_by "unlike_by" = true)
    (k_unlike_by : PySem.W.keepIn K (.ref f_unlike_by) = true)
    (a_Yard_words : PySem.W.findIn K (.ref C_Yard) "words" = some (some (.ref f_Yard_words)))
    (i_Yard_words : PySem.W.isFn K (.ref f_Yard_words) = true)
    (l_Yard_words : K.lookup f_Yard_words = some ⟨oc_Yard_words, od_Yard_words, .func (PySem.W.fnOf "words" "Yard.words" (defArgs s_Yard_words) (defBody s_Yard_words) (defScope s_Yard_words) .none kV_Yard_words dc_Yard_words pm_Yard_words an_Yard_words cd_Yard_words ct_Yard_words), sl_Yard_words⟩)
    (c_Yard_words : PySem.W.codeIn K cd_Yard_words "Yard.words" = true)
    (k_Yard_words : PySem.W.keepIn K (.ref f_Yard_words) = true)
    (a__law_alone : PySem.W.nsIn K mainGlobals "_law_alone" = some (some (.ref f__law_alone)))
    (l__law_alone : K.lookup f__law_alone = some ⟨oc__law_alone, od__law_alone, .func (PySem.W.fnOf "_law_alone" "_law_alone" (defArgs s__law_alone) (defBody s__law_alone) (defScope s__law_alone) .none kV__law_alone dc__law_alone pm__law_alone an__law_alone cd__law_alone ct__law_alone), sl__law_alone⟩)
    (c__law_alone : PySem.W.codeIn K cd__law_alone "_law_alone" = true)
    (k__law_alone : PySem.W.keepIn K (.ref f__law_alone) = true)
    (a__law_caught : PySem.W.nsIn K mainGlobals "_law_caught" = some (some (.ref f__law_caught)))
    (l__law_caught : K.lookup f__law_caught = some ⟨oc__law_caught, od__law_caught, .func (PySem.W.fnOf "_law_caught" "_law_caught" (defArgs s__law_caught) (defBody s__law_caught) (defScope s__law_caught) .none kV__law_caught dc__law_caught pm__law_caught an__law_caught cd__law_caught ct__law_caught), sl__law_caught⟩)
    (c__law_caught : PySem.W.codeIn K cd__law_caught "_law_caught" = true)
    (k__law_caught : PySem.W.keepIn K (.ref f__law_caught) = true)
    (a__law_take : PySem.W.nsIn K mainGlobals "_law_take" = some (some (.ref f__law_take)))
    (l__law_take : K.lookup f__law_take = some ⟨oc__law_take, od__law_take, .func (PySem.W.fnOf "_law_take" "_law_take" (defArgs s__law_take) (defBody s__law_take) (defScope s__law_take) .none kV__law_take dc__law_take pm__law_take an__law_take cd__law_take ct__law_take), sl__law_take⟩)
    (c__law_take : PySem.W.codeIn K cd__law_take "_law_take" = true)
    (k__law_take : PySem.W.keepIn K (.ref f__law_take) = true)
    (a__law_well : PySem.W.nsIn K mainGlobals "_law_well" = some (some (.ref f__law_well)))
    (l__law_well : K.lookup f__law_well = some ⟨oc__law_well, od__law_well, .func (PySem.W.fnOf "_law_well" "_law_well" (defArgs s__law_well) (defBody s__law_well) (defScope s__law_well) .none kV__law_well dc__law_well pm__law_well an__law_well cd__law_well ct__law_well), sl__law_well⟩)
    (c__law_well : PySem.W.codeIn K cd__law_well "_law_well" = true)
    (k__law_well : PySem.W.keepIn K (.ref f__law_well) = true)
    (a_is_row : PySem.W.nsIn K mainGlobals "is_row" = some (some (.ref f_is_row)))
    (l_is_row : K.lookup f_is_row = some ⟨oc_is_row, od_is_row, .func (PySem.W.fnOf "is_row" "is_row" (defArgs s_is_row) (defBody s_is_row) (defScope s_is_row) .none kV_is_row dc_is_row pm_is_row an_is_row cd_is_row ct_is_row), sl_is_row⟩)
    (c_is_row : PySem.W.codeIn K cd_is_row "is_row" = true)
    (k_is_row : PySem.W.keepIn K (.ref f_is_row) = true)
    (a_first_wrong : PySem.W.nsIn K mainGlobals "first_wrong" = some (some (.ref f_first_wrong)))
    (l_first_wrong : K.lookup f_first_wrong = some ⟨oc_first_wrong, od_first_wrong, .func (PySem.W.fnOf "first_wrong" "first_wrong" (defArgs s_first_wrong) (defBody s_first_wrong) (defScope s_first_wrong) .none kV_first_wrong dc_first_wrong pm_first_wrong an_first_wrong cd_first_wrong ct_first_wrong), sl_first_wrong⟩)
    (c_first_wrong : PySem.W.codeIn K cd_first_wrong "first_wrong" = true)
    (k_first_wrong : PySem.W.keepIn K (.ref f_first_wrong) = true)
    (a_is_closed_up : PySem.W.nsIn K mainGlobals "is_closed_up" = some (some (.ref f_is_closed_up)))
    (l_is_closed_up : K.lookup f_is_closed_up = some ⟨oc_is_closed_up, od_is_closed_up, .func (PySem.W.fnOf "is_closed_up" "is_closed_up" (defArgs s_is_closed_up) (defBody s_is_closed_up) (defScope s_is_closed_up) .none kV_is_closed_up dc_is_closed_up pm_is_closed_up an_is_closed_up cd_is_closed_up ct_is_closed_up), sl_is_closed_up⟩)
    (c_is_closed_up : PySem.W.codeIn K cd_is_closed_up "is_closed_up" = true)
    (k_is_closed_up : PySem.W.keepIn K (.ref f_is_closed_up) = true)
    (a_is_lot_of : PySem.W.nsIn K mainGlobals "is_lot_of" = some (some (.ref f_is_lot_of)))
    (l_is_lot_of : K.lookup f_is_lot_of = some ⟨oc_is_lot_of, od_is_lot_of, .func (PySem.W.fnOf "is_lot_of" "is_lot_of" (defArgs s_is_lot_of) (defBody s_is_lot_of) (defScope s_is_lot_of) .none kV_is_lot_of dc_is_lot_of pm_is_lot_of an_is_lot_of cd_is_lot_of ct_is_lot_of), sl_is_lot_of⟩)
    (c_is_lot_of : PySem.W.codeIn K cd_is_lot_of "is_lot_of" = true)
    (k_is_lot_of : PySem.W.keepIn K (.ref f_is_lot_of) = true)
    (a_is_reach_of : PySem.W.nsIn K mainGlobals "is_reach_of" = some (some (.ref f_is_reach_of)))
    (l_is_reach_of : K.lookup f_is_reach_of = some ⟨oc_is_reach_of, od_is_reach_of, .func (PySem.W.fnOf "is_reach_of" "is_reach_of" (defArgs s_is_reach_of) (defBody s_is_reach_of) (defScope s_is_reach_of) .none kV_is_reach_of dc_is_reach_of pm_is_reach_of an_is_reach_of cd_is_reach_of ct_is_reach_of), sl_is_reach_of⟩)
    (c_is_reach_of : PySem.W.codeIn K cd_is_reach_of "is_reach_of" = true)
    (k_is_reach_of : PySem.W.keepIn K (.ref f_is_reach_of) = true)
    (a_wrong_reach : PySem.W.nsIn K mainGlobals "wrong_reach" = some (some (.ref f_wrong_reach)))
    (l_wrong_reach : K.lookup f_wrong_reach = some ⟨oc_wrong_reach, od_wrong_reach, .func (PySem.W.fnOf "wrong_reach" "wrong_reach" (defArgs s_wrong_reach) (defBody s_wrong_reach) (defScope s_wrong_reach) .none kV_wrong_reach dc_wrong_reach pm_wrong_reach an_wrong_reach (.ref cc_wrong_reach) ct_wrong_reach), sl_wrong_reach⟩)
    (c_wrong_reach : PySem.W.codeIn K (.ref cc_wrong_reach) "wrong_reach" = true)
    (k_wrong_reach : PySem.W.keepIn K (.ref f_wrong_reach) = true)
    (a_check_space : PySem.W.nsIn K mainGlobals "check_space" = some (some (.ref f_check_space)))
    (l_check_space : K.lookup f_check_space = some ⟨oc_check_space, od_check_space, .func (PySem.W.fnOf "check_space" "check_space" (defArgs s_check_space) (defBody s_check_space) (defScope s_check_space) .none kV_check_space dc_check_space pm_check_space an_check_space cd_check_space ct_check_space), sl_check_space⟩)
    (c_check_space : PySem.W.codeIn K cd_check_space "check_space" = true)
    (k_check_space : PySem.W.keepIn K (.ref f_check_space) = true)
    (a_is_open_by : PySem.W.nsIn K mainGlobals "is_open_by" = some (some (.ref f_is_open_by)))
    (l_is_open_by : K.lookup f_is_open_by = some ⟨oc_is_open_by, od_is_open_by, .func (PySem.W.fnOf "is_open_by" "is_open_by" (defArgs s_is_open_by) (defBody s_is_open_by) (defScope s_is_open_by) .none kV_is_open_by dc_is_open_by pm_is_open_by an_is_open_by cd_is_open_by ct_is_open_by), sl_is_open_by⟩)
    (c_is_open_by : PySem.W.codeIn K cd_is_open_by "is_open_by" = true)
    (k_is_open_by : PySem.W.keepIn K (.ref f_is_open_by) = true)
    (a_open_lots_by : PySem.W.nsIn K mainGlobals "open_lots_by" = some (some (.ref f_open_lots_by)))
    (l_open_lots_by : K.lookup f_open_lots_by = some ⟨oc_open_lots_by, od_open_lots_by, .func (PySem.W.fnOf "open_lots_by" "open_lots_by" (defArgs s_open_lots_by) (defBody s_open_lots_by) (defScope s_open_lots_by) .none kV_open_lots_by dc_open_lots_by pm_open_lots_by an_open_lots_by cd_open_lots_by ct_open_lots_by), sl_open_lots_by⟩)
    (c_open_lots_by : PySem.W.codeIn K cd_open_lots_by "open_lots_by" = true)
    (k_open_lots_by : PySem.W.keepIn K (.ref f_open_lots_by) = true)
    (a_open_lots : PySem.W.nsIn K mainGlobals "open_lots" = some (some (.ref f_open_lots)))
    (l_open_lots : K.lookup f_open_lots = some ⟨oc_open_lots, od_open_lots, .func (PySem.W.fnOf "open_lots" "open_lots" (defArgs s_open_lots) (defBody s_open_lots) (defScope s_open_lots) .none kV_open_lots dc_open_lots pm_open_lots an_open_lots cd_open_lots ct_open_lots), sl_open_lots⟩)
    (c_open_lots : PySem.W.codeIn K cd_open_lots "open_lots" = true)
    (k_open_lots : PySem.W.keepIn K (.ref f_open_lots) = true)
    (a_law : PySem.W.nsIn K mainGlobals "law" = some (some (.ref f_law)))
    (l_law : K.lookup f_law = some ⟨oc_law, od_law, .func (PySem.W.fnOf "law" "law" (defArgs s_law) (defBody s_law) (defScope s_law) .none kV_law dc_law pm_law an_law (.ref cc_law) ct_law), sl_law⟩)
    (c_law : PySem.W.codeIn K (.ref cc_law) "law" = true)
    (k_law : PySem.W.keepIn K (.ref f_law) = true)
    (tl_wrong_reach : K.lookup cc_wrong_reach = some ⟨to_wrong_reach, td_wrong_reach, .fields tv_wrong_reach, ts_wrong_reach⟩)
    (tv_wrong_reach : (tv_wrong_reach[11]? : Option Value) = some (.ref TT_wrong_reach))
    (nl_wrong_reach : K.lookup TT_wrong_reach = none)
    (tl_law : K.lookup cc_law = some ⟨to_law, td_law, .fields tv_law, ts_law⟩)
    (tv_law : (tv_law[11]? : Option Value) = some (.ref TT_law))
    (nl_law : K.lookup TT_law = none)
    (ne_wrong_reach_law : TT_wrong_reach ≠ TT_law)
    (pg_Yard : PySem.W.plainGet K C_Yard Str.empty = true)
    (hd_Yard : PySem.W.hasDictIn K C_Yard = true)
    (po_Yard : PySem.W.plainOver K C_Yard = true)
    (sa_Yard : PySem.W.findIn K (.ref C_Yard) "__setattr__" = some (some (.builtin "object.__setattr__")))
    (mk_Yard : PySem.W.makesIn K C_Yard = true)
    (kc_Yard : PySem.W.keepIn K (.ref C_Yard) = true)
    (ne_Yard : PySem.W.findIn K (.ref C_Yard) "__ne__" = some (some (.builtin "object.__ne__")))
    (so_Yard : PySem.W.subIn K (.ref C_Yard) (.type "object") = some true)
    (nf_Yard_deeds : PySem.W.findIn K (.ref C_Yard) "deeds" = some none)
    (nf_Yard_past : PySem.W.findIn K (.ref C_Yard) "past" = some none)
    (nf_Yard_places : PySem.W.findIn K (.ref C_Yard) "places" = some none)
    (nf_Yard_space : PySem.W.findIn K (.ref C_Yard) "space" = some none)
    (eC_NearError : PySem.W.subIn K (.ref C_NearError) (.type "BaseException") = some true)
    (tC_NearError : PySem.W.typeIn K (.ref C_NearError) = some (.type "type"))
    (hC_NearError : PySem.W.hasDictIn K C_NearError = true)
    (eC_InvalidNumber : PySem.W.subIn K (.ref C_InvalidNumber) (.type "BaseException") = some true)
    (tC_InvalidNumber : PySem.W.typeIn K (.ref C_InvalidNumber) = some (.type "type"))
    (hC_InvalidNumber : PySem.W.hasDictIn K C_InvalidNumber = true)
    (eC_InvalidSpace : PySem.W.subIn K (.ref C_InvalidSpace) (.type "BaseException") = some true)
    (tC_InvalidSpace : PySem.W.typeIn K (.ref C_InvalidSpace) = some (.type "type"))
    (hC_InvalidSpace : PySem.W.hasDictIn K C_InvalidSpace = true)
    (xl_InvalidNumber : K.lookup C_InvalidNumber = some (excClassObj nm_InvalidNumber q_InvalidNumber C_InvalidNumber N_InvalidNumber bs_InvalidNumber bm_InvalidNumber true sn_InvalidNumber sub_InvalidNumber ab_InvalidNumber col_InvalidNumber dd_InvalidNumber m0_InvalidNumber m1_InvalidNumber m2_InvalidNumber m3_InvalidNumber m5_InvalidNumber "ValueError.__new__"))
    (xr_InvalidNumber : PySem.HandSPX.refsVE bm_InvalidNumber = true)
    (xs_InvalidNumber : PySem.W.findIn K (.ref C_InvalidNumber) "__setattr__" = some (some (.builtin "object.__setattr__")))
    (xn_InvalidNumber : PySem.W.findIn K (.ref C_InvalidNumber) "given" = some none)
    (a_InvalidNumber_init : PySem.W.findIn K (.ref C_InvalidNumber) "__init__" = some (some (.ref f_InvalidNumber_init)))
    (i_InvalidNumber_init : PySem.W.isFn K (.ref f_InvalidNumber_init) = true)
    (l_InvalidNumber_init : K.lookup f_InvalidNumber_init = some ⟨oc_InvalidNumber_init, od_InvalidNumber_init, .func (PySem.W.fnOf "__init__" "InvalidNumber.__init__" (defArgs s_InvalidNumber_init) (defBody s_InvalidNumber_init) (defScope s_InvalidNumber_init) .none kV_InvalidNumber_init dc_InvalidNumber_init pm_InvalidNumber_init an_InvalidNumber_init cd_InvalidNumber_init ct_InvalidNumber_init), sl_InvalidNumber_init⟩)
    (c_InvalidNumber_init : PySem.W.codeIn K cd_InvalidNumber_init "InvalidNumber.__init__" = true)
    (k_InvalidNumber_init : PySem.W.keepIn K (.ref f_InvalidNumber_init) = true)
    (xt_InvalidNumber : PySem.W.typeIn K (.ref f_InvalidNumber_init) = some (.type "function"))
    (xk_InvalidNumber : PySem.W.keepIn K (.ref C_InvalidNumber) = true)
    (xl_InvalidSpace : K.lookup C_InvalidSpace = some (excClassObj nm_InvalidSpace q_InvalidSpace C_InvalidSpace N_InvalidSpace bs_InvalidSpace bm_InvalidSpace true sn_InvalidSpace sub_InvalidSpace ab_InvalidSpace col_InvalidSpace dd_InvalidSpace m0_InvalidSpace m1_InvalidSpace m2_InvalidSpace m3_InvalidSpace m5_InvalidSpace "ValueError.__new__"))
    (xr_InvalidSpace : PySem.HandSPX.refsVE bm_InvalidSpace = true)
    (xs_InvalidSpace : PySem.W.findIn K (.ref C_InvalidSpace) "__setattr__" = some (some (.builtin "object.__setattr__")))
    (xn_InvalidSpace : PySem.W.findIn K (.ref C_InvalidSpace) "index" = some none)
    (a_InvalidSpace_init : PySem.W.findIn K (.ref C_InvalidSpace) "__init__" = some (some (.ref f_InvalidSpace_init)))
    (i_InvalidSpace_init : PySem.W.isFn K (.ref f_InvalidSpace_init) = true)
    (l_InvalidSpace_init : K.lookup f_InvalidSpace_init = some ⟨oc_InvalidSpace_init, od_InvalidSpace_init, .func (PySem.W.fnOf "__init__" "InvalidSpace.__init__" (defArgs s_InvalidSpace_init) (defBody s_InvalidSpace_init) (defScope s_InvalidSpace_init) .none kV_InvalidSpace_init dc_InvalidSpace_init pm_InvalidSpace_init an_InvalidSpace_init cd_InvalidSpace_init ct_InvalidSpace_init), sl_InvalidSpace_init⟩)
    (c_InvalidSpace_init : PySem.W.codeIn K cd_InvalidSpace_init "InvalidSpace.__init__" = true)
    (k_InvalidSpace_init : PySem.W.keepIn K (.ref f_InvalidSpace_init) = true)
    (xt_InvalidSpace : PySem.W.typeIn K (.ref f_InvalidSpace_init) = some (.type "function"))
    (xk_InvalidSpace : PySem.W.keepIn K (.ref C_InvalidSpace) = true)
    (xcn : PySem.W.specialIn K (.builtin "object.__class__") "__get__" = some (some (.builtin "getset_descriptor.__get__")))
    (xct : PySem.W.takesIn K (.builtin "object.__class__") = some true)
    (ga_InvalidNumber : PySem.W.findIn K (.ref C_InvalidNumber) "__getattribute__" = some (some (.builtin "BaseException.__getattribute__")))
    (gg_InvalidNumber : PySem.W.findIn K (.ref C_InvalidNumber) "__getattr__" = some none)
    (gc_InvalidNumber : PySem.W.findIn K (.ref C_InvalidNumber) "__class__" = some (some (.builtin "object.__class__")))
    (gm_InvalidNumber : PySem.W.mroIn K C_InvalidNumber (.type "object") = some true)
    (ga_InvalidSpace : PySem.W.findIn K (.ref C_InvalidSpace) "__getattribute__" = some (some (.builtin "BaseException.__getattribute__")))
    (gg_InvalidSpace : PySem.W.findIn K (.ref C_InvalidSpace) "__getattr__" = some none)
    (gc_InvalidSpace : PySem.W.findIn K (.ref C_InvalidSpace) "__class__" = some (some (.builtin "object.__class__")))
    (gm_InvalidSpace : PySem.W.mroIn K C_InvalidSpace (.type "object") = some true)
    (ga_NearError : PySem.W.findIn K (.ref C_NearError) "__getattribute__" = some (some (.builtin "BaseException.__getattribute__")))
    (gg_NearError : PySem.W.findIn K (.ref C_NearError) "__getattr__" = some none)
    (gc_NearError : PySem.W.findIn K (.ref C_NearError) "__class__" = some (some (.builtin "object.__class__")))
    (gm_NearError : PySem.W.mroIn K C_NearError (.type "object") = some true)
    (su_NearError_NearError : PySem.W.subIn K (.ref C_NearError) (.ref C_NearError) = some true)
    (su_InvalidNumber_NearError : PySem.W.subIn K (.ref C_InvalidNumber) (.ref C_NearError) = some true)
    (su_InvalidSpace_NearError : PySem.W.subIn K (.ref C_InvalidSpace) (.ref C_NearError) = some true)
    (no_NearError_given : PySem.W.findIn K (.ref C_NearError) "given" = some none)
    (no_InvalidSpace_given : PySem.W.findIn K (.ref C_InvalidSpace) "given" = some none)
    (su_InvalidNumber_InvalidNumber : PySem.W.subIn K (.ref C_InvalidNumber) (.ref C_InvalidNumber) = some true)
    (su_NearError_InvalidNumber : PySem.W.subIn K (.ref C_NearError) (.ref C_InvalidNumber) = some false)
    (su_InvalidSpace_InvalidNumber : PySem.W.subIn K (.ref C_InvalidSpace) (.ref C_InvalidNumber) = some false)
    (su_NearError_ValueError : PySem.W.subIn K (.ref C_NearError) (.type "ValueError") = some true)
    (su_InvalidNumber_ValueError : PySem.W.subIn K (.ref C_InvalidNumber) (.type "ValueError") = some true)
    (su_InvalidSpace_ValueError : PySem.W.subIn K (.ref C_InvalidSpace) (.type "ValueError") = some true)
    (is_Yard_non : PySem.W.subIn K (.type "NoneType") (.ref C_Yard) = some false)
    (is_Yard_bl : PySem.W.subIn K (.type "bool") (.ref C_Yard) = some false)
    (is_Yard_int : PySem.W.subIn K (.type "int") (.ref C_Yard) = some false)
    (is_Yard_str : PySem.W.subIn K (.type "str") (.ref C_Yard) = some false)
    (is_Yard_tup : PySem.W.subIn K (.type "tuple") (.ref C_Yard) = some false)
    (is_Yard_lst : PySem.W.subIn K (.type "list") (.ref C_Yard) = some false)
    (it_Yard : PySem.W.typeIn K (.ref C_Yard) = some (.type "type"))
    (ix_Yard : PySem.W.subIn K (.ref C_Yard) (.ref C_Yard) = some true)
    (ja_Yard : PySem.W.findIn K (.ref C_Yard) "__class__" = some (some (.builtin "object.__class__")))
    (jm_Yard : PySem.W.mroIn K C_Yard (.type "object") = some true)
    : ∃ (fd : FuncData) (cs : List (Addr × Addr)), cs.length = 2 ∧ (∀ (i : Nat) (x : Str) (p : Addr × Addr), (["wrong_reach", "law"] : List Str)[i]? = some x → cs[i]? = some p → PySem.W.tabIn K x = some p) ∧ (∀ T ∈ cs.map (·.2), K.lookup T = none) ∧ (cs.map (·.2)).Nodup ∧ (∀ (s : Shared) (v : Value), BindsTo s fd ⟨[v], []⟩ [("script", v)]) ∧ ∀ base : Heap, K.In base → base.Ns mainGlobals mg → (∀ p ∈ cs, LamX.TabB base mg p.1 p.2) → FnG P w K mg base 10 fa fd ["script"] (fun vs H Q E => ∀ G : Gc, G.K = K → G.W0 = ⟨[], fun _ => none⟩ → (∀ (k : Nat) (T : Addr), (cs.map (·.2))[k]? = some T → G.tab k = T) → spM G 1 m_law vs H Q E) := by
  have e := hfa.symm.trans (PySem.W.mg_of X Gh a_law)
  cases e
  obtain ⟨G, hK, hGw, hxf, hW0, htab, htq, h_NearError, h_InvalidNumber, h_InvalidSpace, h_Yard⟩ : ∃ G : Gc, G.K = K ∧ G.w = w ∧ G.xf = xfOf ∧ G.W0 = ⟨[], fun _ => none⟩ ∧ (∀ (k : Nat) (T : Addr), ([TT_wrong_reach, TT_law] : List Addr)[k]? = some T → G.tab k = T) ∧ (∀ k : Nat, G.tq k = ([(("wrong_reach" ++ ".<locals>.") ++ "<lambda>"), (("law" ++ ".<locals>.") ++ "<lambda>")] : List Str).getD k "") ∧ G.cls "NearError" = C_NearError ∧ G.cls "InvalidNumber" = C_InvalidNumber ∧ G.cls "InvalidSpace" = C_InvalidSpace ∧ G.cls "Yard" = C_Yard := ⟨{ P := P, w := w, K := K, cls := fun x => (([("NearError", C_NearError), ("InvalidNumber", C_InvalidNumber), ("InvalidSpace", C_InvalidSpace), ("Yard", C_Yard)] : List (Str × Addr)).lookup x).getD 0, xf := xfOf, tab := fun k => ([TT_wrong_reach, TT_law] : List Addr).getD k 0, tq := fun k => ([(("wrong_reach" ++ ".<locals>.") ++ "<lambda>"), (("law" ++ ".<locals>.") ++ "<lambda>")] : List Str).getD k "" }, rfl, rfl, rfl, rfl, (fun k T e => by show List.getD _ k 0 = T; rw [List.getD_eq_getElem?_getD, e]; rfl), fun _ => rfl, by rfl, by rfl, by rfl, by rfl⟩
  subst hK
  subst h_NearError
  subst h_InvalidNumber
  subst h_InvalidSpace
  subst h_Yard
  have F_Yard_eq := fun_mk (st := s_Yard_eq) l_Yard_eq c_Yard_eq k_Yard_eq
  have B_Yard_eq := F_Yard_eq.binds (ps := ["self", "other"]) fun _ _ _ _ _ _ us hl => match us, hl with | [_, _], _ => rfl
  have F_is_whole := fun_mk (st := s_is_whole) l_is_whole c_is_whole k_is_whole
  have B_is_whole := F_is_whole.binds (ps := ["value"]) fun _ _ _ _ _ _ us hl => match us, hl with | [_], _ => rfl
  have F_is_between := fun_mk (st := s_is_between) l_is_between c_is_between k_is_between
  have B_is_between := F_is_between.binds (ps := ["value", "least", "most"]) fun _ _ _ _ _ _ us hl => match us, hl with | [_, _, _], _ => rfl
  have F_single_space := fun_mk (st := s_single_space) l_single_space c_single_space k_single_space
  have B_single_space := F_single_space.binds (ps := ["places"]) fun _ _ _ _ _ _ us hl => match us, hl with | [_], _ => rfl
  have F_Yard_init := fun_mk (st := s_Yard_init) l_Yard_init c_Yard_init k_Yard_init
  have B_Yard_init := F_Yard_init.binds (ps := ["self", "places"]) fun _ _ _ _ _ _ us hl => match us, hl with | [_, _], _ => rfl
  have F_is_near_by := fun_mk (st := s_is_near_by) l_is_near_by c_is_near_by k_is_near_by
  have B_is_near_by := F_is_near_by.binds (ps := ["space", "place", "near_to"]) fun _ _ _ _ _ _ us hl => match us, hl with | [_, _, _], _ => rfl
  have F_are_tied := fun_mk (st := s_are_tied) l_are_tied c_are_tied k_are_tied
  have B_are_tied := F_are_tied.binds (ps := ["space", "one", "other"]) fun _ _ _ _ _ _ us hl => match us, hl with | [_, _, _], _ => rfl
  have F_places_of := fun_mk (st := s_places_of) l_places_of c_places_of k_places_of
  have B_places_of := F_places_of.binds (ps := ["space"]) fun _ _ _ _ _ _ us hl => match us, hl with | [_], _ => rfl
  have F_held_with := fun_mk (st := s_held_with) l_held_with c_held_with k_held_with
  have B_held_with := F_held_with.binds (ps := ["space", "place"]) fun _ _ _ _ _ _ us hl => match us, hl with | [_, _], _ => rfl
  have F_parts_by := fun_mk (st := s_parts_by) l_parts_by c_parts_by k_parts_by
  have B_parts_by := F_parts_by.binds (ps := ["space"]) fun _ _ _ _ _ _ us hl => match us, hl with | [_], _ => rfl
  have F_Yard_parts := fun_mk (st := s_Yard_parts) l_Yard_parts c_Yard_parts k_Yard_parts
  have B_Yard_parts := F_Yard_parts.binds (ps := ["self"]) fun _ _ _ _ _ _ us hl => match us, hl with | [_], _ => rfl
  have F_all_lots := fun_mk (st := s_all_lots) l_all_lots c_all_lots k_all_lots
  have B_all_lots := F_all_lots.binds (ps := ["places"]) fun _ _ _ _ _ _ us hl => match us, hl with | [_], _ => rfl
  have F_common_of := fun_mk (st := s_common_of) l_common_of c_common_of k_common_of
  have B_common_of := F_common_of.binds (ps := ["lot", "other"]) fun _ _ _ _ _ _ us hl => match us, hl with | [_, _], _ => rfl
  have F_closing_by := fun_mk (st := s_closing_by) l_closing_by c_closing_by k_closing_by
  have B_closing_by := F_closing_by.binds (ps := ["space", "lot"]) fun _ _ _ _ _ _ us hl => match us, hl with | [_, _], _ => rfl
  have F_is_within := fun_mk (st := s_is_within) l_is_within c_is_within k_is_within
  have B_is_within := F_is_within.binds (ps := ["lot", "other"]) fun _ _ _ _ _ _ us hl => match us, hl with | [_, _], _ => rfl
  have F_inside_by := fun_mk (st := s_inside_by) l_inside_by c_inside_by k_inside_by
  have B_inside_by := F_inside_by.binds (ps := ["space", "lot"]) fun _ _ _ _ _ _ us hl => match us, hl with | [_, _], _ => rfl
  have F_rest_by := fun_mk (st := s_rest_by) l_rest_by c_rest_by k_rest_by
  have B_rest_by := F_rest_by.binds (ps := ["space", "lot"]) fun _ _ _ _ _ _ us hl => match us, hl with | [_, _], _ => rfl
  have F_letter_by := fun_mk (st := s_letter_by) l_letter_by c_letter_by k_letter_by
  have B_letter_by := F_letter_by.binds (ps := ["space", "letter", "lot"]) fun _ _ _ _ _ _ us hl => match us, hl with | [_, _, _], _ => rfl
  have F_done_by := fun_mk (st := s_done_by) l_done_by c_done_by k_done_by
  have B_done_by := F_done_by.binds (ps := ["space", "word", "lot"]) fun _ _ _ _ _ _ us hl => match us, hl with | [_, _, _], _ => rfl
  have F_made_by_all := fun_mk (st := s_made_by_all) l_made_by_all c_made_by_all k_made_by_all
  have B_made_by_all := F_made_by_all.binds (ps := ["space", "word"]) fun _ _ _ _ _ _ us hl => match us, hl with | [_, _], _ => rfl
  have F_plain_words := fun_mk (st := s_plain_words) l_plain_words c_plain_words k_plain_words
  have B_plain_words := F_plain_words.binds (ps := []) fun _ _ _ _ _ _ us hl => match us, hl with | [], _ => rfl
  have F_unlike_by := fun_mk (st := s_unlike_by) l_unlike_by c_unlike_by k_unlike_by
  have B_unlike_by := F_unlike_by.binds (ps := ["space"]) fun _ _ _ _ _ _ us hl => match us, hl with | [_], _ => rfl
  have F_Yard_words := fun_mk (st := s_Yard_words) l_Yard_words c_Yard_words k_Yard_words
  have B_Yard_words := F_Yard_words.binds (ps := ["self"]) fun _ _ _ _ _ _ us hl => match us, hl with | [_], _ => rfl
  have F__law_alone := fun_mk (st := s__law_alone) l__law_alone c__law_alone k__law_alone
  have B__law_alone := F__law_alone.binds (ps := ["many"]) fun _ _ _ _ _ _ us hl => match us, hl with | [_], _ => rfl
  have F__law_caught := fun_mk (st := s__law_caught) l__law_caught c__law_caught k__law_caught
  have B__law_caught := F__law_caught.binds (ps := ["act"]) fun _ _ _ _ _ _ us hl => match us, hl with | [_], _ => rfl
  have F__law_take := fun_mk (st := s__law_take) l__law_take c__law_take k__law_take
  have B__law_take := F__law_take.binds (ps := ["well", "many"]) fun _ _ _ _ _ _ us hl => match us, hl with | [_, _], _ => rfl
  have F__law_well := fun_mk (st := s__law_well) l__law_well c__law_well k__law_well
  have B__law_well := F__law_well.binds (ps := ["script", "lap"]) fun _ _ _ _ _ _ us hl => match us, hl with | [_, _], _ => rfl
  have F_is_row := fun_mk (st := s_is_row) l_is_row c_is_row k_is_row
  have B_is_row := F_is_row.binds (ps := ["value", "least", "most"]) fun _ _ _ _ _ _ us hl => match us, hl with | [_, _, _], _ => rfl
  have F_first_wrong := fun_mk (st := s_first_wrong) l_first_wrong c_first_wrong k_first_wrong
  have B_first_wrong := F_first_wrong.binds (ps := ["value", "is_right"]) fun _ _ _ _ _ _ us hl => match us, hl with | [_, _], _ => rfl
  have F_is_closed_up := fun_mk (st := s_is_closed_up) l_is_closed_up c_is_closed_up k_is_closed_up
  have B_is_closed_up := F_is_closed_up.binds (ps := ["reaches", "reach"]) fun _ _ _ _ _ _ us hl => match us, hl with | [_, _], _ => rfl
  have F_is_lot_of := fun_mk (st := s_is_lot_of) l_is_lot_of c_is_lot_of k_is_lot_of
  have B_is_lot_of := F_is_lot_of.binds (ps := ["places", "value"]) fun _ _ _ _ _ _ us hl => match us, hl with | [_, _], _ => rfl
  have F_is_reach_of := fun_mk (st := s_is_reach_of) l_is_reach_of c_is_reach_of k_is_reach_of
  have B_is_reach_of := F_is_reach_of.binds (ps := ["places", "place", "value"]) fun _ _ _ _ _ _ us hl => match us, hl with | [_, _, _], _ => rfl
  have F_wrong_reach := fun_mk (st := s_wrong_reach) l_wrong_reach c_wrong_reach k_wrong_reach
  have B_wrong_reach := F_wrong_reach.binds (ps := ["value"]) fun _ _ _ _ _ _ us hl => match us, hl with | [_], _ => rfl
  have F_check_space := fun_mk (st := s_check_space) l_check_space c_check_space k_check_space
  have B_check_space := F_check_space.binds (ps := ["value"]) fun _ _ _ _ _ _ us hl => match us, hl with | [_], _ => rfl
  have F_is_open_by := fun_mk (st := s_is_open_by) l_is_open_by c_is_open_by k_is_open_by
  have B_is_open_by := F_is_open_by.binds (ps := ["space", "lot"]) fun _ _ _ _ _ _ us hl => match us, hl with | [_, _], _ => rfl
  have F_open_lots_by := fun_mk (st := s_open_lots_by) l_open_lots_by c_open_lots_by k_open_lots_by
  have B_open_lots_by := F_open_lots_by.binds (ps := ["space"]) fun _ _ _ _ _ _ us hl => match us, hl with | [_], _ => rfl
  have F_open_lots := fun_mk (st := s_open_lots) l_open_lots c_open_lots k_open_lots
  have B_open_lots := F_open_lots.binds (ps := ["space"]) fun _ _ _ _ _ _ us hl => match us, hl with | [_], _ => rfl
  have F_law := fun_mk (st := s_law) l_law c_law k_law
  have B_law := F_law.binds (ps := ["script"]) fun _ _ _ _ _ _ us hl => match us, hl with | [_], _ => rfl
  have F_InvalidNumber_init := fun_mk (st := s_InvalidNumber_init) l_InvalidNumber_init c_InvalidNumber_init k_InvalidNumber_init
  have B_InvalidNumber_init := F_InvalidNumber_init.binds (ps := ["self", "given"]) fun _ _ _ _ _ _ us hl => match us, hl with | [_, _], _ => rfl
  have F_InvalidSpace_init := fun_mk (st := s_InvalidSpace_init) l_InvalidSpace_init c_InvalidSpace_init k_InvalidSpace_init
  have B_InvalidSpace_init := F_InvalidSpace_init.binds (ps := ["self", "index"]) fun _ _ _ _ _ _ us hl => match us, hl with | [_, _], _ => rfl
  refine ⟨PySem.W.fnOf "law" "law" (defArgs s_law) (defBody s_law) (defScope s_law) .none kV_law dc_law pm_law an_law (.ref cc_law) ct_law, [(cc_wrong_reach, TT_wrong_reach), (cc_law, TT_law)], rfl, (fun i x p e1 e2 => ?_), ?_, ?_, fun s v => .of_eq rfl, fun base _ _ TBs => ?_⟩
  · match i, e1, e2 with
    | 0, e1, e2 => cases e1; cases e2; exact tab_mk a_wrong_reach l_wrong_reach rfl tl_wrong_reach tv_wrong_reach
    | 1, e1, e2 => cases e1; cases e2; exact tab_mk a_law l_law rfl tl_law tv_law
    | i + 2, e1, _ => exact absurd e1 (by simp)
  · intro T hT
    simp only [List.map_cons, List.map_nil, List.mem_cons, List.not_mem_nil, or_false] at hT
    rcases hT with rfl | rfl
    · exact nl_wrong_reach
    · exact nl_law
  · simp only [List.map_cons, List.map_nil, List.nodup_cons, List.mem_cons, List.not_mem_nil, or_false, not_or, not_false_eq_true, List.nodup_nil, and_true, true_and, and_self]
    exact ne_wrong_reach_law
  have TA : ∀ B : Wd, Txt P w mg base (G.at B) := fun B => {
    b_all := PySem.W.mg_none_of X Gh z_all,
    b_repr := PySem.W.mg_none_of X Gh z_repr,
    b_int := PySem.W.mg_none_of X Gh z_int,
    b_zip := PySem.W.mg_none_of X Gh z_zip,
    b_isinstance := PySem.W.mg_none_of X Gh z_isinstance,
    b_sorted := PySem.W.mg_none_of X Gh z_sorted,
    b_divmod := PySem.W.mg_none_of X Gh z_divmod,
    b_len := PySem.W.mg_none_of X Gh z_len,
    b_tuple := PySem.W.mg_none_of X Gh z_tuple,
    b_abs := PySem.W.mg_none_of X Gh z_abs,
    b_ValueError := PySem.W.mg_none_of X Gh z_ValueError,
    b_range := PySem.W.mg_none_of X Gh z_range,
    b_set := PySem.W.mg_none_of X Gh z_set,
    b_list := PySem.W.mg_none_of X Gh z_list,
    b_bool := PySem.W.mg_none_of X Gh z_bool,
    b_enumerate := PySem.W.mg_none_of X Gh z_enumerate,
    im_combinations := PySem.W.mg_of X Gh im_combinations,
    hw := hGw,
    g_MOST_PLACES := ⟨_, PySem.W.mg_of X Gh g_MOST_PLACES⟩,
    g_BARE := ⟨D_BARE, _, its_BARE, nn_BARE, PySem.W.mg_of X Gh g_BARE, gl_BARE, gc_BARE, rfl, gz_BARE, gv_BARE⟩,
    x_InvalidNumber := ⟨⟨⟨_, _, _, _, _, _, _, _, _, _, _, _, _, _, _, xl_InvalidNumber, xr_InvalidNumber⟩, xs_InvalidNumber, eC_InvalidNumber, tC_InvalidNumber, xk_InvalidNumber⟩, xn_InvalidNumber, ⟨_, _, _, a_InvalidNumber_init, xt_InvalidNumber, ok_InvalidNumber_init F_InvalidNumber_init, B_InvalidNumber_init⟩, PySem.W.mg_of X Gh aC_InvalidNumber, (congrFun hxf _).trans (by decide +kernel)⟩,
    x_InvalidSpace := ⟨⟨⟨_, _, _, _, _, _, _, _, _, _, _, _, _, _, _, xl_InvalidSpace, xr_InvalidSpace⟩, xs_InvalidSpace, eC_InvalidSpace, tC_InvalidSpace, xk_InvalidSpace⟩, xn_InvalidSpace, ⟨_, _, _, a_InvalidSpace_init, xt_InvalidSpace, ok_InvalidSpace_init F_InvalidSpace_init, B_InvalidSpace_init⟩, PySem.W.mg_of X Gh aC_InvalidSpace, (congrFun hxf _).trans (by decide +kernel)⟩,
    f_Yard_deeds := ⟨⟨pg_Yard, hd_Yard, po_Yard, sa_Yard⟩, nf_Yard_deeds⟩,
    f_Yard_past := ⟨⟨pg_Yard, hd_Yard, po_Yard, sa_Yard⟩, nf_Yard_past⟩,
    f_Yard_places := ⟨⟨pg_Yard, hd_Yard, po_Yard, sa_Yard⟩, nf_Yard_places⟩,
    f_Yard_space := ⟨⟨pg_Yard, hd_Yard, po_Yard, sa_Yard⟩, nf_Yard_space⟩,
    nm_InvalidNumber := PySem.W.mg_of X Gh aC_InvalidNumber,
    nm_Yard := PySem.W.mg_of X Gh aC_Yard,
    nm_NearError := PySem.W.mg_of X Gh aC_NearError,
    qm_NearError := matOf_ok (R := fun c b => PySem.W.exmOne (G.at B).K (.ref ((G.at B).cls c)) (.ref ((G.at B).cls "NearError")) = some b) (allIn_cons (PySem.W.exm_ref eC_NearError hC_NearError tC_NearError su_NearError_NearError) (allIn_cons (PySem.W.exm_ref eC_NearError hC_NearError tC_NearError su_InvalidNumber_NearError) (allIn_cons (PySem.W.exm_ref eC_NearError hC_NearError tC_NearError su_InvalidSpace_NearError) (allIn_nil)))) (allIn_nil),
    exc_NearError := matOf_yes (R := fun c => ExcC (G.at B).K ((G.at B).cls c)) (allIn_cons (⟨ga_NearError, gg_NearError, eC_NearError, hC_NearError, gc_NearError, xcn, xct, gm_NearError⟩) (allIn_cons (⟨ga_InvalidNumber, gg_InvalidNumber, eC_InvalidNumber, hC_InvalidNumber, gc_InvalidNumber, xcn, xct, gm_InvalidNumber⟩) (allIn_cons (⟨ga_InvalidSpace, gg_InvalidSpace, eC_InvalidSpace, hC_InvalidSpace, gc_InvalidSpace, xcn, xct, gm_InvalidSpace⟩) (allIn_nil)))),
    xfc_NearError := matOf_yes (R := fun c => XfC (G.at B).K ((G.at B).cls c)) (allIn_cons (⟨ga_NearError, gg_NearError, eC_NearError, hC_NearError⟩) (allIn_cons (⟨ga_InvalidNumber, gg_InvalidNumber, eC_InvalidNumber, hC_InvalidNumber⟩) (allIn_cons (⟨ga_InvalidSpace, gg_InvalidSpace, eC_InvalidSpace, hC_InvalidSpace⟩) (allIn_nil)))),
    xn_NearError_given := matOf_yes (R := fun c => PySem.W.findIn (G.at B).K (.ref ((G.at B).cls c)) "given" = some none) (allIn_cons (no_NearError_given) (allIn_cons (xn_InvalidNumber) (allIn_cons (no_InvalidSpace_given) (allIn_nil)))),
    xt_given := hasIn (R := fun c => G.xf c = some "given" ∧ PySem.W.findIn (G.at B).K (.ref ((G.at B).cls c)) "given" = some none) (allIn_cons (⟨(congrFun hxf _).trans (by decide +kernel), xn_InvalidNumber⟩) (allIn_nil)),
    qi_InvalidNumber := matOf_ok (R := fun c b => PySem.W.kitOne (G.at B).K (.ref ((G.at B).cls c)) (.ref ((G.at B).cls "InvalidNumber")) = some b) (allIn_cons (kit_ref hC_InvalidNumber tC_InvalidNumber su_InvalidNumber_InvalidNumber su_InvalidNumber_InvalidNumber) (allIn_nil)) (allIn_cons (kit_ref hC_InvalidNumber tC_InvalidNumber su_InvalidNumber_InvalidNumber su_NearError_InvalidNumber) (allIn_cons (kit_ref hC_InvalidNumber tC_InvalidNumber su_InvalidNumber_InvalidNumber su_InvalidSpace_InvalidNumber) (allIn_nil))),
    qi_ValueError := matOf_ok (R := fun c b => PySem.W.kitOne (G.at B).K (.ref ((G.at B).cls c)) (.type "ValueError") = some b) (allIn_cons (kit_type (by decide +kernel) su_NearError_ValueError) (allIn_cons (kit_type (by decide +kernel) su_InvalidNumber_ValueError) (allIn_cons (kit_type (by decide +kernel) su_InvalidSpace_ValueError) (allIn_nil)))) (allIn_nil),
    io_Yard := iso_mk ⟨pg_Yard, hd_Yard, po_Yard, sa_Yard⟩ hd_Yard it_Yard ix_Yard is_Yard_non is_Yard_bl is_Yard_int is_Yard_str is_Yard_tup is_Yard_lst ja_Yard xcn xct jm_Yard (PySem.W.mg_of X Gh aC_Yard) }
  have T : Txt P w mg base G := TA G.W0
  have TB_wrong_reach : LamX.TabB base mg cc_wrong_reach (G.tab 0) := by rw [htab 0 TT_wrong_reach rfl]; exact TBs (cc_wrong_reach, TT_wrong_reach) (by simp)
  have TB_law : LamX.TabB base mg cc_law (G.tab 1) := by rw [htab 1 TT_law rfl]; exact TBs (cc_law, TT_law) (by simp)
  have C_d_Yard_eq : EqOk P w G.K mg base G "Yard" 1 m_Yard_eq := ⟨⟨_, _, _, ok_Yard_eq F_Yard_eq T, ⟨pg_Yard, hd_Yard, po_Yard, sa_Yard⟩, ⟨a_Yard_eq, i_Yard_eq, k_Yard_eq⟩, B_Yard_eq⟩, T.io_Yard, ne_Yard, so_Yard⟩
  have C_d_is_whole : CallOk P w G.K mg base G "is_whole" 1 1 m_is_whole := ⟨_, _, _, ok_is_whole F_is_whole T, PySem.W.mg_of X Gh a_is_whole, k_is_whole, B_is_whole⟩
  have C_d_is_between : CallOk P w G.K mg base G "is_between" 2 3 m_is_between := ⟨_, _, _, ok_is_between F_is_between T C_d_is_whole, PySem.W.mg_of X Gh a_is_between, k_is_between, B_is_between⟩
  have C_d_single_space : CallOk P w G.K mg base G "single_space" 1 1 m_single_space := ⟨_, _, _, ok_single_space F_single_space T, PySem.W.mg_of X Gh a_single_space, k_single_space, B_single_space⟩
  have C_d_Yard_init : MakeOk P w G.K mg base G "Yard" 3 2 m_Yard_init := ⟨_, _, _, ok_Yard_init F_Yard_init T C_d_is_between C_d_single_space, ⟨mk_Yard, a_Yard_init, i_Yard_init, kc_Yard⟩, PySem.W.mg_of X Gh aC_Yard, B_Yard_init⟩
  have KB_Yard_init := kwb_of (ps := ["self", "places"]) (ks := ["places"]) 1 rfl F_Yard_init fun _ _ _ _ _ _ us ws hl hk => match us, ws, hl, hk with | [_], [_], _, _ => rfl
  have C_k_Yard_init : MakeOkK P w G.K mg base G "Yard" 3 2 m_Yard_init ["places"] := ⟨_, _, _, ok_Yard_init F_Yard_init T C_d_is_between C_d_single_space, ⟨mk_Yard, a_Yard_init, i_Yard_init, kc_Yard⟩, PySem.W.mg_of X Gh aC_Yard, KB_Yard_init⟩
  have C_d_is_near_by : CallOk P w G.K mg base G "is_near_by" 1 3 m_is_near_by := ⟨_, _, _, ok_is_near_by F_is_near_by T, PySem.W.mg_of X Gh a_is_near_by, k_is_near_by, B_is_near_by⟩
  have C_d_are_tied : CallOk P w G.K mg base G "are_tied" 2 3 m_are_tied := ⟨_, _, _, ok_are_tied F_are_tied T C_d_is_near_by, PySem.W.mg_of X Gh a_are_tied, k_are_tied, B_are_tied⟩
  have C_d_places_of : CallOk P w G.K mg base G "places_of" 1 1 m_places_of := ⟨_, _, _, ok_places_of F_places_of T, PySem.W.mg_of X Gh a_places_of, k_places_of, B_places_of⟩
  have C_d_held_with : CallOk P w G.K mg base G "held_with" 3 2 m_held_with := ⟨_, _, _, ok_held_with F_held_with T C_d_are_tied C_d_places_of, PySem.W.mg_of X Gh a_held_with, k_held_with, B_held_with⟩
  have C_d_parts_by : CallOk P w G.K mg base G "parts_by" 4 1 m_parts_by := ⟨_, _, _, ok_parts_by F_parts_by T C_d_held_with C_d_places_of, PySem.W.mg_of X Gh a_parts_by, k_parts_by, B_parts_by⟩
  have C_d_Yard_parts : MethOk P w G.K mg base G "Yard" "parts" 5 1 m_Yard_parts := ⟨_, _, _, ok_Yard_parts F_Yard_parts T C_d_parts_by, ⟨pg_Yard, hd_Yard, po_Yard, sa_Yard⟩, ⟨a_Yard_parts, i_Yard_parts, k_Yard_parts⟩, B_Yard_parts⟩
  have C_d_all_lots : CallOk P w G.K mg base G "all_lots" 1 1 m_all_lots := ⟨_, _, _, ok_all_lots F_all_lots T, PySem.W.mg_of X Gh a_all_lots, k_all_lots, B_all_lots⟩
  have C_d_common_of : CallOk P w G.K mg base G "common_of" 1 2 m_common_of := ⟨_, _, _, ok_common_of F_common_of T, PySem.W.mg_of X Gh a_common_of, k_common_of, B_common_of⟩
  have C_d_closing_by : CallOk P w G.K mg base G "closing_by" 2 2 m_closing_by := ⟨_, _, _, ok_closing_by F_closing_by T C_d_common_of C_d_places_of, PySem.W.mg_of X Gh a_closing_by, k_closing_by, B_closing_by⟩
  have C_d_is_within : CallOk P w G.K mg base G "is_within" 1 2 m_is_within := ⟨_, _, _, ok_is_within F_is_within T, PySem.W.mg_of X Gh a_is_within, k_is_within, B_is_within⟩
  have C_d_inside_by : CallOk P w G.K mg base G "inside_by" 2 2 m_inside_by := ⟨_, _, _, ok_inside_by F_inside_by T C_d_is_within, PySem.W.mg_of X Gh a_inside_by, k_inside_by, B_inside_by⟩
  have C_d_rest_by : CallOk P w G.K mg base G "rest_by" 2 2 m_rest_by := ⟨_, _, _, ok_rest_by F_rest_by T C_d_places_of, PySem.W.mg_of X Gh a_rest_by, k_rest_by, B_rest_by⟩
  have C_d_letter_by : CallOk P w G.K mg base G "letter_by" 3 3 m_letter_by := ⟨_, _, _, ok_letter_by F_letter_by T C_d_closing_by C_d_inside_by C_d_rest_by, PySem.W.mg_of X Gh a_letter_by, k_letter_by, B_letter_by⟩
  have C_d_done_by : CallOk P w G.K mg base G "done_by" 4 3 m_done_by := ⟨_, _, _, ok_done_by F_done_by T C_d_letter_by, PySem.W.mg_of X Gh a_done_by, k_done_by, B_done_by⟩
  have C_d_made_by_all : CallOk P w G.K mg base G "made_by_all" 5 2 m_made_by_all := ⟨_, _, _, ok_made_by_all F_made_by_all T C_d_all_lots C_d_done_by, PySem.W.mg_of X Gh a_made_by_all, k_made_by_all, B_made_by_all⟩
  have C_d_plain_words : CallOk P w G.K mg base G "plain_words" 1 0 m_plain_words := ⟨_, _, _, ok_plain_words F_plain_words T, PySem.W.mg_of X Gh a_plain_words, k_plain_words, B_plain_words⟩
  have C_d_unlike_by : CallOk P w G.K mg base G "unlike_by" 6 1 m_unlike_by := ⟨_, _, _, ok_unlike_by F_unlike_by T C_d_made_by_all C_d_plain_words, PySem.W.mg_of X Gh a_unlike_by, k_unlike_by, B_unlike_by⟩
  have C_d_Yard_words : MethOk P w G.K mg base G "Yard" "words" 7 1 m_Yard_words := ⟨_, _, _, ok_Yard_words F_Yard_words T C_d_unlike_by, ⟨pg_Yard, hd_Yard, po_Yard, sa_Yard⟩, ⟨a_Yard_words, i_Yard_words, k_Yard_words⟩, B_Yard_words⟩
  have C_d__law_alone : CallOk P w G.K mg base G "_law_alone" 1 1 m__law_alone := ⟨_, _, _, ok__law_alone F__law_alone T, PySem.W.mg_of X Gh a__law_alone, k__law_alone, B__law_alone⟩
  have C_d__law_caught : LamOk P w G.K mg base G "_law_caught" 1 0 0 m__law_caught := lok__law_caught F__law_caught TA (PySem.W.mg_of X Gh a__law_caught) k__law_caught B__law_caught
  have C_d__law_take : CallOk P w G.K mg base G "_law_take" 1 2 m__law_take := ⟨_, _, _, ok__law_take F__law_take T, PySem.W.mg_of X Gh a__law_take, k__law_take, B__law_take⟩
  have C_d__law_well : CallOk P w G.K mg base G "_law_well" 1 2 m__law_well := ⟨_, _, _, ok__law_well F__law_well T, PySem.W.mg_of X Gh a__law_well, k__law_well, B__law_well⟩
  have C_d_is_row : CallOk P w G.K mg base G "is_row" 1 3 m_is_row := ⟨_, _, _, ok_is_row F_is_row T, PySem.W.mg_of X Gh a_is_row, k_is_row, B_is_row⟩
  have C_d_first_wrong : LamOk P w G.K mg base G "first_wrong" 1 1 2 m_first_wrong := lok_first_wrong F_first_wrong TA (PySem.W.mg_of X Gh a_first_wrong) k_first_wrong B_first_wrong
  have C_d_is_closed_up : CallOk P w G.K mg base G "is_closed_up" 2 2 m_is_closed_up := ⟨_, _, _, ok_is_closed_up F_is_closed_up T C_d_is_within, PySem.W.mg_of X Gh a_is_closed_up, k_is_closed_up, B_is_closed_up⟩
  have C_d_is_lot_of : CallOk P w G.K mg base G "is_lot_of" 3 2 m_is_lot_of := ⟨_, _, _, ok_is_lot_of F_is_lot_of T C_d_is_between, PySem.W.mg_of X Gh a_is_lot_of, k_is_lot_of, B_is_lot_of⟩
  have C_d_is_reach_of : CallOk P w G.K mg base G "is_reach_of" 4 3 m_is_reach_of := ⟨_, _, _, ok_is_reach_of F_is_reach_of T C_d_is_lot_of, PySem.W.mg_of X Gh a_is_reach_of, k_is_reach_of, B_is_reach_of⟩
  have C_d_wrong_reach : CallOk P w G.K mg base G "wrong_reach" 7 1 m_wrong_reach := ⟨_, _, _, ok_wrong_reach F_wrong_reach T rfl TB_wrong_reach (htq 0).symm C_d_first_wrong C_d_is_closed_up C_d_is_reach_of, PySem.W.mg_of X Gh a_wrong_reach, k_wrong_reach, B_wrong_reach⟩
  have C_d_check_space : CallOk P w G.K mg base G "check_space" 8 1 m_check_space := ⟨_, _, _, ok_check_space F_check_space T C_d_is_row C_d_wrong_reach, PySem.W.mg_of X Gh a_check_space, k_check_space, B_check_space⟩
  have C_d_is_open_by : CallOk P w G.K mg base G "is_open_by" 2 2 m_is_open_by := ⟨_, _, _, ok_is_open_by F_is_open_by T C_d_is_within, PySem.W.mg_of X Gh a_is_open_by, k_is_open_by, B_is_open_by⟩
  have C_d_open_lots_by : CallOk P w G.K mg base G "open_lots_by" 3 1 m_open_lots_by := ⟨_, _, _, ok_open_lots_by F_open_lots_by T C_d_all_lots C_d_is_open_by, PySem.W.mg_of X Gh a_open_lots_by, k_open_lots_by, B_open_lots_by⟩
  have C_d_open_lots : CallOk P w G.K mg base G "open_lots" 9 1 m_open_lots := ⟨_, _, _, ok_open_lots F_open_lots T C_d_check_space C_d_open_lots_by, PySem.W.mg_of X Gh a_open_lots, k_open_lots, B_open_lots⟩
  exact (ok_law F_law T rfl TB_law (htq 1).symm C_d_Yard_eq C_d_Yard_init C_d_Yard_parts C_d_Yard_words C_d__law_alone C_d__law_caught C_d__law_take C_d__law_well C_d_open_lots C_k_Yard_init).weak fun vs H Q E h => h G rfl hW0 htab
theorem walk {l : PySem.W.OpenLaw} {qq : Program} {loose : List Str} {XP : (Str → Option Value) → Heap → Prop} {YP : World → Heap → Prop} {d : DefRec} {K : Params → PySem.W.Frag} (hn : l.most = some 63) (hdf : d.params.defaults = []) (hrec : ∀ x ∈ (["wrong_reach", "law"] : List Str), ∃ e, (recsOf qq).find? (fun e => e.name == x) = some e)
    (hY : ∀ (w : World) (h : Heap), YP w h → (K w.params).In h)
    (F : ∀ (w : World) (mg : Str → Option Value) (fa : Addr) (h : Heap), (K w.params).In h → h.Ns mainGlobals mg → mg d.name = some (.ref fa) →
      ∃ (fd : FuncData) (cs : List (Addr × Addr)), cs.length = 2 ∧ (∀ (i : Nat) (x : Str) (p : Addr × Addr), (["wrong_reach", "law"] : List Str)[i]? = some x → cs[i]? = some p → PySem.W.tabIn (K w.params) x = some p) ∧ (∀ T ∈ cs.map (·.2), (K w.params).lookup T = none) ∧ (cs.map (·.2)).Nodup ∧ (∀ (s : Shared) (u : Value), BindsTo s fd ⟨[u], []⟩ [("script", u)]) ∧ ∀ base : Heap, (K w.params).In base → base.Ns mainGlobals mg → (∀ p ∈ cs, LamX.TabB base mg p.1 p.2) →
        FnG l.prog w (K w.params) mg base 10 fa fd ["script"] (fun vs H Q E => ∀ G : Gc, G.K = K w.params → G.W0 = ⟨[], fun _ => none⟩ → (∀ (k : Nat) (T : Addr), (cs.map (·.2))[k]? = some T → G.tab k = T) → spM G 1 m_law vs H Q E)) :
    PySem.W.WalkO qq loose XP YP l.row.toRowW d [] (fun f vs => PySem.call f vs) :=
  walkT (k := 10) (xs := ["wrong_reach", "law"]) law_true hn hdf rfl hrec ⟨⟨rfl, by decide, by decide⟩, rfl⟩ hY F
end NL
open PySem PySem.W PyProof.Rows
set_option maxRecDepth 100000 in
set_option maxHeartbeats 0 in
theorem PySem.Challenge.cw_nearlots_k78_whole_yards_made_holds : PySem.Challenge.rw_nearlots_k78_whole_yards_made.Holds := by
  w_on; o_law; k_head; (case hw => w_witness2)
  k_fill
  refine NL.walk (l := PySem.Challenge.rw_nearlots_k78_whole_yards_made) rfl rfl ?R (fun w h Y => PySem.W.km_in_of Y) ?F
  case R =>
    intro x hx
    simp only [List.mem_cons, or_false, List.not_mem_nil] at hx
    rcases hx with rfl | rfl
    · exact Option.isSome_iff_exists.mp (by first | rfl | decide +kernel)
    · exact Option.isSome_iff_exists.mp (by first | rfl | decide +kernel)
  case F =>
    intro w mg fa h KX G hmg
    refine' NL.all_mk (P := PySem.Challenge.pw_nearlots_k78_whole_yards_made) (w := w) KX G hmg ?aC_NearError ?aC_InvalidNumber ?aC_InvalidSpace ?aC_Yard ?im_combinations ?z_ValueError ?z_abs ?z_all ?z_bool ?z_divmod ?z_enumerate ?z_int ?z_isinstance ?z_len ?z_list ?z_range ?z_repr ?z_set ?z_sorted ?z_tuple ?z_zip ?g_BARE ?gl_BARE ?gc_BARE ?gz_BARE ?gv_BARE ?g_MOST_PLACES ?a_Yard_eq ?i_Yard_eq ?l_Yard_eq ?c_Yard_eq ?k_Yard_eq ?a_is_whole ?l_is_whole ?c_is_whole ?k_is_whole ?a_is_between ?l_is_between ?c_is_between ?k_is_between ?a_single_space ?l_single_space ?c_single_space ?k_single_space ?a_Yard_init ?i_Yard_init ?l_Yard_init ?c_Yard_init ?k_Yard_init ?a_is_near_by ?l_is_near_by ?c_is_near_by ?k_is_near_by ?a_are_tied ?l_are_tied ?c_are_tied ?k_are_tied ?a_places_of ?l_places_of ?c_places_of ?k_places_of ?a_held_with ?l_held_with ?c_held_with ?k_held_with ?a_parts_by ?l_parts_by ?c_parts_by ?k_parts_by ?a_Yard_parts ?i_Yard_parts ?l_Yard_parts ?c_Yard_parts ?k_Yard_parts ?a_all_lots ?l_all_lots ?c_all_lots ?k_all_lots ?a_common_of ?l_common_of ?c_common_of ?k_common_of ?a_closing_by ?l_closing_by ?c_closing_by ?k_closing_by ?a_is_within ?l_is_within ?c_is_within ?k_is_within ?a_inside_by ?l_inside_by ?c_inside_by ?k_inside_by ?a_rest_by ?l_rest_by ?c_rest_by ?k_rest_by ?a_letter_by ?l_letter_by ?c_letter_by ?k_letter_by ?a_done_by ?l_done_by ?c_done_by ?k_done_by ?a_made_by_all ?l_made_by_all ?c_made_by_all ?k_made_by_all ?a_plain_words ?l_plain_words ?c_plain_words ?k_plain_words ?a_unlike_by ?l_unlike_by ?c_unlike_by ?k_unlike_by ?a_Yard_words ?i_Yard_words ?l_Yard_words ?c_Yard_words ?k_Yard_words ?a__law_alone ?l__law_alone ?c__law_alone ?k__law_alone ?a__law_caught ?l__law_caught ?c__law_caught ?k__law_caught ?a__law_take ?l__law_take ?c__law_take ?k__law_take ?a__law_well ?l__law_well ?c__law_well ?k__law_well ?a_is_row ?l_is_row ?c_is_row ?k_is_row ?a_first_wrong ?l_first_wrong ?c_first_wrong ?k_first_wrong ?a_is_closed_up ?l_is_closed_up ?c_is_closed_up ?k_is_closed_up ?a_is_lot_of ?l_is_lot_of ?c_is_lot_of ?k_is_lot_of ?a_is_reach_of ?l_is_reach_of ?c_is_reach_of ?k_is_reach_of ?a_wrong_reach ?l_wrong_reach ?c_wrong_reach ?k_wrong_reach ?a_check_space ?l_check_space ?c_check_space ?k_check_space ?a_is_open_by ?l_is_open_by ?c_is_open_by ?k_is_open_by ?a_open_lots_by ?l_open_lots_by ?c_open_lots_by ?k_open_lots_by ?a_open_lots ?l_open_lots ?c_open_lots ?k_open_lots ?a_law ?l_law ?c_law ?k_law ?tl_wrong_reach ?tv_wrong_reach ?nl_wrong_reach ?tl_law ?tv_law ?nl_law ?ne_wrong_reach_law ?pg_Yard ?hd_Yard ?po_Yard ?sa_Yard ?mk_Yard ?kc_Yard ?ne_Yard ?so_Yard ?nf_Yard_deeds ?nf_Yard_past ?nf_Yard_places ?nf_Yard_space ?eC_NearError ?tC_NearError ?hC_NearError ?eC_InvalidNumber ?tC_InvalidNumber ?hC_InvalidNumber ?eC_InvalidSpace ?tC_InvalidSpace ?hC_InvalidSpace ?xl_InvalidNumber ?xr_InvalidNumber ?xs_InvalidNumber ?xn_InvalidNumber ?a_InvalidNumber_init ?i_InvalidNumber_init ?l_InvalidNumber_init ?c_InvalidNumber_init ?k_InvalidNumber_init ?xt_InvalidNumber ?xk_InvalidNumber ?xl_InvalidSpace ?xr_InvalidSpace ?xs_InvalidSpace ?xn_InvalidSpace ?a_InvalidSpace_init ?i_InvalidSpace_init ?l_InvalidSpace_init ?c_InvalidSpace_init ?k_InvalidSpace_init ?xt_InvalidSpace ?xk_InvalidSpace ?xcn ?xct ?ga_InvalidNumber ?gg_InvalidNumber ?gc_InvalidNumber ?gm_InvalidNumber ?ga_InvalidSpace ?gg_InvalidSpace ?gc_InvalidSpace ?gm_InvalidSpace ?ga_NearError ?gg_NearError ?gc_NearError ?gm_NearError ?su_NearError_NearError ?su_InvalidNumber_NearError ?su_InvalidSpace_NearError ?no_NearError_given ?no_InvalidSpace_given ?su_InvalidNumber_InvalidNumber ?su_NearError_InvalidNumber ?su_InvalidSpace_InvalidNumber ?su_NearError_ValueError ?su_InvalidNumber_ValueError ?su_InvalidSpace_ValueError ?is_Yard_non ?is_Yard_bl ?is_Yard_int ?is_Yard_str ?is_Yard_tup ?is_Yard_lst ?it_Yard ?ix_Yard ?ja_Yard ?jm_Yard
    (case aC_NearError => k_is)
    (case aC_InvalidNumber => k_is)
    (case aC_InvalidSpace => k_is)
    (case aC_Yard => k_is)
    (case im_combinations => k_is)
    (case z_ValueError => k_is)
    (case z_abs => k_is)
    (case z_all => k_is)
    (case z_bool => k_is)
    (case z_divmod => k_is)
    (case z_enumerate => k_is)
    (case z_int => k_is)
    (case z_isinstance => k_is)
    (case z_len => k_is)
    (case z_list => k_is)
    (case z_range => k_is)
    (case z_repr => k_is)
    (case z_set => k_is)
    (case z_sorted => k_is)
    (case z_tuple => k_is)
    (case z_zip => k_is)
    (case g_BARE => k_is)
    (case gl_BARE => k_is)
    (case gc_BARE => rfl)
    (case gz_BARE => rw [sizeLine_eq]; decide)
    (case gv_BARE => exact (.cons ⟨_, rfl⟩ (.cons ⟨_, rfl⟩ (.cons ⟨_, rfl⟩ (.cons ⟨_, rfl⟩ (.cons ⟨_, rfl⟩ (.cons ⟨_, rfl⟩ (.cons ⟨_, rfl⟩ .nil))))))))
    (case g_MOST_PLACES => k_is)
    (case a_Yard_eq => k_is)
    (case i_Yard_eq => k_is)
    (case l_Yard_eq => k_is)
    (case c_Yard_eq => k_is)
    (case k_Yard_eq => k_is)
    (case a_is_whole => k_is)
    (case l_is_whole => k_is)
    (case c_is_whole => k_is)
    (case k_is_whole => k_is)
    (case a_is_between => k_is)
    (case l_is_between => k_is)
    (case c_is_between => k_is)
    (case k_is_between => k_is)
    (case a_single_space => k_is)
    (case l_single_space => k_is)
    (case c_single_space => k_is)
    (case k_single_space => k_is)
    (case a_Yard_init => k_is)
    (case i_Yard_init => k_is)
    (case l_Yard_init => k_is)
    (case c_Yard_init => k_is)
    (case k_Yard_init => k_is)
    (case a_is_near_by => k_is)
    (case l_is_near_by => k_is)
    (case c_is_near_by => k_is)
    (case k_is_near_by => k_is)
    (case a_are_tied => k_is)
    (case l_are_tied => k_is)
    (case c_are_tied => k_is)
    (case k_are_tied => k_is)
    (case a_places_of => k_is)
    (case l_places_of => k_is)
    (case c_places_of => k_is)
    (case k_places_of => k_is)
    (case a_held_with => k_is)
    (case l_held_with => k_is)
    (case c_held_with => k_is)
    (case k_held_with => k_is)
    (case a_parts_by => k_is)
    (case l_parts_by => k_is)
    (case c_parts_by => k_is)
    (case k_parts_by => k_is)
    (case a_Yard_parts => k_is)
    (case i_Yard_parts => k_is)
    (case l_Yard_parts => k_is)
    (case c_Yard_parts => k_is)
    (case k_Yard_parts => k_is)
    (case a_all_lots => k_is)
    (case l_all_lots => k_is)
    (case c_all_lots => k_is)
    (case k_all_lots => k_is)
    (case a_common_of => k_is)
    (case l_common_of => k_is)
    (case c_common_of => k_is)
    (case k_common_of => k_is)
    (case a_closing_by => k_is)
    (case l_closing_by => k_is)
    (case c_closing_by => k_is)
    (case k_closing_by => k_is)
    (case a_is_within => k_is)
    (case l_is_within => k_is)
    (case c_is_within => k_is)
    (case k_is_within => k_is)
    (case a_inside_by => k_is)
    (case l_inside_by => k_is)
    (case c_inside_by => k_is)
    (case k_inside_by => k_is)
    (case a_rest_by => k_is)
    (case l_rest_by => k_is)
    (case c_rest_by => k_is)
    (case k_rest_by => k_is)
    (case a_letter_by => k_is)
    (case l_letter_by => k_is)
    (case c_letter_by => k_is)
    (case k_letter_by => k_is)
    (case a_done_by => k_is)
    (case l_done_by => k_is)
    (case c_done_by => k_is)
    (case k_done_by => k_is)
    (case a_made_by_all => k_is)
    (case l_made_by_all => k_is)
    (case c_made_by_all => k_is)
    (case k_made_by_all => k_is)
    (case a_plain_words => k_is)
    (case l_plain_words => k_is)
    (case c_plain_words => k_is)
    (case k_plain_words => k_is)
    (case a_unlike_by => k_is)
    (case l_unlike_by => k_is)
    (case c_unlike_by => k_is)
    (case k_unlike_by => k_is)
    (case a_Yard_words => k_is)
    (case i_Yard_words => k_is)
    (case l_Yard_words => k_is)
    (case c_Yard_words => k_is)
    (case k_Yard_words => k_is)
    (case a__law_alone => k_is)
    (case l__law_alone => k_is)
    (case c__law_alone => k_is)
    (case k__law_alone => k_is)
    (case a__law_caught => k_is)
    (case l__law_caught => k_is)
    (case c__law_caught => k_is)
    (case k__law_caught => k_is)
    (case a__law_take => k_is)
    (case l__law_take => k_is)
    (case c__law_take => k_is)
    (case k__law_take => k_is)
    (case a__law_well => k_is)
    (case l__law_well => k_is)
    (case c__law_well => k_is)
    (case k__law_well => k_is)
    (case a_is_row => k_is)
    (case l_is_row => k_is)
    (case c_is_row => k_is)
    (case k_is_row => k_is)
    (case a_first_wrong => k_is)
    (case l_first_wrong => k_is)
    (case c_first_wrong => k_is)
    (case k_first_wrong => k_is)
    (case a_is_closed_up => k_is)
    (case l_is_closed_up => k_is)
    (case c_is_closed_up => k_is)
    (case k_is_closed_up => k_is)
    (case a_is_lot_of => k_is)
    (case l_is_lot_of => k_is)
    (case c_is_lot_of => k_is)
    (case k_is_lot_of => k_is)
    (case a_is_reach_of => k_is)
    (case l_is_reach_of => k_is)
    (case c_is_reach_of => k_is)
    (case k_is_reach_of => k_is)
    (case a_wrong_reach => k_is)
    (case l_wrong_reach => k_is)
    (case c_wrong_reach => k_is)
    (case k_wrong_reach => k_is)
    (case a_check_space => k_is)
    (case l_check_space => k_is)
    (case c_check_space => k_is)
    (case k_check_space => k_is)
    (case a_is_open_by => k_is)
    (case l_is_open_by => k_is)
    (case c_is_open_by => k_is)
    (case k_is_open_by => k_is)
    (case a_open_lots_by => k_is)
    (case l_open_lots_by => k_is)
    (case c_open_lots_by => k_is)
    (case k_open_lots_by => k_is)
    (case a_open_lots => k_is)
    (case l_open_lots => k_is)
    (case c_open_lots => k_is)
    (case k_open_lots => k_is)
    (case a_law => k_is)
    (case l_law => k_is)
    (case c_law => k_is)
    (case k_law => k_is)
    (case tl_wrong_reach => k_is)
    (case tv_wrong_reach => rfl)
    (case nl_wrong_reach => first | kernel_rfl | rfl)
    (case tl_law => k_is)
    (case tv_law => rfl)
    (case nl_law => first | kernel_rfl | rfl)
    (case ne_wrong_reach_law => decide)
    (case pg_Yard => k_is)
    (case hd_Yard => k_is)
    (case po_Yard => k_is)
    (case sa_Yard => k_is)
    (case mk_Yard => k_is)
    (case kc_Yard => k_is)
    (case ne_Yard => k_is)
    (case so_Yard => first | k_is | rfl)
    (case nf_Yard_deeds => k_is)
    (case nf_Yard_past => k_is)
    (case nf_Yard_places => k_is)
    (case nf_Yard_space => k_is)
    (case eC_NearError => k_is)
    (case tC_NearError => k_is)
    (case hC_NearError => k_is)
    (case eC_InvalidNumber => k_is)
    (case tC_InvalidNumber => k_is)
    (case hC_InvalidNumber => k_is)
    (case eC_InvalidSpace => k_is)
    (case tC_InvalidSpace => k_is)
    (case hC_InvalidSpace => k_is)
    (case xl_InvalidNumber => k_is)
    (case xr_InvalidNumber => first | decide +kernel | rfl)
    (case xs_InvalidNumber => k_is)
    (case xn_InvalidNumber => k_is)
    (case a_InvalidNumber_init => k_is)
    (case i_InvalidNumber_init => k_is)
    (case l_InvalidNumber_init => k_is)
    (case c_InvalidNumber_init => k_is)
    (case k_InvalidNumber_init => k_is)
    (case xt_InvalidNumber => k_is)
    (case xk_InvalidNumber => k_is)
    (case xl_InvalidSpace => k_is)
    (case xr_InvalidSpace => first | decide +kernel | rfl)
    (case xs_InvalidSpace => k_is)
    (case xn_InvalidSpace => k_is)
    (case a_InvalidSpace_init => k_is)
    (case i_InvalidSpace_init => k_is)
    (case l_InvalidSpace_init => k_is)
    (case c_InvalidSpace_init => k_is)
    (case k_InvalidSpace_init => k_is)
    (case xt_InvalidSpace => k_is)
    (case xk_InvalidSpace => k_is)
    (case xcn => k_is)
    (case xct => k_is)
    (case ga_InvalidNumber => k_is)
    (case gg_InvalidNumber => k_is)
    (case gc_InvalidNumber => k_is)
    (case gm_InvalidNumber => k_is)
    (case ga_InvalidSpace => k_is)
    (case gg_InvalidSpace => k_is)
    (case gc_InvalidSpace => k_is)
    (case gm_InvalidSpace => k_is)
    (case ga_NearError => k_is)
    (case gg_NearError => k_is)
    (case gc_NearError => k_is)
    (case gm_NearError => k_is)
    (case su_NearError_NearError => first | k_is | rfl)
    (case su_InvalidNumber_NearError => first | k_is | rfl)
    (case su_InvalidSpace_NearError => first | k_is | rfl)
    (case no_NearError_given => k_is)
    (case no_InvalidSpace_given => k_is)
    (case su_InvalidNumber_InvalidNumber => first | k_is | rfl)
    (case su_NearError_InvalidNumber => first | k_is | rfl)
    (case su_InvalidSpace_InvalidNumber => first | k_is | rfl)
    (case su_NearError_ValueError => first | k_is | rfl)
    (case su_InvalidNumber_ValueError => first | k_is | rfl)
    (case su_InvalidSpace_ValueError => first | k_is | rfl)
    (case is_Yard_non => first | k_is | rfl)
    (case is_Yard_bl => first | k_is | rfl)
    (case is_Yard_int => first | k_is | rfl)
    (case is_Yard_str => first | k_is | rfl)
    (case is_Yard_tup => first | k_is | rfl)
    (case is_Yard_lst => first | k_is | rfl)
    (case it_Yard => k_is)
    (case ix_Yard => first | k_is | rfl)
    (case ja_Yard => k_is)
    (case jm_Yard => k_is)

