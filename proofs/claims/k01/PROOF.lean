import PyProof.Rows.All
import Wide.All
import OpenK.AllK
import Wide.FinOn
import HandS.ForMost
import HandS.Slots
import HandS.Exc
import HandS.Iter
import HandS.Deep
import HandS.TupAny
import HandS.Star
import HandS.IsInst
import HandS.SortInts
import HandS.DictComp
import HandS.TryOnly
import KE.DataMinMax
import KE.SortData
import HandS.SlotsOwn
import HandS.Property
import HandS.Small
import HandS.More
import HandS.Conv
import HandS.TupLen
import HandS.WordsDict
import OpenK.KOps
import KE.GoesMore
import PyProof.Laws
import HandS.SetFor
import HandS.SetKeys
import HandS.Set
import HandS.Strs
import KE.KStateDown
import HandS.Defaults
import HandS.Head0
import HandS.Head1
import HandS.Head2
import HandS.HeadEnd
import HandS.HeadHook1
import HandS.HeadHook2
import HandS.HeadHook3
import KE.SortLaws
import PySem.Challenge.RW_hallstretch_k01_whole_records
set_option Elab.async false
set_option linter.all false
set_option maxRecDepth 100000
/-! Q1: deep values, the store of cells, what they are on the hand layer's heap, and the readings made of them. -/
namespace Q
open PySem L2

/-- a value that no one changes any more -/
inductive P where
  | non | bl (b : Bool) | int (i : Int) | str (x : Str)
  | tup (l : List P) | lst (l : List P)
  | dk (kvs : List (Key × P)) | dt (kvs : List (List Key × P))
  | obj (c : Nat) (fs : List (Str × P))
  | fn (n : Nat)
  | scr (ns : List Int)
  | ktup (l : List P)
  | kdk (kvs : List (Key × P))
  | sob (c : Nat) (vs : List P)
  | xob (c : Nat) (fs : List (Str × P))
  deriving Inhabited
/-- a value: such a one, or the cell n of the store -/
inductive S where
  | p (x : P) | c (n : Nat)
  deriving Inhabited
inductive Cell where
  | lst (xs : List S) | dk (kvs : List (Key × S)) | dt (kvs : List (List Key × S))
  | obj (c : Nat) (fs : List (Str × S))
  | slt (c : Nat) (xs : List S)
  | dead
  deriving Inhabited
abbrev Env := List (Option S)
abbrev Store := List Cell
inductive R (α : Type) where
  | ok (a : α) (st : Store) | exc (c : Nat) (fs : List (Str × P)) (st : Store) | stuck
def R.bind {α β : Type} (r : R α) (k : α → Store → R β) : R β :=
  match r with
  | .ok a st => k a st
  | .exc c fs st => .exc c fs st
  | .stuck => .stuck
@[simp] theorem R.bind_ok {α β : Type} (a : α) (st : Store) (k : α → Store → R β) : (R.ok a st).bind k = k a st := rfl
@[simp] theorem R.bind_exc {α β : Type} (c : Nat) (fs : List (Str × P)) (st : Store) (k : α → Store → R β) : (R.exc c fs st).bind k = .exc c fs st := rfl
@[simp] theorem R.bind_stuck {α β : Type} (k : α → Store → R β) : (R.stuck : R α).bind k = .stuck := rfl
abbrev XE := Env → Store → R S
abbrev XA := Env → Store → R (List S)
abbrev XT := Env → Store → R Bool
inductive O where
  | nx (e : Env) | rt (v : S) | bk (e : Env) | ct (e : Env)
abbrev XS := Env → Store → R O

/-- F: what is frozen; rho: where the cells stand; G: what is being made (a comprehension's list), which no value speaks of -/
structure Wd where
  F : Hp
  rho : List Addr
  G : Hp
structure Wd.le (W W' : Wd) : Prop where
  f : ∀ a o, W.F a = some o → W'.F a = some o
  r : ∀ (n : Nat) a, W.rho[n]? = some a → W'.rho[n]? = some a
  g : ∀ a o, W.G a = some o → W'.G a = some o
theorem Wd.le_refl (W : Wd) : W.le W := ⟨fun _ _ h => h, fun _ _ h => h, fun _ _ h => h⟩
theorem Wd.le.trans {A B C : Wd} (h : A.le B) (k : B.le C) : A.le C := ⟨fun _ _ e => k.f _ _ (h.f _ _ e), fun _ _ e => k.r _ _ (h.r _ _ e), fun _ _ e => k.g _ _ (h.g _ _ e)⟩

/-- what stands fast: the written part, the classes by their numbers, the functions by their numbers -/
structure QC where
  prog : Program
  w : World
  K : PySem.W.Frag
  ca : Nat → Addr
  fa : Nat → Addr

/-- the keys of kvs with the values vs -/
def zipV {κ α : Type} : List (κ × α) → List V → List (κ × V)
  | p :: r, v :: vs => (p.1, v) :: zipV r vs
  | _, _ => []
/-- a dict of the written part, by its keys and values -/
def KDict (C : QC) (a : Addr) (kvs : List (Key × V)) : Prop :=
  (a == sysModules) = false ∧ kvs.length ≤ sizeLine ∧ ∃ (vs : List (Key × Value)) (o : Obj), KV kvs vs ∧ C.K.lookup a = some o ∧ o.dict = none ∧ ∀ h : Heap, C.K.In h → h.DictOf (mixKind C.prog C.w) a vs
/-- at a: an exception object of the class at k, its dict at d -/
def exoF (a k : Addr) (d : Option Addr) : HO := .ext fun h => ∃ o : Obj, h.get? a = some o ∧ Zc (.ref k) d o ∧ ∃ vs, o.data = .fields vs
/-- its fields -/
def XdOk (F : Hp) (d : Option Addr) (fs : List (Str × V)) : Prop := match d with
  | none => fs = []
  | some dd => F dd = some (.xd fs)
theorem XdOk.mono {F F' : Hp} (h : ∀ a o, F a = some o → F' a = some o) {d : Option Addr} {fs : List (Str × V)} (k : XdOk F d fs) : XdOk F' d fs := by
  cases d with
  | none => exact k
  | some dd => exact h _ _ k
/-- where a slot stands: the order in which the one class with slots fills them, to the order of their names; by itself its own inverse -/
def slPerm : Nat → Nat
  | 0 => 1
  | 1 => 0
  | 2 => 3
  | 3 => 2
  | k => k
theorem slPerm2 : ∀ k, slPerm (slPerm k) = k
  | 0 => rfl
  | 1 => rfl
  | 2 => rfl
  | 3 => rfl
  | _ + 4 => rfl
/-- the slots as they stand -/
def permO (vs : List V) : List (Option V) := (List.range 16).map fun j => vs[slPerm j]?
theorem permO_get {vs : List V} {k : Nat} {v : V} (h : vs[k]? = some v) (hk : slPerm k < 16) : (permO vs)[slPerm k]? = some (some v) := by
  unfold permO
  rw [List.getElem?_map, List.getElem?_range hk]
  simp [slPerm2, h]
theorem permO_put {vs : List V} {v : V} (hk : slPerm vs.length < 16) : SlX.putS (slPerm vs.length) v (permO vs) = permO (vs ++ [v]) := by
  have hl : (permO vs).length = 16 := by simp [permO]
  have hl2 : (permO (vs ++ [v])).length = 16 := by simp [permO]
  unfold SlX.putS
  rw [hl, show slPerm vs.length + 1 - 16 = 0 by omega]
  apply List.ext_getElem?
  intro j
  by_cases hj : j < 16
  · by_cases e : j = slPerm vs.length
    · subst e
      rw [List.getElem?_set_self (by simpa [hl] using hj), permO_get (v := v) (by simp) hj]
    · rw [List.getElem?_set_ne (Ne.symm e)]
      have hne : slPerm j ≠ vs.length := fun z => e (by rw [← z, slPerm2])
      simp only [List.replicate_zero, List.append_nil, permO, List.getElem?_map, List.getElem?_range hj, Option.map_some]
      congr 1
      by_cases h1 : slPerm j < vs.length
      · rw [List.getElem?_append_left h1]
      · rw [List.getElem?_eq_none (by omega), List.getElem?_eq_none (by simp; omega)]
  · rw [List.getElem?_eq_none (by simp [hl]; omega), List.getElem?_eq_none (by rw [hl2]; omega)]
theorem slO_nil (a D dx : Addr) : SlX.SlO a D dx [] = SlX.SlO a D dx (permO []) := by
  unfold SlX.SlO
  congr 1
  funext h
  apply propext
  constructor
  · rintro ⟨sl, e, _⟩
    refine ⟨sl, e, fun i v q => ?_⟩
    simp only [permO, List.getElem?_map] at q
    cases z : (List.range 16)[i]? with
    | none => rw [z] at q; cases q
    | some k => rw [z] at q; simp at q
  · rintro ⟨sl, e, _⟩
    exact ⟨sl, e, SlX.SlR.nil sl⟩
mutual
inductive Rep (C : QC) (F : Hp) : P → V → Prop
  | non : Rep C F .non .non
  | bl (b) : Rep C F (.bl b) (.bl b)
  | int (i) : Rep C F (.int i) (.int i)
  | str (x) : Rep C F (.str x) (.str x)
  | tup {a ps vs} : F a = some (.tup vs) → Reps C F ps vs → Rep C F (.tup ps) (.ref a)
  | ktup {a ps vs} : SqT C.K F a vs → Reps C F ps vs → Rep C F (.ktup ps) (.ref a)
  | lst {a ps vs} : F a = some (.lst vs) → Reps C F ps vs → Rep C F (.lst ps) (.ref a)
  | dk {a o kvs vs} : F a = some (.frz o (.dK (zipV kvs vs))) → Reps C F (kvs.map (·.2)) vs → Rep C F (.dk kvs) (.ref a)
  | dt {a o kvs vs} : F a = some (.frz o (.dT (zipV kvs vs))) → Reps C F (kvs.map (·.2)) vs → Rep C F (.dt kvs) (.ref a)
  | kdk {a kvs vs} : KDict C a (zipV kvs vs) → Reps C F (kvs.map (·.2)) vs → Rep C F (.kdk kvs) (.ref a)
  | obj {a dx c fs vs} : F a = some (.ins (C.ca c) dx (zipV fs vs)) → F dx = some (.own a) → Reps C F (fs.map (·.2)) vs → Rep C F (.obj c fs) (.ref a)
  | sob {a dx c ps vs} : F a = some (SlX.SlO a (C.ca c) dx (permO vs)) → F dx = some (.xd []) → Reps C F ps vs → Rep C F (.sob c ps) (.ref a)
  | fn (n) : Rep C F (.fn n) (.ref (C.fa n))
  | xob {a dx c fs vs} : F a = some (exoF a (C.ca c) dx) → XdOk F dx (zipV fs vs) → Reps C F (fs.map (·.2)) vs → Rep C F (.xob c fs) (.ref a)
  | scr {a ns} : SqL C.K F a (ns.map V.int) → Rep C F (.scr ns) (.ref a)
inductive Reps (C : QC) (F : Hp) : List P → List V → Prop
  | nil : Reps C F [] []
  | cons {p ps v vs} : Rep C F p v → Reps C F ps vs → Reps C F (p :: ps) (v :: vs)
end

theorem Reps.length {C : QC} {F : Hp} : ∀ {ps : List P} {vs : List V}, Reps C F ps vs → ps.length = vs.length
  | _, _, .nil => rfl
  | _, _, .cons _ t => by simp [Reps.length t]
theorem sqT_le {K : PySem.W.Frag} {F F' : Hp} (h : ∀ a o, F a = some o → F' a = some o) {a : Addr} {xs : List V} (q : SqT K F a xs) : SqT K F' a xs := by
  rcases q with (q | ⟨o, q⟩) | q
  · exact .inl (.inl (h _ _ q))
  · exact .inl (.inr ⟨o, h _ _ q⟩)
  · exact .inr q
theorem sqL_le {K : PySem.W.Frag} {F F' : Hp} (h : ∀ a o, F a = some o → F' a = some o) {a : Addr} {xs : List V} (q : SqL K F a xs) : SqL K F' a xs := by
  rcases q with (q | ⟨o, q⟩) | q
  · exact .inl (.inl (h _ _ q))
  · exact .inl (.inr ⟨o, h _ _ q⟩)
  · exact .inr q
theorem rd_le {F F' : Hp} (h : ∀ a o, F a = some o → F' a = some o) {a : Addr} {u : HO} (q : Rd F a u) : Rd F' a u := by
  rcases q with q | ⟨o, q⟩
  · exact .inl (h _ _ q)
  · exact .inr ⟨o, h _ _ q⟩
mutual
theorem Rep.mono {C : QC} {F F' : Hp} (h : ∀ a o, F a = some o → F' a = some o) : ∀ {p : P} {v : V}, Rep C F p v → Rep C F' p v
  | _, _, .non => .non
  | _, _, .bl b => .bl b
  | _, _, .int i => .int i
  | _, _, .str x => .str x
  | _, _, .tup q r => .tup (h _ _ q) (Reps.mono h r)
  | _, _, .ktup q r => .ktup (sqT_le h q) (Reps.mono h r)
  | _, _, .lst q r => .lst (h _ _ q) (Reps.mono h r)
  | _, _, .dk q r => .dk (h _ _ q) (Reps.mono h r)
  | _, _, .dt q r => .dt (h _ _ q) (Reps.mono h r)
  | _, _, .kdk q r => .kdk q (Reps.mono h r)
  | _, _, .obj q d r => .obj (h _ _ q) (h _ _ d) (Reps.mono h r)
  | _, _, .sob q d r => .sob (h _ _ q) (h _ _ d) (Reps.mono h r)
  | _, _, .xob q d r => .xob (h _ _ q) (d.mono h) (Reps.mono h r)
  | _, _, .fn n => .fn n
  | _, _, .scr q => .scr (sqL_le h q)
theorem Reps.mono {C : QC} {F F' : Hp} (h : ∀ a o, F a = some o → F' a = some o) : ∀ {ps : List P} {vs : List V}, Reps C F ps vs → Reps C F' ps vs
  | _, _, .nil => .nil
  | _, _, .cons r t => .cons (Rep.mono h r) (Reps.mono h t)
end
theorem Reps.append {C : QC} {F : Hp} : ∀ {ps qs : List P} {vs us : List V}, Reps C F ps vs → Reps C F qs us → Reps C F (ps ++ qs) (vs ++ us)
  | _, _, _, _, .nil, k => k
  | _, _, _, _, .cons r t, k => .cons r (Reps.append t k)
theorem Reps.get {C : QC} {F : Hp} : ∀ {ps : List P} {vs : List V} {i : Nat} {p : P}, Reps C F ps vs → ps[i]? = some p → ∃ v, vs[i]? = some v ∧ Rep C F p v
  | _, _, _, _, .nil, e => by simp at e
  | _, _, 0, _, .cons r _, e => by simp at e; subst e; exact ⟨_, rfl, r⟩
  | _, _, i + 1, _, .cons _ t, e => by
    obtain ⟨v, h1, h2⟩ := Reps.get (i := i) t (by simpa using e)
    exact ⟨v, by simpa using h1, h2⟩

def RepS (C : QC) (W : Wd) : S → V → Prop
  | .p x, v => Rep C W.F x v
  | .c n, v => ∃ a, W.rho[n]? = some a ∧ v = .ref a
abbrev RepSs (C : QC) (W : Wd) : List S → List V → Prop := Paired (RepS C W)
theorem RepS.mono {C : QC} {W W' : Wd} (h : W.le W') : ∀ {s : S} {v : V}, RepS C W s v → RepS C W' s v
  | .p _, _, r => Rep.mono h.f r
  | .c _, _, ⟨a, e, q⟩ => ⟨a, h.r _ _ e, q⟩
theorem RepSs.mono {C : QC} {W W' : Wd} (h : W.le W') {ss : List S} {vs : List V} (r : RepSs C W ss vs) : RepSs C W' ss vs := Paired.mapP r fun _ _ q => q.mono h
theorem RepS.down {C : QC} {W W' : Wd} (h : W.le W') : ∀ {s : S} {v u : V}, RepS C W s v → RepS C W' s u → RepS C ⟨W'.F, W.rho, W'.G⟩ s u
  | .p _, _, _, _, r => r
  | .c n, _, _, ⟨a, e, _⟩, ⟨b, e', q⟩ => by
    have := h.r _ _ e
    rw [this] at e'; cases e'
    exact ⟨a, e, q⟩
theorem RepSs.down {C : QC} {W W' : Wd} (h : W.le W') : ∀ {ss : List S} {vs us : List V}, RepSs C W ss vs → RepSs C W' ss us → RepSs C ⟨W'.F, W.rho, W'.G⟩ ss us
  | _, _, _, .nil, .nil => .nil
  | _, _, _, .cons r t, .cons r' t' => .cons (r.down h r') (RepSs.down h t t')
theorem RepSs.of {C : QC} {W : Wd} : ∀ {ps : List P} {vs : List V}, Reps C W.F ps vs → RepSs C W (ps.map S.p) vs
  | _, _, .nil => .nil
  | _, _, .cons r t => .cons r (RepSs.of t)
theorem RepSs.to {C : QC} {W : Wd} : ∀ {ps : List P} {vs : List V}, RepSs C W (ps.map S.p) vs → Reps C W.F ps vs
  | [], _, .nil => .nil
  | _ :: _, _, .cons r t => .cons r (RepSs.to t)

def CellOk (C : QC) (W : Wd) (H : Hp) (a : Addr) : Cell → Prop
  | .lst xs => W.F a = none ∧ ∃ vs, H a = some (.lst vs) ∧ RepSs C W xs vs
  | .dk kvs => W.F a = none ∧ ∃ vs, H a = some (.dK (zipV kvs vs)) ∧ RepSs C W (kvs.map (·.2)) vs
  | .dt kvs => W.F a = none ∧ ∃ vs, H a = some (.dT (zipV kvs vs)) ∧ RepSs C W (kvs.map (·.2)) vs
  | .obj c fs => W.F a = none ∧ ∃ dx vs, H a = some (.ins (C.ca c) dx (zipV fs vs)) ∧ W.F dx = some (.own a) ∧ RepSs C W (fs.map (·.2)) vs
  | .slt c xs => W.F a = none ∧ ∃ dx vs, H a = some (SlX.SlO a (C.ca c) dx (permO vs)) ∧ W.F dx = some (.xd []) ∧ RepSs C W xs vs
  | .dead => ∃ o, H a = some o
structure RelSt (C : QC) (W : Wd) (st : Store) (H : Hp) : Prop where
  sub : ∀ a o, W.F a = some o → H a = some o
  gsub : ∀ a o, W.G a = some o → H a = some o ∧ W.F a = none
  grho : ∀ (n : Nat) a, W.rho[n]? = some a → W.G a = none
  len : W.rho.length = st.length
  cell : ∀ (n : Nat) c a, st[n]? = some c → W.rho[n]? = some a → CellOk C W H a c
  dist : ∀ (m n : Nat) a, W.rho[m]? = some a → W.rho[n]? = some a → m = n
structure RelEnv (C : QC) (W : Wd) (env : Env) (σ : St) : Prop where
  len : env.length = σ.length
  at_ : ∀ (i : Nat) s, env[i]? = some (some s) → ∃ x, σ[i]? = some (some x) ∧ RepS C W s x
theorem RelEnv.mono {C : QC} {W W' : Wd} {env : Env} {σ : St} (h : W.le W') (r : RelEnv C W env σ) : RelEnv C W' env σ :=
  ⟨r.len, fun i s e => let ⟨x, a, b⟩ := r.at_ i s e; ⟨x, a, b.mono h⟩⟩

section
variable {C : QC} {W : Wd} {st : Store} {H : Hp} {p : Addr}
theorem CellOk.there {a : Addr} {c : Cell} (h : CellOk C W H a c) : ∃ o, H a = some o := by
  cases c with
  | lst xs => obtain ⟨_, _, h, _⟩ := h; exact ⟨_, h⟩
  | dk kvs => obtain ⟨_, _, h, _⟩ := h; exact ⟨_, h⟩
  | dt kvs => obtain ⟨_, _, h, _⟩ := h; exact ⟨_, h⟩
  | obj c fs => obtain ⟨_, _, _, h, _⟩ := h; exact ⟨_, h⟩
  | slt c fs => obtain ⟨_, _, _, h, _⟩ := h; exact ⟨_, h⟩
  | dead => exact h
/-- a cell's facts carried to another heap and world -/
theorem CellOk.carry {W' : Wd} {H' : Hp} {a : Addr} {c : Cell} (h : CellOk C W H a c) (le : W.le W') (hn : W.F a = none → W'.F a = none) (hh : ∀ o, H a = some o → H' a = some o) : CellOk C W' H' a c := by
  cases c with
  | lst xs => obtain ⟨n, vs, e, r⟩ := h; exact ⟨hn n, vs, hh _ e, r.mono le⟩
  | dk kvs => obtain ⟨n, vs, e, r⟩ := h; exact ⟨hn n, vs, hh _ e, r.mono le⟩
  | dt kvs => obtain ⟨n, vs, e, r⟩ := h; exact ⟨hn n, vs, hh _ e, r.mono le⟩
  | obj c fs => obtain ⟨n, dx, vs, e, d, r⟩ := h; exact ⟨hn n, dx, vs, hh _ e, le.f _ _ d, r.mono le⟩
  | slt c fs => obtain ⟨n, dx, vs, e, d, r⟩ := h; exact ⟨hn n, dx, vs, hh _ e, le.f _ _ d, r.mono le⟩
  | dead => obtain ⟨o, e⟩ := h; exact ⟨o, hh _ e⟩
theorem RelSt.addr (r : RelSt C W st H) {n : Nat} {c : Cell} (e : st[n]? = some c) : ∃ a, W.rho[n]? = some a ∧ CellOk C W H a c := by
  have hl : n < st.length := (List.getElem?_eq_some_iff.mp e).1
  have : n < W.rho.length := by rw [r.len]; exact hl
  exact ⟨W.rho[n], List.getElem?_eq_getElem this, r.cell n c _ e (List.getElem?_eq_getElem this)⟩
theorem RelSt.rhoTracked (r : RelSt C W st H) {n : Nat} {a : Addr} (e : W.rho[n]? = some a) : ∃ o, H a = some o := by
  have hl : n < W.rho.length := (List.getElem?_eq_some_iff.mp e).1
  have : n < st.length := by rw [← r.len]; exact hl
  exact (r.cell n _ a (List.getElem?_eq_getElem this) e).there
/-- the heap has grown by an untracked address that is now frozen -/
theorem RelSt.laidF (r : RelSt C W st H) (hp : H p = none) (o : HO) : W.le ⟨upd W.F p o, W.rho, W.G⟩ ∧ RelSt C ⟨upd W.F p o, W.rho, W.G⟩ st (upd H p o) := by
  have hF : ∀ a u, W.F a = some u → a ≠ p := fun a u e z => by
    have := r.sub a u e
    rw [z, hp] at this; cases this
  have le : W.le ⟨upd W.F p o, W.rho, W.G⟩ := ⟨fun a u e => by
    show upd W.F p o a = some u
    rw [upd_ne (hF a u e)]; exact e, fun _ _ e => e, fun _ _ e => e⟩
  have hG : ∀ a u, W.G a = some u → a ≠ p := fun a u e z => by
    have := (r.gsub a u e).1
    rw [z, hp] at this; cases this
  refine ⟨le, fun a u e => ?_, fun a u e => ?_, r.grho, r.len, fun n c a e e' => ?_, r.dist⟩
  rotate_left
  · have e : W.G a = some u := e
    refine ⟨?_, ?_⟩
    · rw [upd_ne (hG a u e)]; exact (r.gsub a u e).1
    · show upd W.F p o a = none
      rw [upd_ne (hG a u e)]; exact (r.gsub a u e).2
  rotate_left
  · have e : upd W.F p o a = some u := e
    by_cases h : a = p
    · subst h; rw [upd_same] at e ⊢; exact e
    · rw [upd_ne h] at e ⊢; exact r.sub a u e
  · have e' : W.rho[n]? = some a := e'
    have hap : a ≠ p := fun z => by
      obtain ⟨u, q⟩ := r.rhoTracked e'
      rw [z, hp] at q; cases q
    exact (r.cell n c a e e').carry le (fun q => by show upd W.F p o a = none; rw [upd_ne hap]; exact q) fun u q => by rw [upd_ne hap]; exact q
/-- the heap has grown by an untracked address that no one speaks of -/
theorem RelSt.laid0 (r : RelSt C W st H) (hp : H p = none) (o : HO) : RelSt C W st (upd H p o) := by
  refine ⟨fun a u e => ?_, fun a u e => ?_, r.grho, r.len, fun n c a e e' => ?_, r.dist⟩
  · have h := r.sub a u e
    rw [upd_ne (ne_of_none h hp)]; exact h
  · have h := r.gsub a u e
    refine ⟨?_, h.2⟩
    rw [upd_ne (ne_of_none h.1 hp)]; exact h.1
  · have hap : a ≠ p := fun z => by
      obtain ⟨u, q⟩ := r.rhoTracked e'
      rw [z, hp] at q; cases q
    exact (r.cell n c a e e').carry W.le_refl (fun q => q) fun u q => by rw [upd_ne hap]; exact q
/-- a new cell -/
theorem RelSt.laidC (r : RelSt C W st H) (hp : H p = none) {o : HO} {c : Cell} (hc : CellOk C ⟨W.F, W.rho ++ [p], W.G⟩ (upd H p o) p c) :
    W.le ⟨W.F, W.rho ++ [p], W.G⟩ ∧ RelSt C ⟨W.F, W.rho ++ [p], W.G⟩ (st ++ [c]) (upd H p o) ∧ (W.rho ++ [p])[st.length]? = some p := by
  have le : W.le ⟨W.F, W.rho ++ [p], W.G⟩ := ⟨fun _ _ e => e, fun n a e => by
    show (W.rho ++ [p])[n]? = some a
    rw [List.getElem?_append_left (List.getElem?_eq_some_iff.mp e).1]; exact e, fun _ _ e => e⟩
  have last : (W.rho ++ [p])[st.length]? = some p := by
    rw [← r.len]; simp
  have split : ∀ (n : Nat) a, (W.rho ++ [p])[n]? = some a → (W.rho[n]? = some a ∧ n < st.length) ∨ (a = p ∧ n = st.length) := fun n a e => by
    by_cases h : n < W.rho.length
    · rw [List.getElem?_append_left h] at e
      exact .inl ⟨e, by rw [← r.len]; exact h⟩
    · rw [List.getElem?_append_right (by omega)] at e
      have hz : n - W.rho.length = 0 := by
        have := (List.getElem?_eq_some_iff.mp e).1
        simp at this; omega
      rw [hz] at e
      simp at e
      exact .inr ⟨e.symm, by rw [← r.len]; omega⟩
  refine ⟨le, ⟨fun a u e => ?_, fun a u e => ?_, fun n a e => ?_, by simp [r.len], fun n c' a e e' => ?_, fun m n a e e' => ?_⟩, last⟩
  · have h := r.sub a u e
    rw [upd_ne (ne_of_none h hp)]; exact h
  · have h := r.gsub a u e
    refine ⟨?_, h.2⟩
    rw [upd_ne (ne_of_none h.1 hp)]; exact h.1
  · show W.G a = none
    rcases split n a e with ⟨q, _⟩ | ⟨rfl, _⟩
    · exact r.grho n a q
    · cases z : W.G a with
      | none => rfl
      | some u =>
        have := (r.gsub a u z).1
        rw [hp] at this; cases this
  · rcases split n a e' with ⟨q, hn⟩ | ⟨rfl, rfl⟩
    · rw [List.getElem?_append_left hn] at e
      have hap : a ≠ p := fun z => by
        obtain ⟨u, q⟩ := r.rhoTracked q
        rw [z, hp] at q; cases q
      exact (r.cell n c' a e q).carry le (fun q => q) fun u q => by rw [upd_ne hap]; exact q
    · have : (st ++ [c])[st.length]? = some c := by simp
      rw [this] at e; cases e
      exact hc
  · rcases split m a e with ⟨q, hm⟩ | ⟨rfl, rfl⟩ <;> rcases split n _ e' with ⟨q', hn⟩ | ⟨z, rfl⟩
    · exact r.dist m n a q q'
    · subst z
      obtain ⟨u, z⟩ := r.rhoTracked q
      rw [hp] at z; cases z
    · obtain ⟨u, z⟩ := r.rhoTracked q'
      rw [hp] at z; cases z
    · rfl
/-- a cell is written -/
theorem RelSt.write (r : RelSt C W st H) {n : Nat} {a : Addr} {c c' : Cell} {o : HO} (e : st[n]? = some c) (ea : W.rho[n]? = some a) (hF : W.F a = none) (hc : CellOk C W (upd H a o) a c') : RelSt C W (st.set n c') (upd H a o) := by
  have hl : n < st.length := (List.getElem?_eq_some_iff.mp e).1
  refine ⟨fun b u q => ?_, fun b u q => ?_, r.grho, by rw [List.length_set]; exact r.len, fun m c'' b q q' => ?_, r.dist⟩
  · have : b ≠ a := fun z => by rw [z, hF] at q; cases q
    rw [upd_ne this]; exact r.sub b u q
  · have : b ≠ a := fun z => by rw [z, r.grho n a ea] at q; cases q
    refine ⟨?_, (r.gsub b u q).2⟩
    rw [upd_ne this]; exact (r.gsub b u q).1
  · by_cases h : m = n
    · subst h
      rw [List.getElem?_set_self hl] at q; cases q
      rw [ea] at q'; cases q'
      exact hc
    · rw [List.getElem?_set_ne (Ne.symm h)] at q
      have : b ≠ a := fun z => h (r.dist m n b q' (z ▸ ea))
      exact (r.cell m c'' b q q').carry W.le_refl (fun q => q) fun u z => by rw [upd_ne this]; exact z
/-- a cell is frozen: o is what stands there -/
theorem RelSt.freeze (r : RelSt C W st H) {n : Nat} {a : Addr} {o : HO} (ea : W.rho[n]? = some a) (hF : W.F a = none) (ho : H a = some o) : W.le ⟨upd W.F a o, W.rho, W.G⟩ ∧ RelSt C ⟨upd W.F a o, W.rho, W.G⟩ (st.set n .dead) H := by
  have hl : n < st.length := by rw [← r.len]; exact (List.getElem?_eq_some_iff.mp ea).1
  have le : W.le ⟨upd W.F a o, W.rho, W.G⟩ := ⟨fun b u e => by
    have : b ≠ a := fun z => by rw [z, hF] at e; cases e
    show upd W.F a o b = some u
    rw [upd_ne this]; exact e, fun _ _ e => e, fun _ _ e => e⟩
  refine ⟨le, fun b u q => ?_, fun b u q => ?_, r.grho, by rw [List.length_set]; exact r.len, fun m c b q q' => ?_, r.dist⟩
  rotate_left
  · have q : W.G b = some u := q
    have : b ≠ a := fun z => by rw [z, r.grho n a ea] at q; cases q
    refine ⟨(r.gsub b u q).1, ?_⟩
    show upd W.F a o b = none
    rw [upd_ne this]; exact (r.gsub b u q).2
  rotate_left
  · have q : upd W.F a o b = some u := q
    by_cases h : b = a
    · subst h; rw [upd_same] at q; cases q; exact ho
    · rw [upd_ne h] at q; exact r.sub b u q
  · have q' : W.rho[m]? = some b := q'
    by_cases h : m = n
    · subst h
      rw [List.getElem?_set_self hl] at q; cases q
      rw [ea] at q'; cases q'
      exact ⟨o, ho⟩
    · rw [List.getElem?_set_ne (Ne.symm h)] at q
      have : b ≠ a := fun z => h (r.dist m n b q' (z ▸ ea))
      exact (r.cell m c b q q').carry le (fun z => by show upd W.F a o b = none; rw [upd_ne this]; exact z) fun u z => z
/-- .. and locked -/
theorem RelSt.freezeL (r : RelSt C W st H) {n : Nat} {a : Addr} {o : HO} (ea : W.rho[n]? = some a) (hF : W.F a = none) : W.le ⟨upd W.F a o, W.rho, W.G⟩ ∧ RelSt C ⟨upd W.F a o, W.rho, W.G⟩ (st.set n .dead) (upd H a o) := by
  have hl : n < st.length := by rw [← r.len]; exact (List.getElem?_eq_some_iff.mp ea).1
  have r1 := r.write (c' := .dead) (o := o) (List.getElem?_eq_getElem hl) ea hF ⟨o, upd_same⟩
  have := r1.freeze ea hF upd_same
  rwa [List.set_set] at this
/-- the cells that a call has made are forgotten -/
theorem RelSt.trunc {W' : Wd} {new : Store} {H' : Hp} (r : RelSt C W st H) (le : W.le W') (r' : RelSt C W' (st ++ new) H') : W.le ⟨W'.F, W.rho, W'.G⟩ ∧ RelSt C ⟨W'.F, W.rho, W'.G⟩ st H' := by
  refine ⟨⟨le.f, fun _ _ e => e, le.g⟩, fun a u e => r'.sub a u e, fun a u e => r'.gsub a u e, fun n a e => r'.grho n a (le.r n a e), r.len, fun n c a e e' => ?_, r.dist⟩
  have e' : W.rho[n]? = some a := e'
  have hl : n < st.length := (List.getElem?_eq_some_iff.mp e).1
  have h1 := r.cell n c a e e'
  have h2 := r'.cell n c a (by rw [List.getElem?_append_left hl]; exact e) (le.r _ _ e')
  cases c with
  | lst xs =>
    obtain ⟨_, _, _, q⟩ := h1
    obtain ⟨n2, vs, e2, q2⟩ := h2
    exact ⟨n2, vs, e2, RepSs.down le q q2⟩
  | dk kvs =>
    obtain ⟨_, _, _, q⟩ := h1
    obtain ⟨n2, vs, e2, q2⟩ := h2
    exact ⟨n2, vs, e2, RepSs.down le q q2⟩
  | dt kvs =>
    obtain ⟨_, _, _, q⟩ := h1
    obtain ⟨n2, vs, e2, q2⟩ := h2
    exact ⟨n2, vs, e2, RepSs.down le q q2⟩
  | obj c fs =>
    obtain ⟨_, _, _, _, _, q⟩ := h1
    obtain ⟨n2, dx, vs, e2, d, q2⟩ := h2
    exact ⟨n2, dx, vs, e2, d, RepSs.down le q q2⟩
  | slt c fs =>
    obtain ⟨_, _, _, _, _, q⟩ := h1
    obtain ⟨n2, dx, vs, e2, d, q2⟩ := h2
    exact ⟨n2, dx, vs, e2, d, RepSs.down le q q2⟩
  | dead => exact h2
end

/-- an exception's fields -/
def exok (C : QC) (W : Wd) (c : Nat) (fs : List (Str × P)) (d : Option Addr) : Prop := ∃ vs, XdOk W.F d (zipV fs vs) ∧ Reps C W.F (fs.map (·.2)) vs
/-- behind r: what must hold of each end -/
def Aft {α : Type} (C : QC) (E : XK) (W : Wd) (r : R α) (k : Wd → α → Store → Hp → Prop) : Prop :=
  match r with
  | .ok a st => ∀ W' H', W.le W' → RelSt C W' st H' → k W' a st H'
  | .exc c fs st => ∀ W' H' d, W.le W' → RelSt C W' st H' → exok C W' c fs d → E (.ref (C.ca c)) d H'
  | .stuck => False
section
variable {C : QC} {E : XK} {W W' : Wd} {α β : Type}
theorem Aft.bind {r : R α} {f : α → Store → R β} {k : Wd → β → Store → Hp → Prop} (h : Aft C E W (r.bind f) k) : Aft C E W r fun W1 a st _ => Aft C E W1 (f a st) k := by
  cases r with
  | ok a st =>
    intro W1 H1 le _
    have h : Aft C E W (f a st) k := h
    show Aft C E W1 (f a st) k
    cases hf : f a st with
    | ok b st2 => rw [hf] at h; exact fun W2 H2 le2 r2 => h W2 H2 (le.trans le2) r2
    | exc c fs st2 => rw [hf] at h; exact fun W2 H2 d le2 r2 => h W2 H2 d (le.trans le2) r2
    | stuck => rw [hf] at h; exact h
  | exc c fs st => exact h
  | stuck => exact h
theorem Aft.imp {r : R α} {k k' : Wd → α → Store → Hp → Prop} (h : Aft C E W r k) (q : ∀ W1 a st H1, W.le W1 → RelSt C W1 st H1 → k W1 a st H1 → k' W1 a st H1) : Aft C E W r k' := by
  cases r with
  | ok a st => exact fun W1 H1 le r => q _ _ _ _ le r (h W1 H1 le r)
  | exc c fs st => exact h
  | stuck => exact h
theorem Aft.later {r : R α} {k : Wd → α → Store → Hp → Prop} (h : Aft C E W r k) (le : W.le W') : Aft C E W' r k := by
  cases r with
  | ok a st => exact fun W1 H1 le1 r => h W1 H1 (le.trans le1) r
  | exc c fs st => exact fun W1 H1 d le1 r => h W1 H1 d (le.trans le1) r
  | stuck => exact h
theorem Aft.ok {a : α} {st : Store} {k : Wd → α → Store → Hp → Prop} {W1 : Wd} {H1 : Hp} (h : Aft C E W (.ok a st) k) (le : W.le W1) (r : RelSt C W1 st H1) : k W1 a st H1 := h W1 H1 le r
end

/-! ### readings -/
def T (C : QC) (E : XK) (f : XE) : TE := fun σ H Q => ∃ W env st, RelSt C W st H ∧ RelEnv C W env σ ∧ Aft C E W (f env st) fun W' v _ H' => ∀ x, RepS C W' v x → Q x H'
def TAr (C : QC) (E : XK) (f : XA) : TA := fun σ H Q => ∃ W env st, RelSt C W st H ∧ RelEnv C W env σ ∧ Aft C E W (f env st) fun W' vs _ H' => ∀ xs, RepSs C W' vs xs → Q xs H'
def TTs (C : QC) (E : XK) (f : XT) : TT := fun σ H Q => ∃ W env st, RelSt C W st H ∧ RelEnv C W env σ ∧ Aft C E W (f env st) fun _ b _ H' => Q b H'
def EndsOk (C : QC) (D : Ends) (W : Wd) (o : O) (H : Hp) : Prop :=
  match o with
  | .nx env => ∀ σ, RelEnv C W env σ → D.nx σ H
  | .rt v => ∀ x, RepS C W v x → D.rt x H
  | .bk env => ∀ σ, RelEnv C W env σ → D.bk σ H
  | .ct env => ∀ σ, RelEnv C W env σ → D.ct σ H
def TSt (C : QC) (E : XK) (f : XS) : TS := fun D σ H => ∃ W env st, RelSt C W st H ∧ RelEnv C W env σ ∧ Aft C E W (f env st) fun W' o _ H' => EndsOk C D W' o H'
/-- the judgements -/
abbrev QE (X : Cx) (C : QC) (E : XK) (e : Expr) (f : XE) : Prop := PE X e (T C E f)
abbrev QA (X : Cx) (C : QC) (E : XK) (es : List Expr) (f : XA) : Prop := PA X es (TAr C E f)
abbrev QT (X : Cx) (C : QC) (E : XK) (e : Expr) (f : XT) : Prop := PW X e (TTs C E f)
abbrev QS (X : Cx) (C : QC) (E : XK) (s : Stmt) (f : XS) : Prop := PS X s (TSt C E f)
abbrev QSs (X : Cx) (C : QC) (E : XK) (s : List Stmt) (f : XS) : Prop := PSs X s (TSt C E f)

section
variable {C : QC} {E : XK} {W : Wd} {env : Env} {st : Store} {σ : St} {H : Hp} {β : Type}
/-- the reading of a part, where the whole goes on behind it -/
theorem T.of {f : XE} {g : S → Store → R β} {k : Wd → β → Store → Hp → Prop} {Q : VK} (r : RelSt C W st H) (n : RelEnv C W env σ) (h : Aft C E W ((f env st).bind g) k)
    (q : ∀ W1 v st1 H1 x, W.le W1 → RelSt C W1 st1 H1 → RelEnv C W1 env σ → RepS C W1 v x → Aft C E W1 (g v st1) k → Q x H1) : T C E f σ H Q :=
  ⟨W, env, st, r, n, h.bind.imp fun W1 v st1 H1 le r1 z x rx => q W1 v st1 H1 x le r1 (n.mono le) rx z⟩
theorem TAr.of {f : XA} {g : List S → Store → R β} {k : Wd → β → Store → Hp → Prop} {Q : List V → Hp → Prop} (r : RelSt C W st H) (n : RelEnv C W env σ) (h : Aft C E W ((f env st).bind g) k)
    (q : ∀ W1 vs st1 H1 xs, W.le W1 → RelSt C W1 st1 H1 → RelEnv C W1 env σ → RepSs C W1 vs xs → Aft C E W1 (g vs st1) k → Q xs H1) : TAr C E f σ H Q :=
  ⟨W, env, st, r, n, h.bind.imp fun W1 v st1 H1 le r1 z x rx => q W1 v st1 H1 x le r1 (n.mono le) rx z⟩
theorem TTs.of {f : XT} {g : Bool → Store → R β} {k : Wd → β → Store → Hp → Prop} {Q : Bool → Hp → Prop} (r : RelSt C W st H) (n : RelEnv C W env σ) (h : Aft C E W ((f env st).bind g) k)
    (q : ∀ W1 b st1 H1, W.le W1 → RelSt C W1 st1 H1 → RelEnv C W1 env σ → Aft C E W1 (g b st1) k → Q b H1) : TTs C E f σ H Q :=
  ⟨W, env, st, r, n, h.bind.imp fun W1 v st1 H1 le r1 z => q W1 v st1 H1 le r1 (n.mono le) z⟩
theorem TSt.of {f : XS} {g : O → Store → R β} {k : Wd → β → Store → Hp → Prop} {D : Ends} (r : RelSt C W st H) (n : RelEnv C W env σ) (h : Aft C E W ((f env st).bind g) k)
    (q : ∀ W1 o st1 H1, W.le W1 → RelSt C W1 st1 H1 → Aft C E W1 (g o st1) k → EndsOk C D W1 o H1) : TSt C E f D σ H :=
  ⟨W, env, st, r, n, h.bind.imp fun W1 v st1 H1 le r1 z => q W1 v st1 H1 le r1 z⟩
end
end Q

set_option Elab.async false
set_option linter.all false
set_option maxRecDepth 100000
set_option maxHeartbeats 1000000
/-! Q2: operations by values, expressions -/
namespace Q
open PySem L2

structure Ok (X : Cx) (C : QC) : Prop where
  hC : C.K = X.K
  hP : C.prog = X.prog
  hw : C.w = X.w
  calm : X.calm = true
  hu : X.A.units + 100 < cLine

/-! ### what a value is as data -/
mutual
def toD : P → Option PyData
  | .non => some .none
  | .bl b => some (.bool b)
  | .int i => some (.int i)
  | .str x => some (.str x)
  | .tup l => (toDs l).map .tuple
  | .ktup l => (toDs l).map .tuple
  | .lst l => (toDs l).map .list
  | .dk _ => none
  | .dt _ => none
  | .kdk _ => none
  | .obj _ _ => none
  | .sob _ _ => none
  | .xob _ _ => none
  | .fn _ => none
  | .scr ns => some (.list (ns.map PyData.int))
def toDs : List P → Option (List PyData)
  | [] => some []
  | p :: ps => match toD p, toDs ps with
    | some d, some ds => some (d :: ds)
    | _, _ => none
end
def pureS : S → Option P
  | .p x => some x
  | .c _ => none
def pureSs : List S → Option (List P)
  | [] => some []
  | .p x :: r => match pureSs r with
    | some l => some (x :: l)
    | none => none
  | .c _ :: _ => none
/-- a value, a cell read through -/
def lookP (st : Store) : S → Option P
  | .p x => some x
  | .c n => match st[n]? with
    | some (.lst xs) => (pureSs xs).map .lst
    | _ => none
theorem pureSs_map : ∀ ps : List P, pureSs (ps.map S.p) = some ps
  | [] => rfl
  | p :: ps => by simp [pureSs, pureSs_map ps]
theorem pureSs_eq : ∀ {xs : List S} {ps : List P}, pureSs xs = some ps → xs = ps.map S.p
  | [], ps, h => by simp [pureSs] at h; subst h; rfl
  | .p x :: r, ps, h => by
    unfold pureSs at h
    cases q : pureSs r with
    | none => rw [q] at h; cases h
    | some l => rw [q] at h; cases h; simp [pureSs_eq q]
  | .c _ :: _, _, h => by simp [pureSs] at h

theorem dp_ints {K : PySem.W.Frag} {H : Hp} : ∀ ns : List Int, DpAll K H (ns.map V.int) (ns.map PyData.int)
  | [] => .nil
  | n :: ns => .cons (.int n) (dp_ints ns)
mutual
theorem Rep.dp {C : QC} {F H : Hp} (sub : ∀ a o, F a = some o → H a = some o) : ∀ {p : P} {v : V} {d : PyData}, Rep C F p v → toD p = some d → Dp C.K H v d
  | _, _, _, .non, h => by simp [toD] at h; subst h; exact .non
  | _, _, _, .bl b, h => by simp [toD] at h; subst h; exact .bl b
  | _, _, _, .int i, h => by simp [toD] at h; subst h; exact .int i
  | _, _, _, .str x, h => by simp [toD] at h; subst h; exact .str x
  | .tup ps, _, d, .tup q r, h => by
    unfold toD at h
    cases e : toDs ps with
    | none => rw [e] at h; cases h
    | some ds => rw [e] at h; cases h; exact .tup (SqT.of (sub _ _ q)) (Reps.dp sub r e)
  | .ktup ps, _, d, .ktup q r, h => by
    unfold toD at h
    cases e : toDs ps with
    | none => rw [e] at h; cases h
    | some ds => rw [e] at h; cases h; exact .tup (sqT_le sub q) (Reps.dp sub r e)
  | .lst ps, _, d, .lst q r, h => by
    unfold toD at h
    cases e : toDs ps with
    | none => rw [e] at h; cases h
    | some ds => rw [e] at h; cases h; exact .lst (SqL.of (sub _ _ q)) (Reps.dp sub r e)
  | _, _, _, .dk _ _, h => by simp [toD] at h
  | _, _, _, .dt _ _, h => by simp [toD] at h
  | _, _, _, .kdk _ _, h => by simp [toD] at h
  | _, _, _, .obj _ _ _, h => by simp [toD] at h
  | _, _, _, .sob _ _ _, h => by simp [toD] at h
  | _, _, _, .xob _ _ _, h => by simp [toD] at h
  | _, _, _, .fn _, h => by simp [toD] at h
  | .scr ns, _, _, .scr q, h => by simp [toD] at h; subst h; exact .lst (sqL_le sub q) (dp_ints ns)
theorem Reps.dp {C : QC} {F H : Hp} (sub : ∀ a o, F a = some o → H a = some o) : ∀ {ps : List P} {vs : List V} {ds : List PyData}, Reps C F ps vs → toDs ps = some ds → DpAll C.K H vs ds
  | _, _, _, .nil, h => by simp [toDs] at h; subst h; exact .nil
  | p :: ps, _, ds, .cons r t, h => by
    unfold toDs at h
    cases e : toD p with
    | none => rw [e] at h; cases h
    | some d =>
      cases e2 : toDs ps with
      | none => rw [e, e2] at h; cases h
      | some es => rw [e, e2] at h; cases h; exact .cons (Rep.dp sub r e) (Reps.dp sub t e2)
end

theorem RepSs.append {C : QC} {W : Wd} : ∀ {ss ts : List S} {vs us : List V}, RepSs C W ss vs → RepSs C W ts us → RepSs C W (ss ++ ts) (vs ++ us)
  | _, _, _, _, .nil, k => k
  | _, _, _, _, .cons r t, k => .cons r (RepSs.append t k)
section
variable {X : Cx} {C : QC} {E : XK} {W : Wd} {st : Store} {H : Hp}
theorem look_dp (r : RelSt C W st H) {u : S} {x : V} {p : P} {d : PyData} (rx : RepS C W u x) (e : lookP st u = some p) (hd : toD p = some d) : Dp C.K H x d := by
  cases u with
  | p q =>
    simp [lookP] at e; subst e
    exact Rep.dp r.sub rx hd
  | c n =>
    cases q : st[n]? with
    | none => simp [lookP, q] at e
    | some c =>
      cases c <;> simp [lookP, q] at e
      rename_i xs
      obtain ⟨ps, e1, e2⟩ := e
      subst e2
      obtain ⟨a, ea, ex⟩ := rx
      subst ex
      obtain ⟨hF, vs, eH, rv⟩ := r.cell n _ a q ea
      have := pureSs_eq e1
      subst this
      unfold toD at hd
      cases z : toDs ps with
      | none => rw [z] at hd; cases hd
      | some ds => rw [z] at hd; cases hd; exact .lst (SqL.of eH) (Reps.dp r.sub rv.to z)

/-! ### operations by values: from values and store to an end -/
abbrev GOp := S → S → Store → R S
def RqOp (C : QC) (E : XK) (r : R2) (g : GOp) : Prop :=
  ∀ (W : Wd) (st : Store) (H : Hp) (u v : S) (x y : V) (Q : VK), RelSt C W st H → RepS C W u x → RepS C W v y → Aft C E W (g u v st) (fun W' z _ H' => ∀ w, RepS C W' z w → Q w H') → r x y H Q
abbrev GCall := List S → Store → R S
def RqCall (C : QC) (E : XK) (r : List V → Hp → VK → Prop) (g : GCall) : Prop :=
  ∀ (W : Wd) (st : Store) (H : Hp) (us : List S) (xs : List V) (Q : VK), RelSt C W st H → RepSs C W us xs → Aft C E W (g us st) (fun W' z _ H' => ∀ w, RepS C W' z w → Q w H') → r xs H Q
/-- the end of a value that is not on the heap -/
theorem aft_here {p : P} {x : V} {k : Wd → S → Store → Hp → Prop} (r : RelSt C W st H) (h : Aft C E W (.ok (.p p) st) k) : k W (.p p) st H := h W H W.le_refl r

/-! ### expressions -/
def eVar (i : Nat) : XE := fun env st => match env[i]? with
  | some (some v) => .ok v st
  | _ => .stuck
def eC (p : P) : XE := fun _ st => .ok (.p p) st
def eBin (g : GOp) (a b : XE) : XE := fun env st => (a env st).bind fun u st => (b env st).bind fun v st => g u v st
def eAnd (a b : XE) : XE := fun env st => (a env st).bind fun u st => match u with
  | .p (.bl true) => b env st
  | .p (.bl false) => .ok (.p (.bl false)) st
  | _ => .stuck
def eOr (a b : XE) : XE := fun env st => (a env st).bind fun u st => match u with
  | .p (.bl false) => b env st
  | .p (.bl true) => .ok (.p (.bl true)) st
  | _ => .stuck
def eNot (a : XE) : XE := fun env st => (a env st).bind fun u st => match u with
  | .p (.bl b) => .ok (.p (.bl (!b))) st
  | _ => .stuck
/-- as a test -/
def tOf (a : XE) : XT := fun env st => (a env st).bind fun u st => match u with
  | .p (.bl b) => .ok b st
  | _ => .stuck
def eIf (c a b : XE) : XE := fun env st => (tOf c env st).bind fun t st => if t = true then a env st else b env st
abbrev QB (X : Cx) (C : QC) (E : XK) (e : Expr) (f : XE) : Prop := PT X e (TTs C E (tOf f))
abbrev QW (X : Cx) (C : QC) (E : XK) (e : Expr) (f : XE) : Prop := PW X e (TTs C E (tOf f))

/-- a reading may be replaced by one that follows from it -/
theorem _root_.L2.PE.imp {e : Expr} {t u : TE} (h : PE X e t) (i : ∀ σ H Q, u σ H Q → t σ H Q) : PE X e u := ⟨fun pins s σ H Q I q => h.run pins s σ H Q I (i σ H Q q)⟩
theorem _root_.L2.PT.imp {e : Expr} {t u : TT} (h : PT X e t) (i : ∀ σ H Q, u σ H Q → t σ H Q) : PT X e u := ⟨fun pins s σ H Q I q => h.run pins s σ H Q I (i σ H Q q)⟩
theorem _root_.L2.PW.imp {e : Expr} {t u : TT} (h : PW X e t) (i : ∀ σ H Q, u σ H Q → t σ H Q) : PW X e u := ⟨fun wh pins s σ H Q I q => h.run wh pins s σ H Q I (i σ H Q q)⟩
theorem _root_.L2.PA.imp {es : List Expr} {t u : TA} (h : PA X es t) (i : ∀ σ H Q, u σ H Q → t σ H Q) : PA X es u := ⟨fun pos pins s σ H Q I q => h.run pos pins s σ H Q I (i σ H Q q)⟩
theorem _root_.L2.PS.imp {e : Stmt} {t u : TS} (h : PS X e t) (i : ∀ D σ H, u D σ H → t D σ H) : PS X e u := ⟨fun pins s σ H D I q => h.run pins s σ H D I (i D σ H q)⟩
theorem _root_.L2.PSs.imp {e : List Stmt} {t u : TS} (h : PSs X e t) (i : ∀ D σ H, u D σ H → t D σ H) : PSs X e u := ⟨fun pins s σ H D I q => h.run pins s σ H D I (i D σ H q)⟩

variable {e a b c : Expr} {es rest : List Expr} {fa fb fc : XE} {pos p : Pos} {x m : Str}
theorem qe_var {i : Nat} (hN : X.N[i]? = some x) (hv : Vis X.env.scope x) (hd : (x == ("__debug__" : Str)) = false := by decide) (hcd : (x == ("__classdict__" : Str)) = false := by decide) : QE X C E (.Name x pos) (eVar i) := by
  refine (pe_var hN hv hd hcd).imp fun σ H Q h => ?_
  obtain ⟨W, env, st, r, n, h⟩ := h
  unfold eVar at h
  cases q : env[i]? with
  | none => rw [q] at h; exact h.elim
  | some o =>
    cases o with
    | none => rw [q] at h; exact h.elim
    | some v =>
      rw [q] at h
      obtain ⟨y, e, ry⟩ := n.at_ i v q
      exact ⟨y, e, h W H W.le_refl r y ry⟩
/-- a value that stands fast -/
theorem qe_const {v : V} {q : P} (h : PE X e (tC v)) (hr : ∀ F, Rep C F q v) : QE X C E e (eC q) :=
  h.imp fun σ H Q ⟨W, env, st, r, n, k⟩ => k W H W.le_refl r v (hr _)
theorem qe_int {i j} : QE X C E (.Constant (.int i) j pos) (eC (.int i)) := qe_const pe_int fun _ => .int i
theorem qe_bl {i j} : QE X C E (.Constant (.bool i) j pos) (eC (.bl i)) := qe_const pe_bl fun _ => .bl i
theorem qe_non {j} : QE X C E (.Constant .none j pos) (eC .non) := qe_const pe_non fun _ => .non
theorem qe_str {z j} : QE X C E (.Constant (.str z) j pos) (eC (.str z)) := qe_const pe_str fun _ => .str z
theorem qe_glob {u : Value} {v : V} {q : P} (hg : Gl X x) (hm : X.mg x = some u) (r : RelV v u) (hr : ∀ F, Rep C F q v) (hd : (x == ("__debug__" : Str)) = false := by decide) : QE X C E (.Name x pos) (eC q) := qe_const (pe_glob hg hm r hd) hr
theorem qe_op {op : Operator} {r : R2} {g : GOp} (ho : OpR X (binaryOp op) r) (hg : RqOp C E r g) (ha : QE X C E a fa) (hb : QE X C E b fb) : QE X C E (.BinOp a op b pos) (eBin g fa fb) := by
  refine (pe_op ho ha hb).imp fun σ H Q h => ?_
  obtain ⟨W, env, st, rs, n, h⟩ := h
  refine T.of rs n h fun W1 u st1 H1 x _ r1 n1 rx h1 => T.of r1 n1 h1 fun W2 v st2 H2 y le2 r2 n2 ry h2 => ?_
  exact hg W2 st2 H2 u v x y Q r2 (rx.mono le2) ry h2
theorem qe_cmp {op : CmpOp} {r : R2} {g : GOp} (ho : OpR X (compareOp op) r) (hg : RqOp C E r g) (ha : QE X C E a fa) (hb : QE X C E b fb) (hm : behindInMarks op b = false) : QE X C E (.Compare a [op] [b] pos) (eBin g fa fb) := by
  refine (pe_cmpR ho ha hb hm).imp fun σ H Q h => ?_
  obtain ⟨W, env, st, rs, n, h⟩ := h
  refine T.of rs n h fun W1 u st1 H1 x _ r1 n1 rx h1 => T.of r1 n1 h1 fun W2 v st2 H2 y le2 r2 n2 ry h2 => ?_
  exact hg W2 st2 H2 u v x y Q r2 (rx.mono le2) ry h2
theorem tOf_aft {f : XE} {env : Env} {k : Wd → Bool → Store → Hp → Prop} (h : Aft C E W (tOf f env st) k) : Aft C E W (f env st) fun W1 u st1 _ => Aft C E W1 (match u with | .p (.bl b) => .ok b st1 | _ => .stuck) k := Aft.bind h
/-- the end of a test: the value is a bool -/
theorem tEnd {W1 : Wd} {u : S} {st1 : Store} {H1 : Hp} {y : V} {Q : Bool → Hp → Prop} (r1 : RelSt C W1 st1 H1) (ry : RepS C W1 u y) (h : Aft C E W1 (match u with | .p (.bl b) => .ok b st1 | _ => .stuck) fun _ b _ H' => Q b H') : ∃ k, y = .bl k ∧ Q k H1 := by
  cases u with
  | c n => exact h.elim
  | p q =>
    cases q <;> first
      | exact h.elim
      | (rename_i b; cases ry; exact ⟨b, rfl, h W1 H1 W1.le_refl r1⟩)
theorem qb_cmp {op : CmpOp} {r : R2} {g : GOp} (ho : OpR X (compareOp op) r) (hg : RqOp C E r g) (ha : QE X C E a fa) (hb : QE X C E b fb) (hm : behindInMarks op b = false) : QB X C E (.Compare a [op] [b] pos) (eBin g fa fb) := by
  refine (pt_cmpR ho ha hb hm).imp fun σ H Q h => ?_
  obtain ⟨W, env, st, rs, n, h⟩ := h
  have h := tOf_aft h
  refine T.of rs n h fun W1 u st1 H1 x _ r1 n1 rx h1 => T.of r1 n1 h1 fun W2 v st2 H2 y le2 r2 n2 ry h2 => ?_
  refine hg W2 st2 H2 u v x y _ r2 (rx.mono le2) ry (h2.imp fun W3 z st3 H3 le3 r3 h3 w rw' => ?_)
  exact tEnd r3 rw' h3
/-- chains of comparisons of two -/
def eChain (g g' : GOp) (a b c : XE) : XE := fun env st => (a env st).bind fun u st => (b env st).bind fun v st => (g u v st).bind fun z st => match z with
  | .p (.bl true) => (c env st).bind fun w st => g' v w st
  | .p (.bl false) => .ok (.p (.bl false)) st
  | _ => .stuck
theorem qe_chain {op op' : CmpOp} {r r' : R2} {g g' : GOp} (ho : OpR X (compareOp op) r) (ho' : OpR X (compareOp op') r') (hg : RqOp C E r g) (hg' : RqOp C E r' g') (ha : QE X C E a fa) (hb : QE X C E b fb) (hc : QE X C E c fc)
    (h1 : lastMarks [op, op'] [b, c] = false) : QE X C E (.Compare a [op, op'] [b, c] pos) (eChain g g' fa fb fc) := by
  refine (pe_chain ho ho' ha hb hc h1).imp fun σ H Q h => ?_
  obtain ⟨W, env, st, rs, n, h⟩ := h
  refine T.of rs n h fun W1 u st1 H1 x _ r1 n1 rx h1 => T.of r1 n1 h1 fun W2 v st2 H2 y le2 r2 n2 ry h2 => ?_
  refine hg W2 st2 H2 u v x y _ r2 (rx.mono le2) ry (h2.bind.imp fun W3 z st3 H3 le3 r3 h3 w rw' => ?_)
  cases z with
  | c n => exact h3.elim
  | p q =>
    cases q <;> first
      | exact h3.elim
      | skip
    rename_i k
    cases rw'
    refine ⟨k, rfl, ?_⟩
    cases k with
    | false => exact h3 W3 H3 W3.le_refl r3 _ (.bl false)
    | true => exact T.of r3 (n2.mono le3) h3 fun W4 w4 st4 H4 y4 le4 r4 n4 ry4 h4 => hg' W4 st4 H4 v w4 y y4 Q r4 (ry.mono (le3.trans le4)) ry4 h4
theorem qb_chain {op op' : CmpOp} {r r' : R2} {g g' : GOp} (ho : OpR X (compareOp op) r) (ho' : OpR X (compareOp op') r') (hg : RqOp C E r g) (hg' : RqOp C E r' g') (ha : QE X C E a fa) (hb : QE X C E b fb) (hc : QE X C E c fc)
    (h1 : lastMarks [op, op'] [b, c] = false) : QB X C E (.Compare a [op, op'] [b, c] pos) (eChain g g' fa fb fc) := by
  refine (pt_chain ho ho' ha hb hc h1).imp fun σ H Q h => ?_
  obtain ⟨W, env, st, rs, n, h⟩ := h
  have h := tOf_aft h
  refine T.of rs n h fun W1 u st1 H1 x _ r1 n1 rx h1 => T.of r1 n1 h1 fun W2 v st2 H2 y le2 r2 n2 ry h2 => ?_
  refine hg W2 st2 H2 u v x y _ r2 (rx.mono le2) ry (h2.bind.imp fun W3 z st3 H3 le3 r3 h3 w rw' => ?_)
  cases z with
  | c n => exact h3.elim
  | p q =>
    cases q <;> first
      | exact h3.elim
      | skip
    rename_i k
    cases rw'
    refine ⟨k, rfl, ?_⟩
    cases k with
    | false => exact tEnd (u := .p (.bl false)) r3 (Rep.bl false) (h3 W3 H3 W3.le_refl r3)
    | true => exact T.of r3 (n2.mono le3) h3 fun W4 w4 st4 H4 y4 le4 r4 n4 ry4 h4 => hg' W4 st4 H4 v w4 y y4 _ r4 (ry.mono (le3.trans le4)) ry4 (h4.imp fun W5 z5 st5 H5 le5 r5 h5 w5 rw5 => tEnd r5 rw5 h5)
/-- a value, as a test -/
theorem qb_val (h : QE X C E e fa) (he : ∀ whole, isTrue e X.env whole = (do let v ← whole; standAt e.pos; holding [v] (truthy v)) := by intro _; rfl) : QB X C E e fa := by
  refine (pt_val h he).imp fun σ H Q h => ?_
  obtain ⟨W, env, st, rs, n, h⟩ := h
  have h := tOf_aft h
  exact ⟨W, env, st, rs, n, h.imp fun W1 u st1 H1 le1 r1 h1 y ry => tEnd r1 ry h1⟩
theorem qe_one {op} (h : QE X C E a fa) : QE X C E (.BoolOp op [a] pos) fa := pe_one h
theorem qe_and (ha : QE X C E a fa) (hb : QE X C E (.BoolOp .And (b :: rest) pos) fb) : QE X C E (.BoolOp .And (a :: b :: rest) pos) (eAnd fa fb) := by
  refine (pe_and ha hb).imp fun σ H Q h => ?_
  obtain ⟨W, env, st, rs, n, h⟩ := h
  refine T.of rs n h fun W1 u st1 H1 x _ r1 n1 rx h1 => ?_
  cases u with
  | c n => exact h1.elim
  | p q =>
    cases q <;> first
      | exact h1.elim
      | skip
    rename_i k
    cases rx
    refine ⟨k, rfl, ?_⟩
    cases k with
    | false => exact h1 W1 H1 W1.le_refl r1 _ (.bl false)
    | true => exact ⟨W1, env, st1, r1, n1, h1⟩
theorem qe_or (ha : QE X C E a fa) (hb : QE X C E (.BoolOp .Or (b :: rest) pos) fb) : QE X C E (.BoolOp .Or (a :: b :: rest) pos) (eOr fa fb) := by
  refine (pe_or ha hb).imp fun σ H Q h => ?_
  obtain ⟨W, env, st, rs, n, h⟩ := h
  refine T.of rs n h fun W1 u st1 H1 x _ r1 n1 rx h1 => ?_
  cases u with
  | c n => exact h1.elim
  | p q =>
    cases q <;> first
      | exact h1.elim
      | skip
    rename_i k
    cases rx
    refine ⟨k, rfl, ?_⟩
    cases k with
    | true => exact h1 W1 H1 W1.le_refl r1 _ (.bl true)
    | false => exact ⟨W1, env, st1, r1, n1, h1⟩
theorem qe_not (ha : QE X C E a fa) : QE X C E (.UnaryOp .Not a pos) (eNot fa) := by
  refine (pe_not ha).imp fun σ H Q h => ?_
  obtain ⟨W, env, st, rs, n, h⟩ := h
  refine T.of rs n h fun W1 u st1 H1 x _ r1 n1 rx h1 => ?_
  cases u with
  | c n => exact h1.elim
  | p q =>
    cases q <;> first
      | exact h1.elim
      | skip
    rename_i k
    cases rx
    exact ⟨k, rfl, h1 W1 H1 W1.le_refl r1 _ (.bl _)⟩
theorem tOf_and (fa fb : XE) (env : Env) (st : Store) : tOf (eAnd fa fb) env st = (tOf fa env st).bind fun t st => if t = true then tOf fb env st else .ok false st := by
  unfold tOf eAnd
  cases fa env st with
  | ok u st1 =>
    simp only [R.bind_ok]
    cases u with
    | c n => rfl
    | p q =>
      cases q <;> try rfl
      rename_i k
      cases k <;> rfl
  | exc c fs st1 => rfl
  | stuck => rfl
theorem tOf_or (fa fb : XE) (env : Env) (st : Store) : tOf (eOr fa fb) env st = (tOf fa env st).bind fun t st => if t = true then .ok true st else tOf fb env st := by
  unfold tOf eOr
  cases fa env st with
  | ok u st1 =>
    simp only [R.bind_ok]
    cases u with
    | c n => rfl
    | p q =>
      cases q <;> try rfl
      rename_i k
      cases k <;> rfl
  | exc c fs st1 => rfl
  | stuck => rfl
theorem tOf_not (fa : XE) (env : Env) (st : Store) : tOf (eNot fa) env st = (tOf fa env st).bind fun t st => .ok (!t) st := by
  unfold tOf eNot
  cases fa env st with
  | ok u st1 =>
    simp only [R.bind_ok]
    cases u with
    | c n => rfl
    | p q => cases q <;> rfl
  | exc c fs st1 => rfl
  | stuck => rfl
theorem qw_and1 (h : QB X C E a fa) : QW X C E (.BoolOp .And [a] pos) fa := pw_and1 h
theorem qw_or1 (h : QB X C E a fa) : QW X C E (.BoolOp .Or [a] pos) fa := pw_or1 h
theorem qw_and (ha : QB X C E a fa) (hb : QW X C E (.BoolOp .And (b :: rest) pos) fb) : QW X C E (.BoolOp .And (a :: b :: rest) pos) (eAnd fa fb) := by
  refine (pw_and ha hb).imp fun σ H Q h => ?_
  obtain ⟨W, env, st, rs, n, h⟩ := h
  rw [tOf_and] at h
  refine TTs.of rs n h fun W1 t st1 H1 _ r1 n1 h1 => ?_
  cases t with
  | true => exact ⟨W1, env, st1, r1, n1, h1⟩
  | false => exact h1 W1 H1 W1.le_refl r1
theorem qw_or (ha : QB X C E a fa) (hb : QW X C E (.BoolOp .Or (b :: rest) pos) fb) : QW X C E (.BoolOp .Or (a :: b :: rest) pos) (eOr fa fb) := by
  refine (pw_or ha hb).imp fun σ H Q h => ?_
  obtain ⟨W, env, st, rs, n, h⟩ := h
  rw [tOf_or] at h
  refine TTs.of rs n h fun W1 t st1 H1 _ r1 n1 h1 => ?_
  cases t with
  | false => exact ⟨W1, env, st1, r1, n1, h1⟩
  | true => exact h1 W1 H1 W1.le_refl r1
theorem qb_not (ha : QB X C E a fa) : QB X C E (.UnaryOp .Not a pos) (eNot fa) := by
  refine (pt_not ha).imp fun σ H Q h => ?_
  obtain ⟨W, env, st, rs, n, h⟩ := h
  rw [tOf_not] at h
  exact TTs.of rs n h fun W1 t st1 H1 _ r1 n1 h1 => h1 W1 H1 W1.le_refl r1
theorem qe_if (hc : QB X C E c fc) (ha : QE X C E a fa) (hb : QE X C E b fb) : QE X C E (.IfExp c a b pos) (eIf fc fa fb) := by
  refine (pe_ifExp hc ha hb).imp fun σ H Q h => ?_
  obtain ⟨W, env, st, rs, n, h⟩ := h
  refine TTs.of rs n h fun W1 t st1 H1 _ r1 n1 h1 => ?_
  cases t with
  | true => exact ⟨W1, env, st1, r1, n1, h1⟩
  | false => exact ⟨W1, env, st1, r1, n1, h1⟩

/-! ### lists of arguments, displays -/
def aNil : XA := fun _ st => .ok [] st
def aCons (a : XE) (r : XA) : XA := fun env st => (a env st).bind fun u st => (r env st).bind fun us st => .ok (u :: us) st
/-- the items of a list or a tuple -/
def itemsOf (st : Store) : S → Option (List S)
  | .p (.tup l) => some (l.map S.p)
  | .p (.ktup l) => some (l.map S.p)
  | .p (.lst l) => some (l.map S.p)
  | .p (.scr ns) => some (ns.map fun n => S.p (.int n))
  | .c n => match st[n]? with
    | some (.lst xs) => some xs
    | _ => none
  | _ => none
def aStar (a : XE) (r : XA) : XA := fun env st => (a env st).bind fun u st => match itemsOf st u with
  | some us => (r env st).bind fun vs st => .ok (us ++ vs) st
  | none => .stuck
theorem rep_ints : ∀ ns : List Int, RepSs C W (ns.map fun n => S.p (.int n)) (ns.map V.int)
  | [] => .nil
  | n :: ns => .cons (.int n) (rep_ints ns)
theorem items_sq (r : RelSt C W st H) {u : S} {y : V} {us : List S} (ry : RepS C W u y) (e : itemsOf st u = some us) : ∃ p xs, y = .ref p ∧ (SqT C.K H p xs ∨ SqL C.K H p xs) ∧ RepSs C W us xs := by
  cases u with
  | c n =>
    cases q : st[n]? with
    | none => simp [itemsOf, q] at e
    | some c =>
      cases c <;> simp [itemsOf, q] at e
      subst e
      obtain ⟨a, ea, ex⟩ := ry
      obtain ⟨hF, vs, eH, rv⟩ := r.cell n _ a q ea
      exact ⟨a, vs, ex, .inr (SqL.of eH), rv⟩
  | p q =>
    cases q <;> simp [itemsOf] at e
    · subst e
      cases ry with
      | tup q r' => exact ⟨_, _, rfl, .inl (SqT.of (r.sub _ _ q)), RepSs.of r'⟩
    · subst e
      cases ry with
      | lst q r' => exact ⟨_, _, rfl, .inr (SqL.of (r.sub _ _ q)), RepSs.of r'⟩
    rotate_left
    · subst e
      cases ry with
      | ktup q r' => exact ⟨_, _, rfl, .inl (sqT_le r.sub q), RepSs.of r'⟩
    · subst e
      cases ry with
      | scr q => exact ⟨_, _, rfl, .inr (sqL_le r.sub q), rep_ints _⟩
theorem qa_nil : QA X C E [] aNil := pa_nil.imp fun σ H Q ⟨W, env, st, r, n, k⟩ => k W H W.le_refl r [] .nil
theorem qa_cons {f : XA} (ha : QE X C E e fa) (hr : QA X C E es f) (hs : starEach (e :: es) X.env = (false, eval e X.env) :: starEach es X.env := by rfl) : QA X C E (e :: es) (aCons fa f) := by
  refine (pa_cons ha hr hs).imp fun σ H Q h => ?_
  obtain ⟨W, env, st, rs, n, h⟩ := h
  refine T.of rs n h fun W1 u st1 H1 x _ r1 n1 rx h1 => TAr.of r1 n1 h1 fun W2 vs st2 H2 ys le2 r2 n2 ry h2 => ?_
  exact h2 W2 H2 W2.le_refl r2 _ (.cons (rx.mono le2) ry)
theorem qa_star {f : XA} (ok : Ok X C) (ha : QE X C E e fa) (hr : QA X C E es f) (hs : starEach (.Starred e p :: es) X.env = (true, eval e X.env) :: starEach es X.env := by rfl) : QA X C E (.Starred e p :: es) (aStar fa f) := by
  refine (StX.pa_star ha hr hs).imp fun σ H Q h => ?_
  obtain ⟨W, env, st, rs, n, h⟩ := h
  refine T.of rs n h fun W1 u st1 H1 x _ r1 n1 rx h1 => ?_
  cases e : itemsOf st1 u with
  | none => rw [e] at h1; exact h1.elim
  | some us =>
    rw [e] at h1
    obtain ⟨q, xs, ex, hq, rq⟩ := items_sq r1 rx e
    rw [ok.hC] at hq
    exact ⟨q, xs, ex, hq, TAr.of r1 n1 h1 fun W2 vs st2 H2 ys le2 r2 n2 ry h2 => h2 W2 H2 W2.le_refl r2 _ (RepSs.append (rq.mono le2) ry)⟩
end
end Q

set_option Elab.async false
set_option linter.all false
set_option maxRecDepth 100000
set_option maxHeartbeats 1000000
/-! Q3: operators by values -/
namespace Q
open PySem L2
section
variable {X : Cx} {C : QC} {E : XK} {W : Wd} {st : Store} {H : Hp}

theorem sizeLine_is : sizeLine = 16777216 := sizeLine_eq
/-- the end on the heap: a new frozen thing -/
theorem aft_laid {q : P} {st' : Store} {k : Wd → S → Store → Hp → Prop} {p : Addr} {o : HO} (r : RelSt C W st' H) (hp : H p = none) (h : Aft C E W (.ok (.p q) st') k) : k ⟨upd W.F p o, W.rho, W.G⟩ (.p q) st' (upd H p o) :=
  h _ _ (r.laidF hp o).1 (r.laidF hp o).2

/-! ints -/
def gInt (f : Int → Int → P) (ok : Int → Int → Bool) : GOp := fun u v st => match u, v with
  | .p (.int i), .p (.int j) => if ok i j = true then .ok (.p (f i j)) st else .stuck
  | _, _ => .stuck
theorem rq_int {D : Int → Int → Prop} {f : Int → Int → V} {g : Int → Int → P} {ok : Int → Int → Bool} (hf : ∀ i j F, Rep C F (g i j) (f i j)) (hd : ∀ i j, ok i j = true → D i j) : RqOp C E (rI D f) (gInt g ok) := by
  intro W st H u v x y Q r ru rv h
  unfold gInt at h
  split at h
  · rename_i i j
    cases ru; cases rv
    split at h
    · rename_i hk
      exact ⟨i, j, rfl, rfl, hd i j hk, h W H W.le_refl r _ (hf i j _)⟩
    · exact h.elim
  · exact h.elim
theorem rq_int0 {f : Int → Int → V} {g : Int → Int → P} (hf : ∀ i j F, Rep C F (g i j) (f i j)) : RqOp C E (rI0 f) (gInt g fun _ _ => true) := by
  intro W st H u v x y Q r ru rv h
  unfold gInt at h
  split at h
  · rename_i i j
    cases ru; cases rv
    rw [if_pos rfl] at h
    exact ⟨i, j, rfl, rfl, h W H W.le_refl r _ (hf i j _)⟩
  · exact h.elim
def gSub : GOp := gInt (fun i j => .int (i - j)) fun _ _ => true
theorem rq_sub : RqOp C E (rI0 fun i j => .int (i - j)) gSub := rq_int0 fun _ _ _ => .int _
def gMod : GOp := gInt (fun i j => .int (i % j)) fun _ j => decide (0 < j)
theorem rq_mod : RqOp C E (rI (fun _ j => 0 < j) fun i j => .int (i % j)) gMod := rq_int (fun _ _ _ => .int _) fun _ _ h => of_decide_eq_true h
def gDiv : GOp := gInt (fun i j => .int (i / j)) fun _ j => decide (0 < j ∧ j < 1073741824)
theorem rq_div : RqOp C E (rI CDiv fun i j => .int (i / j)) gDiv := rq_int (fun _ _ _ => .int _) fun i j h => (of_decide_eq_true h : 0 < j ∧ j < 1073741824)
def gPow : GOp := gInt (fun i j => .int (i ^ j.toNat)) fun i j => decide (0 ≤ j ∧ j ≤ 1000000 ∧ i.natAbs < 2 ^ 64)
theorem rq_pow : RqOp C E (rI CPow fun i j => .int (i ^ j.toNat)) gPow := rq_int (fun _ _ _ => .int _) fun i j h => (of_decide_eq_true h : 0 ≤ j ∧ j ≤ 1000000 ∧ i.natAbs < 2 ^ 64)
def gLt : GOp := gInt (fun i j => .bl (decide (i < j))) fun _ _ => true
theorem rq_lt : RqOp C E (rI0 fun i j => .bl (decide (i < j))) gLt := rq_int0 fun _ _ _ => .bl _
def gLe : GOp := gInt (fun i j => .bl (decide (i ≤ j))) fun _ _ => true
theorem rq_le : RqOp C E (rI0 fun i j => .bl (decide (i ≤ j))) gLe := rq_int0 fun _ _ _ => .bl _
def gGt : GOp := gInt (fun i j => .bl (decide (j < i))) fun _ _ => true
theorem rq_gt : RqOp C E (rI0 fun i j => .bl (decide (j < i))) gGt := rq_int0 fun _ _ _ => .bl _
def gGe : GOp := gInt (fun i j => .bl (decide (j ≤ i))) fun _ _ => true
theorem rq_ge : RqOp C E (rI0 fun i j => .bl (decide (j ≤ i))) gGe := rq_int0 fun _ _ _ => .bl _
theorem dec_if {c : Prop} [Decidable c] {b : Bool} (h : decide c = true ↔ b = true) : decide c = b := by
  cases b <;> simp_all

/-! + -/
def gAdd : GOp := fun u v st => match u, v with
  | .p (.int i), .p (.int j) => .ok (.p (.int (i + j))) st
  | .p (.str i), .p (.str j) => if decide (i.length + j.length ≤ 16777216) = true then .ok (.p (.str (i ++ j))) st else .stuck
  | .p (.tup xs), .p (.tup ys) => if decide (xs.length + ys.length ≤ 16777216) = true then .ok (.p (.tup (xs ++ ys))) st else .stuck
  | .p (.lst xs), .p (.lst ys) => if decide (xs.length + ys.length ≤ 16777216) = true then .ok (.p (.lst (xs ++ ys))) st else .stuck
  | .c n, .p (.lst ys) => match lookP st (.c n) with
    | some (.lst xs) => if decide (xs.length + ys.length ≤ 16777216) = true then .ok (.p (.lst (xs ++ ys))) st else .stuck
    | _ => .stuck
  | _, _ => .stuck
def rAddAll (K : PySem.W.Frag) : R2 := fun x y H Q => rI0 (fun i j => .int (i + j)) x y H Q ∨ (∃ i j, x = .str i ∧ y = .str j ∧ i.length + j.length ≤ sizeLine ∧ Q (.str (i ++ j)) H) ∨ rCatA K x y H Q ∨ rCat x y H Q
theorem op_addAll : OpR X (binaryOp .Add) (rAddAll X.K) := op_add.or (op_add_str.or (op_catA.or op_cat))
theorem Reps.nil_iff {F : Hp} {ps : List P} {vs : List V} (h : Reps C F ps vs) : vs = [] ↔ ps = [] := by
  cases h <;> simp
theorem rq_add (hC : C.K = X.K) : RqOp C E (rAddAll X.K) gAdd := by
  intro W st H u v x y Q r ru rv h
  rw [← hC]
  unfold gAdd at h
  split at h
  · cases ru; cases rv
    exact .inl ⟨_, _, rfl, rfl, h W H W.le_refl r _ (.int _)⟩
  · cases ru; cases rv
    split at h
    · rename_i hk
      exact .inr (.inl ⟨_, _, rfl, rfl, by rw [sizeLine_is]; exact of_decide_eq_true hk, h W H W.le_refl r _ (.str _)⟩)
    · exact h.elim
  · cases ru with
    | tup q1 r1 => cases rv with
      | tup q2 r2 =>
        rename_i xs ys a vs b us
        split at h
        · rename_i hk
          have hl := of_decide_eq_true hk
          refine .inr (.inr (.inl ⟨a, b, vs, us, rfl, rfl, SqT.of (r.sub _ _ q1), SqT.of (r.sub _ _ q2), by rw [sizeLine_is, ← r1.length, ← r2.length]; exact hl, fun e => ?_, fun e1 e2 => ?_, fun e1 e2 p hp => ?_⟩))
          · have := r1.nil_iff.mp e
            subst this
            exact h W H W.le_refl r _ (.tup q2 (by simpa using r2))
          · have := r2.nil_iff.mp e2
            subst this
            exact h W H W.le_refl r _ (.tup q1 (by simpa using r1))
          · have le := (r.laidF hp (.tup (vs ++ us))).1
            exact aft_laid r hp h _ (.tup upd_same ((r1.append r2).mono le.f))
        · exact h.elim
  · cases ru with
    | lst q1 r1 => cases rv with
      | lst q2 r2 =>
        rename_i xs ys a vs b us
        split at h
        · rename_i hk
          have hl := of_decide_eq_true hk
          refine .inr (.inr (.inr ⟨a, b, vs, us, rfl, rfl, r.sub _ _ q1, r.sub _ _ q2, by rw [sizeLine_is, ← r1.length, ← r2.length]; exact hl, fun p hp => ?_⟩))
          have le := (r.laidF hp (.lst (vs ++ us))).1
          exact aft_laid r hp h _ (.lst upd_same ((r1.append r2).mono le.f))
        · exact h.elim
  · rename_i n ys
    cases rv with
    | lst q2 r2 =>
      rename_i b us
      cases e : st[n]? with
      | none => simp [lookP, e] at h; exact h.elim
      | some c =>
        cases c <;> simp only [lookP, e] at h <;> try exact h.elim
        rename_i zs
        cases e2 : pureSs zs with
        | none => simp only [e2, Option.map_none] at h; exact h.elim
        | some xs =>
          simp only [e2, Option.map_some] at h
          have := pureSs_eq e2
          subst this
          obtain ⟨a, ea, ex⟩ := ru
          subst ex
          obtain ⟨hF, vs, eH, rvs⟩ := r.cell n _ a e ea
          have r1 := rvs.to
          split at h
          · rename_i hk
            have hl := of_decide_eq_true hk
            refine .inr (.inr (.inr ⟨a, b, vs, us, rfl, rfl, eH, r.sub _ _ q2, by rw [sizeLine_is, ← r1.length, ← r2.length]; exact hl, fun p hp => ?_⟩))
            have le := (r.laidF hp (.lst (vs ++ us))).1
            exact aft_laid r hp h _ (.lst upd_same ((r1.append r2).mono le.f))
          · exact h.elim
  · exact h.elim

/-! * -/
def gMul : GOp := fun u v st => match u, v with
  | .p (.int i), .p (.int j) => if decide ((-(2 ^ 64) < i ∧ i < 2 ^ 64) ∨ (-(2 ^ 64) < j ∧ j < 2 ^ 64)) = true then .ok (.p (.int (i * j))) st else .stuck
  | .p (.lst xs), .p (.int k) => if decide (0 ≤ k ∧ k < 1000 ∧ xs.length ≤ 1000) = true then .ok (.p (.lst (List.replicate k.toNat xs).flatten)) st else .stuck
  | _, _ => .stuck
theorem Reps.replicate {F : Hp} {ps : List P} {vs : List V} (h : Reps C F ps vs) : ∀ k : Nat, Reps C F (List.replicate k ps).flatten (List.replicate k vs).flatten
  | 0 => .nil
  | k + 1 => by
    rw [List.replicate_succ, List.replicate_succ, List.flatten_cons, List.flatten_cons]
    exact h.append (Reps.replicate h k)
theorem op_mulAll : OpR X (binaryOp .Mult) (fun x y H Q => rI CMul (fun i j => .int (i * j)) x y H Q ∨ rRep x y H Q) := op_mul.or op_rep
theorem rq_mul : RqOp C E (fun x y H Q => rI CMul (fun i j => .int (i * j)) x y H Q ∨ rRep x y H Q) gMul := by
  intro W st H u v x y Q r ru rv h
  unfold gMul at h
  split at h
  · rename_i i j
    cases ru; cases rv
    split at h
    · rename_i hk
      exact .inl ⟨_, _, rfl, rfl, (of_decide_eq_true hk : (-(2 ^ 64) < i ∧ i < 2 ^ 64) ∨ (-(2 ^ 64) < j ∧ j < 2 ^ 64)), h W H W.le_refl r _ (.int _)⟩
    · exact h.elim
  · rename_i xs k
    cases ru with
    | lst q1 r1 => cases rv with
      | int _ =>
        rename_i a vs
        split at h
        · rename_i hk
          obtain ⟨h1, h2, h3⟩ := of_decide_eq_true hk
          refine .inr ⟨a, k, vs, rfl, rfl, r.sub _ _ q1, by omega, by omega, ?_, fun p hp => ?_⟩
          · rw [sizeLine_is, ← r1.length]
            have : k.toNat ≤ 1000 := by omega
            calc xs.length * k.toNat ≤ 1000 * 1000 := Nat.mul_le_mul h3 this
              _ ≤ 16777216 := by decide
          · have le := (r.laidF hp (.lst (List.replicate k.toNat vs).flatten)).1
            exact aft_laid r hp h _ (.lst upd_same ((Reps.replicate r1 _).mono le.f))
        · exact h.elim
  · exact h.elim

/-! ### data through cells -/
mutual
def lookD : Nat → Store → S → Option P
  | _, _, .p x => some x
  | 0, _, .c _ => none
  | f + 1, st, .c n => match st[n]? with
    | some (.lst xs) => match lookDs f st xs with
      | some ps => some (.lst ps)
      | none => none
    | _ => none
def lookDs : Nat → Store → List S → Option (List P)
  | _, _, [] => some []
  | f, st, x :: r => match lookD f st x, lookDs f st r with
    | some p, some ps => some (p :: ps)
    | _, _ => none
end
mutual
theorem lookD_dp (r : RelSt C W st H) : ∀ {f : Nat} {u : S} {x : V} {p : P} {d : PyData}, RepS C W u x → lookD f st u = some p → toD p = some d → Dp C.K H x d
  | f, .p q, x, p, d, rx, e, hd => by
    cases f <;> simp only [lookD, Option.some.injEq] at e <;> subst e <;> exact Rep.dp r.sub rx hd
  | 0, .c n, x, p, d, rx, e, hd => by simp only [lookD] at e; cases e
  | f + 1, .c n, x, p, d, rx, e, hd => by
    unfold lookD at e
    split at e
    · rename_i xs es
      split at e
      · rename_i ps ep
        cases e
        obtain ⟨a, ea, ex⟩ := rx
        obtain ⟨hF, vs, eH, rr⟩ := r.cell n _ a es ea
        unfold toD at hd
        cases z : toDs ps with
        | none => rw [z] at hd; cases hd
        | some ds =>
          rw [z] at hd; cases hd
          rw [ex]
          exact .lst (SqL.of eH) (lookDs_dp r rr ep z)
      · cases e
    · cases e
theorem lookDs_dp (r : RelSt C W st H) : ∀ {f : Nat} {us : List S} {xs : List V} {ps : List P} {ds : List PyData}, RepSs C W us xs → lookDs f st us = some ps → toDs ps = some ds → DpAll C.K H xs ds
  | f, [], xs, ps, ds, rx, e, hd => by
    cases rx
    simp only [lookDs, Option.some.injEq] at e
    subst e
    simp only [toDs, Option.some.injEq] at hd
    subst hd
    exact .nil
  | f, u :: us, xs, ps, ds, rx, e, hd => by
    cases rx with
    | cons r1 rr =>
      unfold lookDs at e
      split at e
      · rename_i p ps2 e1 e2
        cases e
        unfold toDs at hd
        split at hd
        · rename_i d ds2 e3 e4
          cases hd
          exact .cons (lookD_dp r r1 e1 e3) (lookDs_dp r rr e2 e4)
        · cases hd
      · cases e
end

/-! == and != of data -/
def dataOf (st : Store) (u : S) : Option PyData := match lookD 3 st u with
  | some p => match toD p with
    | some d => if SeqAt.shaped d = true then some d else none
    | none => none
  | none => none
theorem dataOf_dp (r : RelSt C W st H) {u : S} {x : V} {d : PyData} (rx : RepS C W u x) (e : dataOf st u = some d) : Dp C.K H x d ∧ SeqAt.shaped d = true := by
  unfold dataOf at e
  cases q : lookD 3 st u with
  | none => rw [q] at e; cases e
  | some p =>
    rw [q] at e
    cases z : toD p with
    | none => simp only [z] at e; cases e
    | some d' =>
      simp only [z] at e
      split at e
      · rename_i hs
        cases e
        exact ⟨lookD_dp r rx q z, hs⟩
      · cases e
def gEqD (neg : Bool) : GOp := fun u v st => match dataOf st u, dataOf st v with
  | some d, some e => .ok (.p (.bl (if neg = true then !PyData.eqv d e else PyData.eqv d e))) st
  | _, _ => .stuck
theorem rq_eq (hC : C.K = X.K) : RqOp C E (rEqD X.K) (gEqD false) := by
  intro W st H u v x y Q r ru rv h
  rw [← hC]
  unfold gEqD at h
  split at h
  · rename_i d e e1 e2
    obtain ⟨d1, s1⟩ := dataOf_dp r ru e1
    obtain ⟨d2, s2⟩ := dataOf_dp r rv e2
    exact ⟨d, e, d1, d2, s1, s2, h W H W.le_refl r _ (.bl _)⟩
  · exact h.elim
theorem rq_ne (hC : C.K = X.K) : RqOp C E (rNeD X.K) (gEqD true) := by
  intro W st H u v x y Q r ru rv h
  rw [← hC]
  unfold gEqD at h
  split at h
  · rename_i d e e1 e2
    obtain ⟨d1, s1⟩ := dataOf_dp r ru e1
    obtain ⟨d2, s2⟩ := dataOf_dp r rv e2
    exact ⟨d, e, d1, d2, s1, s2, h W H W.le_refl r _ (.bl _)⟩
  · exact h.elim
theorem Ok.hu64 (ok : Ok X C) : X.A.units + 64 < cLine := by have := ok.hu; omega
theorem Ok.hu65 (ok : Ok X C) : X.A.units + 65 < cLine := by have := ok.hu; omega

/-! in and not in, over lists and tuples of data -/
def rInAll (K : PySem.W.Frag) (neg : Bool) : R2 := fun x y H Q => ∃ d ds z, Dp K H x d ∧ Dp K H y z ∧ (z = .list ds ∨ z = .tuple ds) ∧ SeqAt.shaped d = true ∧ SeqAt.shaped z = true ∧ Q (.bl (if neg = true then !ds.any fun z => PyData.eqv z d else ds.any fun z => PyData.eqv z d)) H
theorem op_inAll (hu : X.A.units + 65 < cLine) : OpR X (compareOp .In) (rInAll X.K false) := by
  intro pins s σ H x y v u Q I rx ry h
  obtain ⟨d, ds, z, hd, he, hz, sd, se, q⟩ := h
  obtain ⟨as, r1⟩ := Dp.reads I d x v hd rx
  obtain ⟨bs, r2⟩ := Dp.reads I z y u he ry
  rcases hz with rfl | rfl
  · exact SeqAt.in_list_reads r2 r1 (SeqAt.canLay_of_shaped se) (SeqAt.canLay_of_shaped sd) (PyProof.Rows.room_in_shaped sd hu) ⟨.bl _, H, I, rfl, q⟩
  · exact SeqAt.in_tuple_reads r2 r1 (SeqAt.canLay_of_shaped se) (SeqAt.canLay_of_shaped sd) (PyProof.Rows.room_in_shaped sd hu) ⟨.bl _, H, I, rfl, q⟩
theorem op_notInAll (hu : X.A.units + 65 < cLine) : OpR X (compareOp .NotIn) (rInAll X.K true) := by
  intro pins s σ H x y v u Q I rx ry h
  obtain ⟨d, ds, z, hd, he, hz, sd, se, q⟩ := h
  obtain ⟨as, r1⟩ := Dp.reads I d x v hd rx
  obtain ⟨bs, r2⟩ := Dp.reads I z y u he ry
  rcases hz with rfl | rfl
  · exact SeqAt.notIn_list_reads r2 r1 (SeqAt.canLay_of_shaped se) (SeqAt.canLay_of_shaped sd) (PyProof.Rows.room_in_shaped sd hu) ⟨.bl _, H, I, rfl, q⟩
  · exact SeqAt.notIn_tuple_reads r2 r1 (SeqAt.canLay_of_shaped se) (SeqAt.canLay_of_shaped sd) (PyProof.Rows.room_in_shaped sd hu) ⟨.bl _, H, I, rfl, q⟩
/-- a key as a value, a value as a key -/
def asKey : P → Option Key
  | .int i => some (.inl i)
  | .str x => some (.inr x)
  | _ => none
def asKeys : List P → Option (List Key)
  | [] => some []
  | p :: r => match asKey p, asKeys r with
    | some k, some ks => some (k :: ks)
    | _, _ => none
def asTup : P → Option (List Key)
  | .tup l => asKeys l
  | _ => none
def keyP : Key → P
  | .inl i => .int i
  | .inr x => .str x
theorem asKey_rep {F : Hp} {p : P} {v : V} {k : Key} (h : Rep C F p v) (e : asKey p = some k) : v = kV k := by
  cases h <;> simp [asKey] at e <;> subst e <;> rfl
theorem asKeys_rep {F : Hp} : ∀ {ps : List P} {vs : List V} {ks : List Key}, Reps C F ps vs → asKeys ps = some ks → vs = ks.map kV
  | _, _, _, .nil, e => by simp [asKeys] at e; subst e; rfl
  | p :: ps, _, ks, .cons r t, e => by
    unfold asKeys at e
    cases e1 : asKey p with
    | none => rw [e1] at e; cases e
    | some k =>
      cases e2 : asKeys ps with
      | none => rw [e1, e2] at e; cases e
      | some kr => rw [e1, e2] at e; cases e; simp [asKey_rep r e1, asKeys_rep t e2]
/-- what stands at a key -/
def atK {κ : Type} [DecidableEq κ] {α : Type} (kvs : List (κ × α)) (k : κ) : Option α := (kvs.find? fun kv => decide (kv.1 = k)).map (·.2)
/-- a key's value is stored -/
def putS {κ : Type} [DecidableEq κ] {α : Type} (kvs : List (κ × α)) (k : κ) (v : α) : List (κ × α) :=
  if (kvs.any fun kv => decide (kv.1 = k)) = true then kvs.map fun p => if p.1 = k then (p.1, v) else p else kvs ++ [(k, v)]
/-- the same of the heap -/
def RepO (C : QC) (W : Wd) : Option S → Option V → Prop
  | some s, some v => RepS C W s v
  | none, none => True
  | _, _ => False
theorem RepO.of {κ : Type} [DecidableEq κ] (k : κ) : ∀ {kvs : List (κ × S)} {vs : List V}, RepSs C W (kvs.map (·.2)) vs → RepO C W (atK kvs k) (valV (zipV kvs vs) k)
  | [], _, .nil => by simp [RepO, atK, valV, zipV]
  | (x, s) :: r, v :: vs, .cons h t => by
    have ih := RepO.of k (kvs := r) t
    unfold atK valV at ih ⊢
    simp only [zipV, List.find?_cons]
    by_cases e : x = k
    · simp only [e, decide_true, Option.map_some]; exact h
    · simp only [e, decide_false]; exact ih
theorem map_snd_p {κ : Type} (kvs : List (κ × P)) : (kvs.map fun p => (p.1, S.p p.2)).map (·.2) = (kvs.map (·.2)).map S.p := by simp [Function.comp_def]
theorem zipV_p {κ : Type} : ∀ (kvs : List (κ × P)) (vs : List V), zipV (kvs.map fun p => (p.1, S.p p.2)) vs = zipV kvs vs
  | [], vs => by cases vs <;> rfl
  | p :: r, [] => rfl
  | p :: r, v :: vs => by simp [zipV, zipV_p r vs]
theorem atK_p {κ : Type} [DecidableEq κ] (kvs : List (κ × P)) (k : κ) : atK (kvs.map fun p => (p.1, S.p p.2)) k = (atK kvs k).map S.p := by
  induction kvs with
  | nil => rfl
  | cons p r ih =>
    unfold atK at ih ⊢
    simp only [List.map_cons, List.find?_cons]
    by_cases e : p.1 = k
    · simp [e]
    · simp only [e, decide_false]; exact ih
theorem RepO.ofP {κ : Type} [DecidableEq κ] (k : κ) {kvs : List (κ × P)} {vs : List V} (h : Reps C W.F (kvs.map (·.2)) vs) : RepO C W ((atK kvs k).map S.p) (valV (zipV kvs vs) k) := by
  have := RepO.of k (kvs := kvs.map fun p => (p.1, S.p p.2)) (by rw [map_snd_p]; exact RepSs.of h)
  rwa [zipV_p, atK_p] at this
/-- what a dict holds at a value -/
def dictAt (st : Store) (u : S) (v : S) : Option (Option S) := match u, v with
  | .p (.dk kvs), .p k => (asKey k).map fun k => (atK kvs k).map S.p
  | .p (.dt kvs), .p k => (asTup k).map fun k => (atK kvs k).map S.p
  | .c n, .p k => match st[n]? with
    | some (.dk kvs) => (asKey k).map fun k => atK kvs k
    | some (.dt kvs) => (asTup k).map fun k => atK kvs k
    | _ => none
  | _, _ => none
theorem asTup_rep (r : RelSt C W st H) {k : P} {ks : List Key} {y : V} (h : Rep C W.F k y) (e : asTup k = some ks) : ∃ b, y = .ref b ∧ H b = some (.tup (ks.map kV)) := by
  cases h <;> simp [asTup] at e
  rename_i a ps vs q rr
  have := asKeys_rep rr e
  subst this
  exact ⟨a, rfl, r.sub _ _ q⟩
theorem dictAt_get (r : RelSt C W st H) {u v : S} {x y : V} {o : Option S} (ru : RepS C W u x) (rv : RepS C W v y) (e : dictAt st u v = some o) : ∃ a w, x = .ref a ∧ DGet H a y w ∧ RepO C W o w := by
  unfold dictAt at e
  split at e
  · rename_i kvs k
    cases ek : asKey k with
    | none => rw [ek] at e; cases e
    | some k' =>
      rw [ek] at e
      simp only [Option.map_some, Option.some.injEq] at e
      cases ru with
      | dk q rr =>
        rename_i a us
        have ey := asKey_rep rv ek
        subst ey
        exact ⟨_, _, rfl, .inl ⟨_, k', .inr ⟨_, r.sub _ _ q⟩, rfl, rfl⟩, e ▸ RepO.ofP k' rr⟩
  · rename_i kvs k
    cases ek : asTup k with
    | none => rw [ek] at e; cases e
    | some k' =>
      rw [ek] at e
      simp only [Option.map_some, Option.some.injEq] at e
      cases ru with
      | dt q rr =>
        rename_i a us
        obtain ⟨b, ey, hb⟩ := asTup_rep r rv ek
        exact ⟨_, _, rfl, .inr ⟨_, k', b, .inr ⟨_, r.sub _ _ q⟩, ey, hb, rfl⟩, e ▸ RepO.ofP k' rr⟩
  · rename_i n k
    split at e
    · rename_i kvs es
      cases ek : asKey k with
      | none => rw [ek] at e; cases e
      | some k' =>
        rw [ek] at e
        simp only [Option.map_some, Option.some.injEq] at e
        obtain ⟨a, ea, ex⟩ := ru
        obtain ⟨hF, us, eH, rr⟩ := r.cell n _ a es ea
        have ey := asKey_rep rv ek
        subst ey
        exact ⟨a, _, ex, .inl ⟨_, k', .inl eH, rfl, rfl⟩, e ▸ RepO.of k' rr⟩
    · rename_i kvs es
      cases ek : asTup k with
      | none => rw [ek] at e; cases e
      | some k' =>
        rw [ek] at e
        simp only [Option.map_some, Option.some.injEq] at e
        obtain ⟨a, ea, ex⟩ := ru
        obtain ⟨hF, us, eH, rr⟩ := r.cell n _ a es ea
        obtain ⟨b, ey, hb⟩ := asTup_rep r rv ek
        exact ⟨a, _, ex, .inr ⟨_, k', b, .inl eH, ey, hb, rfl⟩, e ▸ RepO.of k' rr⟩
    · cases e
  · cases e
end
end Q

set_option Elab.async false
set_option linter.all false
set_option maxRecDepth 100000
set_option maxHeartbeats 1000000
/-! Q4: dicts, subscripts, slices, displays, calls of built-ins -/
namespace Q
open PySem L2 PySem.Spec PyProof.Rows
section
variable {X : Cx} {C : QC} {E : XK} {W : Wd} {st : Store} {H : Hp}

/-! ### a dict of the written part -/
section
variable {pins : List (Addr × Obj)} {σ : L2.St} {s : Shared} {a : Addr} {kvs : List (Key × V)} {k : Key} {u : Value} {A : Around} {E' : Value → Shared → Prop}
theorem KDict.at (ok : Ok X C) (I : Inv X pins σ H s) (g : KDict C a kvs) : (a == sysModules) = false ∧ ∃ vs, KV kvs vs ∧ s.heap.DictOf (mixKind X.prog X.w) a vs := by
  obtain ⟨hd, z, vs, o, rel, hk, hdn, dd⟩ := g
  refine ⟨hd, vs, rel, ?_⟩
  have := dd s.heap (by rw [ok.hC]; exact I.kIn)
  rw [ok.hP, ok.hw] at this
  exact this
theorem kd_getItem {v : V} {Q : Value → Shared → Prop} (ok : Ok X C) (I : Inv X pins σ H s) (g : KDict C a kvs) (l : valV kvs k = some v) (ry : RelV (kV k) u) (h : ∀ w' s', Inv X pins σ H s' → RelV v w' → Q w' s') :
    wpAny (model X.prog X.w) A (getItem (.ref a) u) Q E' s := by
  obtain ⟨hd, vs, rel, dd⟩ := g.at ok I
  obtain ⟨w', hw, rw'⟩ := RelO.some_of (v := v) (o := valueAt vs k) (by rw [← l]; exact rel.val k)
  exact wpAny_getItem_of (kV_is ry) dd.mapOf hw (h w' _ (I.tok _) rw')
theorem kd_in {Q : Value → Shared → Prop} (ok : Ok X C) (I : Inv X pins σ H s) (g : KDict C a kvs) (ry : RelV (kV k) u) (h : ∀ s', Inv X pins σ H s' → Q (.bool (valV kvs k).isSome) s') :
    wpAny (model X.prog X.w) A (compareOp .In u (.ref a)) Q E' s := by
  obtain ⟨hd, vs, rel, dd⟩ := g.at ok I
  refine wpAny_in_of (kV_is ry) hd dd.mapOf ?_
  rw [← (rel.val k).isSome_eq]
  exact h _ (I.tok _)
theorem kd_notIn {Q : Value → Shared → Prop} (ok : Ok X C) (I : Inv X pins σ H s) (g : KDict C a kvs) (ry : RelV (kV k) u) (h : ∀ s', Inv X pins σ H s' → Q (.bool (!(valV kvs k).isSome)) s') :
    wpAny (model X.prog X.w) A (compareOp .NotIn u (.ref a)) Q E' s := by
  obtain ⟨hd, vs, rel, dd⟩ := g.at ok I
  refine wpAny_notIn_of (kV_is ry) hd dd.mapOf ?_
  rw [← (rel.val k).isSome_eq]
  exact h _ (I.tok _)
end
/-- what a dict of either kind holds -/
def DAny (C : QC) (H : Hp) (a : Addr) (y : V) (o : Option V) : Prop := DGet H a y o ∨ ∃ kvs k, KDict C a kvs ∧ y = kV k ∧ o = valV kvs k
def dictAtK (st : Store) (u v : S) : Option (Option S) := match u, v with
  | .p (.kdk kvs), .p k => (asKey k).map fun k => (atK kvs k).map S.p
  | u, v => dictAt st u v
theorem dictAtK_get (r : RelSt C W st H) {u v : S} {x y : V} {o : Option S} (ru : RepS C W u x) (rv : RepS C W v y) (e : dictAtK st u v = some o) : ∃ a w, x = .ref a ∧ DAny C H a y w ∧ RepO C W o w := by
  unfold dictAtK at e
  split at e
  · rename_i kvs k
    cases ek : asKey k with
    | none => rw [ek] at e; cases e
    | some k' =>
      rw [ek] at e
      simp only [Option.map_some, Option.some.injEq] at e
      cases ru with
      | kdk q rr =>
        rename_i a us
        have ey := asKey_rep rv ek
        subst ey
        exact ⟨a, _, rfl, .inr ⟨_, k', q, rfl, rfl⟩, e ▸ RepO.ofP k' rr⟩
  · obtain ⟨a, w, h1, h2, h3⟩ := dictAt_get r ru rv e
    exact ⟨a, w, h1, .inl h2, h3⟩
def rDIn (C : QC) (neg : Bool) : R2 := fun x y H Q => ∃ a o, y = .ref a ∧ DAny C H a x o ∧ Q (.bl (if neg = true then !o.isSome else o.isSome)) H
theorem op_dIn (ok : Ok X C) : OpR X (compareOp .In) (rDIn C false) := by
  intro pins s σ H x y v u Q I rx ry h
  obtain ⟨a, o, e, g, q⟩ := h
  subst e
  cases (show u = Value.ref a from ry)
  rcases g with g | ⟨kvs, k, g, ex, eo⟩
  · exact d_in (by have := ok.hu; omega) I g rx fun s' I' => ⟨.bl _, H, I', rfl, q⟩
  · subst ex eo
    exact kd_in ok I g rx fun s' I' => ⟨.bl _, H, I', rfl, q⟩
theorem op_dNotIn (ok : Ok X C) : OpR X (compareOp .NotIn) (rDIn C true) := by
  intro pins s σ H x y v u Q I rx ry h
  obtain ⟨a, o, e, g, q⟩ := h
  subst e
  cases (show u = Value.ref a from ry)
  rcases g with g | ⟨kvs, k, g, ex, eo⟩
  · exact d_notIn (by have := ok.hu; omega) I g rx fun s' I' => ⟨.bl _, H, I', rfl, q⟩
  · subst ex eo
    exact kd_notIn ok I g rx fun s' I' => ⟨.bl _, H, I', rfl, q⟩
def isDict (st : Store) : S → Bool
  | .p (.dk _) => true
  | .p (.dt _) => true
  | .p (.kdk _) => true
  | .c n => match st[n]? with
    | some (.dk _) => true
    | some (.dt _) => true
    | _ => false
  | _ => false
/-- x in y -/
def gIn (neg : Bool) : GOp := fun u v st => if isDict st v = true then match dictAtK st v u with
    | some o => .ok (.p (.bl (if neg = true then !o.isSome else o.isSome))) st
    | none => .stuck
  else match dataOf st u, dataOf st v with
    | some d, some (.list ds) => .ok (.p (.bl (if neg = true then !ds.any fun z => PyData.eqv z d else ds.any fun z => PyData.eqv z d))) st
    | some d, some (.tuple ds) => .ok (.p (.bl (if neg = true then !ds.any fun z => PyData.eqv z d else ds.any fun z => PyData.eqv z d))) st
    | _, _ => .stuck
theorem RepO.isSome {o : Option S} {w : Option V} (h : RepO C W o w) : w.isSome = o.isSome := by
  cases o <;> cases w <;> first | rfl | exact h.elim
theorem rq_in (ok : Ok X C) (neg : Bool) : RqOp C E (fun x y H Q => rInAll X.K neg x y H Q ∨ rDIn C neg x y H Q) (gIn neg) := by
  intro W st H u v x y Q r ru rv h
  unfold gIn at h
  split at h
  · split at h
    · rename_i o e
      obtain ⟨a, w, h1, h2, h3⟩ := dictAtK_get r rv ru e
      refine .inr ⟨a, w, h1, h2, ?_⟩
      rw [h3.isSome]
      exact h W H W.le_refl r _ (.bl _)
    · exact h.elim
  · rw [← ok.hC]
    split at h
    · rename_i d ds e1 e2
      obtain ⟨d1, s1⟩ := dataOf_dp r ru e1
      obtain ⟨d2, s2⟩ := dataOf_dp r rv e2
      exact .inl ⟨d, ds, _, d1, d2, .inl rfl, s1, s2, h W H W.le_refl r _ (.bl _)⟩
    · rename_i d ds e1 e2
      obtain ⟨d1, s1⟩ := dataOf_dp r ru e1
      obtain ⟨d2, s2⟩ := dataOf_dp r rv e2
      exact .inl ⟨d, ds, _, d1, d2, .inr rfl, s1, s2, h W H W.le_refl r _ (.bl _)⟩
    · exact h.elim
theorem op_inQ (ok : Ok X C) : OpR X (compareOp .In) (fun x y H Q => rInAll X.K false x y H Q ∨ rDIn C false x y H Q) := (op_inAll ok.hu65).or (op_dIn ok)
theorem op_notInQ (ok : Ok X C) : OpR X (compareOp .NotIn) (fun x y H Q => rInAll X.K true x y H Q ∨ rDIn C true x y H Q) := (op_notInAll ok.hu65).or (op_dNotIn ok)
/-- is None, is not None: the other side is the constant -/
def gIsN (neg : Bool) : GOp := fun u v st => match u, v with
  | .p .non, .p .non => .ok (.p (.bl (!neg))) st
  | .p (.fn _), .p .non => .ok (.p (.bl neg)) st
  | .p _, .p .non => .ok (.p (.bl neg)) st
  | .c _, .p .non => .ok (.p (.bl neg)) st
  | _, _ => .stuck
theorem rq_isN : RqOp C E (fun x y H Q => y = .non ∧ Q (.bl (decide (x = .non))) H) (gIsN false) := by
  intro W st H u v x y Q r ru rv h
  unfold gIsN at h
  split at h
  · cases ru; cases rv
    exact ⟨rfl, h W H W.le_refl r _ (.bl _)⟩
  · cases ru; cases rv
    exact ⟨rfl, h W H W.le_refl r _ (.bl _)⟩
  · rename_i p hp _
    cases rv
    have e : decide (x = V.non) = false := by
      cases ru <;> first | rfl | exact absurd rfl hp
    exact ⟨rfl, by rw [e]; exact h W H W.le_refl r _ (.bl _)⟩
  · cases rv
    obtain ⟨a, _, rfl⟩ := ru
    exact ⟨rfl, h W H W.le_refl r _ (.bl _)⟩
  · exact h.elim
theorem rq_isNotN : RqOp C E (fun x y H Q => y = .non ∧ Q (.bl (!decide (x = .non))) H) (gIsN true) := by
  intro W st H u v x y Q r ru rv h
  unfold gIsN at h
  split at h
  · cases ru; cases rv
    exact ⟨rfl, h W H W.le_refl r _ (.bl _)⟩
  · cases ru; cases rv
    exact ⟨rfl, h W H W.le_refl r _ (.bl _)⟩
  · rename_i p hp _
    cases rv
    have e : decide (x = V.non) = false := by
      cases ru <;> first | rfl | exact absurd rfl hp
    exact ⟨rfl, by rw [e]; exact h W H W.le_refl r _ (.bl _)⟩
  · cases rv
    obtain ⟨a, _, rfl⟩ := ru
    exact ⟨rfl, h W H W.le_refl r _ (.bl _)⟩
  · exact h.elim

/-! ### subscripts -/
def rDG (C : QC) : R2 := fun x y H Q => ∃ a v, x = .ref a ∧ DAny C H a y (some v) ∧ Q v H
theorem ix_dg (ok : Ok X C) : IxR X (rDG C) := by
  intro value slice pins s σ H x y v u Q I rx ry h hs
  obtain ⟨a, z, ex, g, q⟩ := h
  subst ex
  cases (show v = Value.ref a from rx)
  rcases g with g | ⟨kvs, k, g, ey, ez⟩
  · have ty : s.TypeIs (.ref a) "dict" := by
      rcases g with ⟨kvs, k, e, _⟩ | ⟨kvs, k, b, e, _⟩
      · obtain ⟨_, _, vs, _, dd⟩ := dk_rd I.hok e
        exact dd.typeIs
      · obtain ⟨_, _, xs, _, dd⟩ := dt_rd I.hok e
        exact dd.typeIs
    exact tail_any ty PySem.F.slot_dict_getitem.lookup (d_getItem (by have := ok.hu; omega) I g ry fun w' s' I' rw' => ⟨z, H, I', rw', q⟩) hs
  · subst ey
    obtain ⟨_, vs, _, dd⟩ := g.at ok I
    exact tail_any dd.typeIs PySem.F.slot_dict_getitem.lookup (kd_getItem ok I g ez.symm ry fun w' s' I' rw' => ⟨z, H, I', rw', q⟩) hs
/-- x[y] -/
def gIx : GOp := fun u v st => if isDict st u = true then match dictAtK st u v with
    | some (some z) => .ok z st
    | _ => .stuck
  else match itemsOf st u, v with
    | some us, .p (.int i) => match atI us i with
      | some z => .ok z st
      | none => .stuck
    | _, _ => .stuck
theorem RepSs.length {ss : List S} {vs : List V} (h : RepSs C W ss vs) : ss.length = vs.length := Paired.length h
theorem RepSs.get {ss : List S} {vs : List V} (h : RepSs C W ss vs) {i : Nat} {s : S} (e : ss[i]? = some s) : ∃ v, vs[i]? = some v ∧ RepS C W s v := by
  induction h generalizing i with
  | nil => simp at e
  | cons a t ih =>
    cases i with
    | zero => simp at e; subst e; exact ⟨_, rfl, a⟩
    | succ i =>
      obtain ⟨v, e1, e2⟩ := ih (i := i) (by simpa using e)
      exact ⟨v, by simpa using e1, e2⟩
theorem atI_rep {ss : List S} {vs : List V} (h : RepSs C W ss vs) {i : Int} {s : S} (e : atI ss i = some s) : ∃ v, atI vs i = some v ∧ RepS C W s v := by
  unfold atI at e ⊢
  rw [h.length] at e
  cases q : ixN vs.length i with
  | none => rw [q] at e; cases e
  | some j =>
    rw [q] at e
    exact h.get (i := j) e
theorem rq_ix (ok : Ok X C) : RqOp C E (fun x y H Q => rIx X.K x y H Q ∨ rDG C x y H Q) gIx := by
  intro W st H u v x y Q r ru rv h
  unfold gIx at h
  split at h
  · split at h
    · rename_i z e
      obtain ⟨a, w, h1, h2, h3⟩ := dictAtK_get r ru rv e
      cases w with
      | none => exact h3.elim
      | some w => exact .inr ⟨a, w, h1, h2, h W H W.le_refl r _ h3⟩
    · exact h.elim
  · split at h
    · rename_i us i e
      split at h
      · rename_i z ez
        cases rv
        obtain ⟨p, xs, ex, hq, rq⟩ := items_sq r ru e
        obtain ⟨w, ew, rw'⟩ := atI_rep rq ez
        rw [ok.hC] at hq
        have fin := h W H W.le_refl r _ rw'
        rcases hq with hq | hq
        · exact .inl (.inr (.inl ⟨p, xs, i, w, ex, rfl, hq, ew, fin⟩))
        · exact .inl (.inl ⟨p, xs, i, w, ex, rfl, hq, ew, fin⟩)
      · exact h.elim
    · exact h.elim
variable {e a b c : Expr} {es rest : List Expr} {fa fb fc : XE} {pos p p2 : Pos} {x m : Str} {f : XA}
theorem qe_ix (ok : Ok X C) (ha : QE X C E a fa) (hb : QE X C E b fb) (hs : PlainIx b) : QE X C E (.Subscript a b pos) (eBin gIx fa fb) := by
  refine (pe_ix (ix_seq.or (ix_dg ok)) ha hb hs).imp fun σ H Q h => ?_
  obtain ⟨W, env, st, rs, n, h⟩ := h
  refine T.of rs n h fun W1 u st1 H1 x _ r1 n1 rx h1 => T.of r1 n1 h1 fun W2 v st2 H2 y le2 r2 n2 ry h2 => ?_
  exact rq_ix ok W2 st2 H2 u v x y Q r2 (rx.mono le2) ry h2

/-! ### slices -/
abbrev XO := Env → Store → R (Option Int)
def oNone : XO := fun _ st => .ok none st
def oSome (a : XE) : XO := fun env st => (a env st).bind fun u st => match u with
  | .p (.int i) => .ok (some i) st
  | _ => .stuck
abbrev QO (X : Cx) (C : QC) (E : XK) (o : Option Expr) (f : XO) : Prop := PO X o (fun σ H Q => ∃ W env st, RelSt C W st H ∧ RelEnv C W env σ ∧ Aft C E W (f env st) fun _ i _ H' => Q i H')
theorem qo_none : QO X C E none oNone := ⟨fun pins s σ H Q I ⟨W, env, st, r, n, h⟩ => po_none.run pins s σ H Q I (h W H W.le_refl r)⟩
theorem qo_some (ha : QE X C E a fa) : QO X C E (some a) (oSome fa) := ⟨fun pins s σ H Q I ⟨W, env, st, r, n, h⟩ => (po_some ha).run pins s σ H Q I (by
  refine T.of r n h fun W1 u st1 H1 x _ r1 n1 rx h1 => ?_
  cases u with
  | c n => exact h1.elim
  | p q =>
    cases q <;> first
      | exact h1.elim
      | skip
    rename_i i
    cases rx
    exact ⟨i, rfl, h1 W1 H1 W1.le_refl r1⟩)⟩
def cutL {α : Type} (xs : List α) (lo hi : Option Int) : List α := (xs.drop (HT.sIx xs.length 0 lo)).take (HT.sIx xs.length xs.length hi - HT.sIx xs.length 0 lo)
def slP (u : P) (lo hi : Option Int) (st : Store) : R S := match u with
  | .tup l => .ok (.p (.tup (cutL l lo hi))) st
  | .lst l => .ok (.p (.lst (cutL l lo hi))) st
  | _ => .stuck
def slS (u : S) (lo hi : Option Int) (st : Store) : R S := match lookP st u with
  | some p => slP p lo hi st
  | none => .stuck
def eSl (a : XE) (lo hi : XO) : XE := fun env st => (a env st).bind fun u st => (lo env st).bind fun l st => (hi env st).bind fun h st => slS u l h st
theorem Reps.take {F : Hp} : ∀ {ps : List P} {vs : List V} (n : Nat), Reps C F ps vs → Reps C F (ps.take n) (vs.take n)
  | _, _, 0, _ => .nil
  | _, _, _ + 1, .nil => .nil
  | _, _, n + 1, .cons r t => .cons r (Reps.take n t)
theorem Reps.drop {F : Hp} : ∀ {ps : List P} {vs : List V} (n : Nat), Reps C F ps vs → Reps C F (ps.drop n) (vs.drop n)
  | _, _, 0, r => r
  | _, _, _ + 1, .nil => .nil
  | _, _, n + 1, .cons _ t => Reps.drop n t
theorem Reps.cut {F : Hp} {ps : List P} {vs : List V} (h : Reps C F ps vs) (lo hi : Option Int) : Reps C F (cutL ps lo hi) (cutV vs lo hi) := by
  unfold cutL cutV
  rw [h.length]
  exact (h.drop _).take _
/-- the list or tuple that a value is, as it stands -/
theorem look_lst (r : RelSt C W st H) {u : S} {y : V} {l : List P} (ry : RepS C W u y) (e : lookP st u = some (.lst l)) : ∃ a vs, y = .ref a ∧ H a = some (.lst vs) ∧ Reps C W.F l vs := by
  cases u with
  | p q =>
    simp [lookP] at e; subst e
    cases ry with
    | lst q rr => exact ⟨_, _, rfl, r.sub _ _ q, rr⟩
  | c n =>
    cases q : st[n]? with
    | none => simp [lookP, q] at e
    | some c =>
      cases c <;> simp [lookP, q] at e
      rename_i xs
      have := pureSs_eq e
      subst this
      obtain ⟨a, ea, ex⟩ := ry
      obtain ⟨hF, vs, eH, rv⟩ := r.cell n _ a q ea
      exact ⟨a, vs, ex, eH, rv.to⟩
theorem look_tup (r : RelSt C W st H) {u : S} {y : V} {l : List P} (ry : RepS C W u y) (e : lookP st u = some (.tup l)) : ∃ a vs, y = .ref a ∧ H a = some (.tup vs) ∧ Reps C W.F l vs ∧ W.F a = some (.tup vs) := by
  cases u with
  | p q =>
    simp [lookP] at e; subst e
    cases ry with
    | tup q rr => exact ⟨_, _, rfl, r.sub _ _ q, rr, q⟩
  | c n =>
    cases q : st[n]? with
    | none => simp [lookP, q] at e
    | some c => cases c <;> simp [lookP, q] at e
theorem qe_sl (ok : Ok X C) {lo hi : Option Expr} {fl fh : XO} (ha : QE X C E a fa) (hl : QO X C E lo fl) (hh : QO X C E hi fh) : QE X C E (.Subscript a (.Slice lo hi none p2) pos) (eSl fa fl fh) := by
  refine (pe_slice (sl_list.or sl_tupA) ha hl hh).imp fun σ H Q h => ?_
  obtain ⟨W, env, st, rs, n, h⟩ := h
  refine T.of rs n h fun W1 u st1 H1 x _ r1 n1 rx h1 => ?_
  refine ⟨W1, env, st1, r1, n1, h1.bind.imp fun W2 l st2 H2 le2 r2 h2 => ?_⟩
  refine ⟨W2, env, st2, r2, n1.mono le2, h2.bind.imp fun W3 hh st3 H3 le3 r3 h3 => ?_⟩
  have rx3 := rx.mono (le2.trans le3)
  unfold slS at h3
  cases e : lookP st3 u with
  | none => rw [e] at h3; exact h3.elim
  | some q =>
    rw [e] at h3
    cases q <;> first
      | exact h3.elim
      | skip
    · rename_i ps
      obtain ⟨a, vs, ey, hq, rr, hF⟩ := look_tup r3 rx3 e
      refine .inr ⟨a, vs, ey, SqT.of hq, fun ⟨e1, e2⟩ => ?_, fun _ p hp => ?_⟩
      · refine h3 W3 H3 W3.le_refl r3 _ ?_
        have ec : cutL ps l hh = ps := by
          unfold cutL
          rw [rr.length, e1, e2, List.drop_zero, Nat.sub_zero, ← rr.length, List.take_length]
        rw [ec]
        exact .tup hF rr
      · have le := (r3.laidF hp (.tup (cutV vs l hh))).1
        exact aft_laid r3 hp h3 _ (.tup upd_same ((rr.cut l hh).mono le.f))
    · obtain ⟨a, vs, ey, hq, rr⟩ := look_lst r3 rx3 e
      refine .inl ⟨a, vs, ey, SqL.of hq, fun p hp => ?_⟩
      have le := (r3.laidF hp (.lst (cutV vs l hh))).1
      exact aft_laid r3 hp h3 _ (.lst upd_same ((rr.cut l hh).mono le.f))

/-! ### displays -/
def eTup (a : XA) : XE := fun env st => (a env st).bind fun us st => match pureSs us with
  | some ps => if decide (ps.length ≤ 16777216) = true then .ok (.p (.tup ps)) st else .stuck
  | none => .stuck
def eLst (a : XA) : XE := fun env st => (a env st).bind fun us st => match pureSs us with
  | some ps => if decide (ps.length ≤ 16777216) = true then .ok (.p (.lst ps)) st else .stuck
  | none => .stuck
/-- a list that will be changed: a new cell -/
def eLstC (a : XA) : XE := fun env st => (a env st).bind fun us st => if decide (us.length ≤ 16777216) = true then .ok (.c st.length) (st ++ [.lst us]) else .stuck
theorem qe_tup {k : Nat} (ha : QA X C E es f) : QE X C E (.Tuple es k pos) (eTup f) := by
  refine (pe_tup ha).imp fun σ H Q h => ?_
  obtain ⟨W, env, st, rs, n, h⟩ := h
  refine TAr.of rs n h fun W1 us st1 H1 xs _ r1 n1 rx h1 => ?_
  cases e : pureSs us with
  | none => rw [e] at h1; exact h1.elim
  | some ps =>
    simp only [e] at h1
    split at h1
    · rename_i hl
      have := pureSs_eq e
      subst this
      have rr := rx.to
      refine ⟨by rw [sizeLine_is, ← rr.length]; exact of_decide_eq_true hl, fun p hp => ?_⟩
      have le := (r1.laidF hp (.tup xs)).1
      exact aft_laid r1 hp h1 _ (.tup upd_same (rr.mono le.f))
    · exact h1.elim
theorem qe_lst (ha : QA X C E es f) : QE X C E (.List es pos) (eLst f) := by
  refine (pe_lst ha).imp fun σ H Q h => ?_
  obtain ⟨W, env, st, rs, n, h⟩ := h
  refine TAr.of rs n h fun W1 us st1 H1 xs _ r1 n1 rx h1 => ?_
  cases e : pureSs us with
  | none => rw [e] at h1; exact h1.elim
  | some ps =>
    simp only [e] at h1
    split at h1
    · rename_i hl
      have := pureSs_eq e
      subst this
      have rr := rx.to
      refine ⟨by rw [sizeLine_is, ← rr.length]; exact of_decide_eq_true hl, fun p hp => ?_⟩
      have le := (r1.laidF hp (.lst xs)).1
      exact aft_laid r1 hp h1 _ (.lst upd_same (rr.mono le.f))
    · exact h1.elim
theorem RelSt.newL {q : Addr} (r : RelSt C W st H) (hp : H q = none) {us : List S} {xs : List V} (rx : RepSs C W us xs) :
    W.le ⟨W.F, W.rho ++ [q], W.G⟩ ∧ RelSt C ⟨W.F, W.rho ++ [q], W.G⟩ (st ++ [.lst us]) (upd H q (.lst xs)) ∧ (W.rho ++ [q])[st.length]? = some q := by
  have le : W.le ⟨W.F, W.rho ++ [q], W.G⟩ := ⟨fun _ _ e => e, fun n a e => by
    show (W.rho ++ [q])[n]? = some a
    rw [List.getElem?_append_left (List.getElem?_eq_some_iff.mp e).1]; exact e, fun _ _ e => e⟩
  refine r.laidC hp ⟨?_, xs, upd_same, rx.mono le⟩
  cases z : W.F q with
  | none => rfl
  | some u => have := r.sub q u z; rw [hp] at this; cases this
theorem qe_lstC (ha : QA X C E es f) : QE X C E (.List es pos) (eLstC f) := by
  refine (pe_lst ha).imp fun σ H Q h => ?_
  obtain ⟨W, env, st, rs, n, h⟩ := h
  refine TAr.of rs n h fun W1 us st1 H1 xs _ r1 n1 rx h1 => ?_
  split at h1
  · rename_i hl
    refine ⟨by rw [sizeLine_is, ← rx.length]; exact of_decide_eq_true hl, fun p hp => ?_⟩
    obtain ⟨le, r2, hr⟩ := r1.newL hp rx
    exact h1 _ _ le r2 _ ⟨p, hr, rfl⟩
  · exact h1.elim

/-! ### calls of built-ins -/
def eCallB (g : GCall) (a : XA) : XE := fun env st => (a env st).bind g
theorem qe_callB {id : String} {r : List V → Hp → VK → Prop} {g : GCall} (hc : CallR X (.builtin id) r) (hg : RqCall C E r g) (gl : Gl X x) (hm : X.mg x = none) (hv : bootBuiltins x = some (.builtin id)) (ha : QA X C E (e :: es) f)
    (hn : x ≠ "__name__" := by decide) (hdb : (x == ("__debug__" : Str)) = false := by decide)
    (he : starEach (e :: es) X.env = (false, eval e X.env) :: starEach es X.env := by rfl) (hpl : (backTo pos (starEach es X.env)).any (·.1) = false := by rfl) : QE X C E (.Call (.Name x p) (e :: es) [] pos) (eCallB g f) := by
  refine (pe_callB hc gl hm hv ha hn hdb he hpl).imp fun σ H Q h => ?_
  obtain ⟨W, env, st, rs, n, h⟩ := h
  exact TAr.of rs n h fun W1 us st1 H1 xs _ r1 n1 rx h1 => hg W1 st1 H1 us xs Q r1 rx h1
theorem qe_callT {T : String} {r : List V → Hp → VK → Prop} {g : GCall} (hc : CallR X (.type T) r) (hg : RqCall C E r g) (gl : Gl X x) (hm : X.mg x = none) (hv : bootBuiltins x = some (.type T)) (ha : QA X C E (e :: es) f)
    (hn : x ≠ "__name__" := by decide) (hdb : (x == ("__debug__" : Str)) = false := by decide)
    (he : starEach (e :: es) X.env = (false, eval e X.env) :: starEach es X.env := by rfl) (hpl : (backTo pos (starEach es X.env)).any (·.1) = false := by rfl) : QE X C E (.Call (.Name x p) (e :: es) [] pos) (eCallB g f) := by
  refine (pe_callTy hc gl hm hv ha (hn := hn) (hdb := hdb) (he := he) (hpl := hpl)).imp fun σ H Q h => ?_
  obtain ⟨W, env, st, rs, n, h⟩ := h
  exact TAr.of rs n h fun W1 us st1 H1 xs _ r1 n1 rx h1 => hg W1 st1 H1 us xs Q r1 rx h1
def lenS (st : Store) (u : S) : Option Nat := match u with
  | .p (.str z) => if decide (z.length ≤ 16777216) = true then some z.length else none
  | u => (itemsOf st u).map List.length
def gLen : GCall := fun us st => match us with
  | [u] => match lenS st u with
    | some n => .ok (.p (.int n)) st
    | none => match u with
      | .c k => match st[k]? with
        | some (.dk kvs) => .ok (.p (.int kvs.length)) st
        | _ => .stuck
      | .p (.dk kvs) => .ok (.p (.int kvs.length)) st
      | .p (.kdk kvs) => .ok (.p (.int kvs.length)) st
      | _ => .stuck
  | _ => .stuck
def rLenQ (C : QC) (K : PySem.W.Frag) : List V → Hp → VK → Prop := fun xs H Q => (∃ x n, xs = [x] ∧ LenV K x H n ∧ Q (.int n) H) ∨ (∃ a kvs, xs = [V.ref a] ∧ (Rd H a (.dK kvs) ∨ KDict C a kvs) ∧ Q (.int kvs.length) H)
theorem call_lenQ (ok : Ok X C) : CallR X (.builtin "len") (rLenQ C X.K) := by
  refine CallR.or call_len ?_
  intro pins s σ H xs us Q I r h
  obtain ⟨a, kvs, rfl, g, q⟩ := h
  obtain ⟨u, rfl, rx⟩ := vals1 r
  cases (show u = Value.ref a from rx)
  rcases g with g | g
  · exact d_len I g fun t s' I' => ⟨.int _, H, I', ⟨_, rfl⟩, q⟩
  · have hz := g.2.1
    obtain ⟨hd, vs, rel, dd⟩ := g.at ok I
    refine call_len_dict hd dd (by rw [← rel.length]; rw [sizeLine_is] at hz; omega) ?_
    rw [← rel.length]
    exact ⟨.int _, H, I.tok _, ⟨_, rfl⟩, q⟩
theorem zipV_length {κ α : Type} : ∀ {kvs : List (κ × α)} {vs : List V}, kvs.length = vs.length → (zipV kvs vs).length = kvs.length
  | [], [], _ => rfl
  | p :: r, v :: vs, h => by simp [zipV, zipV_length (kvs := r) (vs := vs) (by simpa using h)]
  | [], _ :: _, h => by simp at h
  | _ :: _, [], h => by simp at h
theorem rq_len (ok : Ok X C) : RqCall C E (rLenQ C X.K) gLen := by
  intro W st H us xs Q r rs h
  unfold gLen at h
  split at h
  · rename_i u
    cases rs with
    | cons ru t =>
      cases t
      rename_i y
      split at h
      · rename_i n en
        refine .inl ⟨y, n, rfl, ?_, h W H W.le_refl r _ (.int _)⟩
        unfold lenS at en
        split at en
        · rename_i z
          cases ru
          split at en
          · rename_i hz
            cases en
            exact ⟨by rw [sizeLine_is]; exact of_decide_eq_true hz, rfl⟩
          · cases en
        · obtain ⟨ts, et, el⟩ := Option.map_eq_some_iff.mp en
          obtain ⟨p, vs, ex, hq, rq⟩ := items_sq r ru et
          subst ex
          rw [ok.hC] at hq
          have : n = vs.length := by rw [← el, rq.length]
          rcases hq with hq | hq
          · exact .inr ⟨vs, hq, this⟩
          · exact .inl ⟨vs, hq, this⟩
      · split at h
        · rename_i k
          split at h
          · rename_i kvs es
            obtain ⟨a, ea, ex⟩ := ru
            obtain ⟨hF, us, eH, rr⟩ := r.cell _ _ a es ea
            have hl : (zipV kvs us).length = kvs.length := zipV_length (by have := rr.length; simpa using this)
            refine .inr ⟨a, _, by rw [ex], .inl (.inl eH), ?_⟩
            rw [hl]
            exact h W H W.le_refl r _ (.int _)
          · exact h.elim
        · rename_i kvs _
          cases ru with
          | dk q rr =>
            rename_i a us
            have hl : (zipV kvs us).length = kvs.length := zipV_length (by have := rr.length; simpa using this)
            refine .inr ⟨_, _, rfl, .inl (.inr ⟨_, r.sub _ _ q⟩), ?_⟩
            rw [hl]
            exact h W H W.le_refl r _ (.int _)
        · rename_i kvs _
          cases ru with
          | kdk q rr =>
            rename_i a us
            have hl : (zipV kvs us).length = kvs.length := zipV_length (by have := rr.length; simpa using this)
            refine .inr ⟨a, _, rfl, .inr q, ?_⟩
            rw [hl]
            exact h W H W.le_refl r _ (.int _)
        · exact h.elim
  · exact h.elim
end
end Q

set_option Elab.async false
set_option linter.all false
set_option maxRecDepth 100000
set_option maxHeartbeats 2000000
/-! Q5: comprehensions of any number of clauses, at the hand layer -/
namespace Q
open PySem L2 PySem.Spec PyProof.Rows

/-- a turn of a clause's loop -/
def turnG (tg iter : Expr) (ifs : List Expr) (it : Value) (tail : Sem Unit) (e : Expr) (d : Nat) (acc : Value) (env : PySem.Env) : Sem Fin := do
  standAt iter.pos
  match ← pyNext it with
  | none => pure (.done .next)
  | some v =>
    letOwnedTupleGo tg it v
    assign tg env v
    let mut ok := true
    for c in ifs do
      if ok then ok ← isTrue c env (eval c env)
    if ok then
      tail
    again (.compLoop e d it acc env)
/-- the code of a further clause -/
def tailC (i1 : Expr) (e : Expr) (d : Nat) (acc : Value) (env : PySem.Env) : Sem Unit := do
  let x ← eval i1 env
  standAt i1.pos
  let x ← foldedSetIterable i1 env x
  let _ ← runOwn (.compStart e d (← holding [x] (pyIter x)) acc env) env

/-- what the codes of e's clauses are -/
structure CompE (prog : Program) (w : World) (A : Around) (e : Expr) (d : Nat) (acc : Value) (env : PySem.Env) : Prop where
  ql : ∀ it, (Code.compLoop e d it acc env).quiet = true
  ul : ∀ it, A.under (.compLoop e d it acc env) = A
  dl : ∀ it, (model prog w).den (.compLoop e d it acc env) = (compTurn e d it acc env).onRaise (fun x => do noteFrame x env; theTreesLotGoes x)
  us : ∀ it, A.under (.compStart e d it acc env) = A
  ds : ∀ it, (model prog w).den (.compStart e d it acc env) = (compStart e d it acc env).onRaise (fun x => do noteFrame x env; standAt theWindowsPlace)

/-- the loop of a clause -/
theorem loopG {prog : Program} {w : World} {A : Around} {R : Result → Shared → Prop} {s : Shared} {tg iter e : Expr} {ifs : List Expr} {d : Nat} {it acc : Value} {env : PySem.Env} {tail : Sem Unit} (ce : CompE prog w A e d acc env) (hT : compTurn e d it acc env = turnG tg iter ifs it tail e d acc env) (I : Nat → Shared → Prop)
    (turn : ∀ n s, I n s → wpAny (model prog w) A (pyNext it) (fun r s₁ => match r with
      | none => R (.ok .next) s₁
      | some v => wpAny (model prog w) A (letOwnedTupleGo tg it v) (fun _ s₁' => wpAny (model prog w) A (assign tg env v) (fun _ s₂ =>
          wpAny (model prog w) A (forIn ifs true fun c r => if r = true then do let ok ← isTrue c env (eval c env); pure (ForInStep.yield ok) else pure (ForInStep.yield r)) (fun ok s₃ =>
            if ok = true then wpAny (model prog w) A tail (fun _ s₄ => ∃ m, m < n ∧ I m s₄) (fun _ _ => False) s₃
            else ∃ m, m < n ∧ I m s₃) (fun _ _ => False) s₂) (fun _ _ => False) s₁') (fun _ _ => False) s₁) (fun _ _ => False) s)
    (n : Nat) (h : I n s) : codeAny (model prog w) A (.compLoop e d it acc env) R s := by
  refine codeAny_loop (ce.ql it) I (fun n s hI => ?_) n h
  rw [ce.ul it, ce.dl it]
  refine wpAny_noted ?_
  rw [hT]
  unfold turnG
  have no : ∀ {α : Type} {t : Sem α} {Q Q' : α → Shared → Prop} {E : Value → Shared → Prop} {s : Shared}, wpAny (model prog w) A t Q (fun _ _ => False) s → (∀ a s, Q a s → Q' a s) → wpAny (model prog w) A t Q' E s := fun h q => wpAny_mono h q fun _ _ z => z.elim
  refine wpAny_bind (wpAny_standAt (wpAny_bind (no (turn n s hI) (fun r s₁ h₁ => ?_))))
  cases r with
  | none => exact wpAny_pure h₁
  | some v =>
    refine wpAny_bind (no h₁ (fun _ s₁' h₁' => ?_))
    refine wpAny_bind (no h₁' (fun _ s₂ h₂ => wpAny_bind (no h₂ (fun ok s₃ h₃ => ?_))))
    cases ok with
    | false => exact wpAny_pure ⟨rfl, h₃⟩
    | true =>
      first
        | exact wpAny_bind (no h₃ fun _ s₄ h₄ => wpAny_pure ⟨rfl, h₄⟩)
        | exact wpAny_bind (wpAny_bind (no h₃ fun _ s₄ h₄ => wpAny_pure (wpAny_pure ⟨rfl, h₄⟩)))
theorem startG {prog : Program} {w : World} {A : Around} {R : Result → Shared → Prop} {s : Shared} {tg iter e : Expr} {ifs : List Expr} {d : Nat} {it acc : Value} {env : PySem.Env} (ce : CompE prog w A e d acc env) (hcl : (clausesOf e)[d]? = some ⟨tg, iter, ifs, 0⟩)
    (h0 : codeAny (model prog w) A (.compLoop e d it acc env) R s)
    (h : wpAny (model prog w) A (pyIter it) (fun it' s' => codeAny (model prog w) A (.compLoop e d it' acc env) R s') (fun _ _ => False) s) :
    codeAny (model prog w) A (.compStart e d it acc env) R s := by
  refine codeAny_of_tree ?_
  rw [ce.us it, ce.ds it]
  refine wpAny_notedAt ?_
  unfold compStart
  rw [hcl]
  show wpAny _ _ (ask >>= _) _ _ s
  refine wpAny_bind (wpAny_askSetting (wpAny_ite ?_))
  have no : ∀ {α : Type} {t : Sem α} {Q Q' : α → Shared → Prop} {E : Value → Shared → Prop} {s : Shared}, wpAny (model prog w) A t Q (fun _ _ => False) s → (∀ a s, Q a s → Q' a s) → wpAny (model prog w) A t Q' E s := fun h q => wpAny_mono h q fun _ _ z => z.elim
  split
  · first
      | exact wpAny_bind (wpAny_pure (wpAny_pure (And.intro (ce.ql it) h0)))
      | exact wpAny_pure (And.intro (ce.ql it) h0)
  · first
      | exact wpAny_bind (wpAny_rule (wpAny_bind (wpAny_standAt (wpAny_bind (no h (fun it' s' h' => wpAny_pure (And.intro (ce.ql it') h')))))))
      | (refine wpAny_bind (wpAny_rule ?_); show wpAny _ _ (standAt iter.pos >>= _) _ _ s; exact wpAny_bind (wpAny_standAt (wpAny_bind (no h (fun it' s' h' => wpAny_pure (And.intro (ce.ql it') h'))))))

/-! ### readings -/
abbrev TN := L2.St → Hp → (Hp → Prop) → Prop
/-- one clause, behind it u; V: its target's names and those of the clauses behind it -/
def tCl (wi : TI) (g : TG) (tt : TT) (V : List Nat) (u : TN) : TN := fun σ H Nx => wi σ H fun J H1 => ∃ W : Nat → Nat → Hp → Prop, (∃ m, W 0 m H1) ∧ ∀ i m H, W i m H →
  (J.stop i H ∧ Nx H) ∨ (J.go i H ∧ ∃ N : Hp → Prop, (∀ H', N H' → ∃ m', m' < m ∧ W (i + 1) m' H') ∧ ∀ x H', J.yld i H x H' → g x (wipe σ V) H' fun σ2 H2 => wipe σ2 V = wipe σ V ∧ tt σ2 H2 fun b H3 =>
    if b = true then u σ2 H3 N else N H3)
/-- what the code behind a clause's tests does: Vr names are lost -/
def PTail (X : Cx) (tail : Sem Unit) (Vr : List Nat) (u : TN) : Prop :=
  ∀ (pins : List (Addr × Obj)) (s : Shared) (σ : L2.St) (H : Hp) (Nx : Hp → Prop), Inv X pins σ H s → u σ H Nx →
    wpAny (model X.prog X.w) X.A tail (fun _ s' => ∃ H', Inv X pins (wipe σ Vr) H' s' ∧ Nx H') (fun _ _ => False) s
section
variable {X : Cx}
theorem thnN {α : Type} {M : Model} {A : Around} {t : Sem α} {Q Q' : α → Shared → Prop} {E : Value → Shared → Prop} {s : Shared} (h : wpAny M A t Q (fun _ _ => False) s) (q : ∀ a s, Q a s → Q' a s) : wpAny M A t Q' E s := wpAny_mono h q fun _ _ z => z.elim
theorem knows_wipe {σ σ2 : L2.St} {V Vr : List Nat} (h : wipe σ2 V = wipe σ V) (hs : ∀ i ∈ Vr, i ∈ V) : (wipe σ V).length = (wipe σ2 Vr).length ∧ ∀ (j : Nat) v, (wipe σ V)[j]? = some (some v) → (wipe σ2 Vr)[j]? = some (some v) := by
  refine ⟨by rw [← h, wipe_length, wipe_length], fun j v e => ?_⟩
  rw [← h] at e
  obtain ⟨e1, e2⟩ := wipe_some e
  rw [wipe_out fun z => e2 (hs j z)]
  exact e1
/-- a clause's loop, its iterator there -/
theorem run_loop {tg iter e : Expr} {ifs : List Expr} {d : Nat} {acc : Value} {tail : Sem Unit} {it : Addr} {fp : List Addr} {tn : Nat → Heap → Prop} {J : It} {g : TG} {tt : TT} {V Vr : List Nat} {u : TN} {W : Nat → Nat → Hp → Prop}
    {pins : List (Addr × Obj)} {s : Shared} {σ : L2.St} {H : Hp} {Nx : Hp → Prop} {m0 : Nat} (hc : X.calm = true) (hx : X.xe = fun _ _ => False) (ce : CompE X.prog X.w X.A e d acc X.env)
    (hT : compTurn e d (.ref it) acc X.env = turnG tg iter ifs (.ref it) tail e d acc X.env) (hg : PG X tg g) (ht : PTs X ifs tt) (hu : PTail X tail Vr u) (hV : ∀ i ∈ Vr, i ∈ V)
    (I : Inv X pins (wipe σ V) H s) (T : Turn X.prog X.w X.K tg J fp it tn) (st0 : tn 0 s.heap) (f0 : ∀ b ∈ fp, FpOk X pins H b) (w0 : W 0 m0 H)
    (turn : ∀ i m H, W i m H → (J.stop i H ∧ Nx H) ∨ (J.go i H ∧ ∃ N : Hp → Prop, (∀ H', N H' → ∃ m', m' < m ∧ W (i + 1) m' H') ∧ ∀ x H', J.yld i H x H' → g x (wipe σ V) H' fun σ2 H2 => wipe σ2 V = wipe σ V ∧ tt σ2 H2 fun b H3 =>
      if b = true then u σ2 H3 N else N H3)) :
    codeAny (model X.prog X.w) X.A (.compLoop e d (.ref it) acc X.env) (fun r s' => match r with
      | .ok _ => ∃ H', Inv X pins (wipe σ V) H' s' ∧ Nx H'
      | .error _ => False) s := by
  have stat : ∀ {H' : Hp}, (∀ b ∈ fp, H' b = none) → ∀ b ∈ fp, FpOk X pins H' b := fun hn b hb => ⟨hn b hb, (f0 b hb).2⟩
  have toF : ∀ {α : Type} {t : Sem α} {Q : α → Shared → Prop} {s : Shared}, wpAny (model X.prog X.w) X.A t Q X.xe s → wpAny (model X.prog X.w) X.A t Q (fun _ _ => False) s := fun h => by rw [hx] at h; exact h
  refine loopG ce hT (fun n s' => ∃ i H', Inv X pins (wipe σ V) H' s' ∧ tn i s'.heap ∧ (∀ b ∈ fp, H' b = none) ∧ W i n H') ?_ m0 ⟨0, H, I, st0, fun b hb => (f0 b hb).1, w0⟩
  rintro n s5 ⟨i, H5, I5, st5, n5, w5⟩
  rcases turn i n H5 w5 with ⟨stop, qq⟩ | ⟨go, N, hN, step⟩
  · refine thnN (T.done X rfl rfl rfl hc i pins s5 _ H5 (fun _ _ => False) I5 (stat n5) st5 stop) fun r s6 ⟨hr, I6⟩ => ?_
    subst hr
    exact ⟨H5, I6, qq⟩
  · refine thnN (T.item X rfl rfl rfl hc i pins s5 _ H5 (fun _ _ => False) I5 (stat n5) st5 go) fun r s6 ⟨u1, hr, h6⟩ => ?_
    subst hr
    refine thnN h6 fun _ s7 ⟨x, H7, I7, r7, y7, st7, n7⟩ => ?_
    have I7' := I7.pinned (stat n7) (T.obj _ _ st7)
    refine thnN (toF (hg.run _ s7 _ H7 x u1 _ I7' r7 (step x H7 y7))) fun _ s8 ⟨σ8, H8, I8, hw8, q8⟩ => ?_
    refine thnN (toF (ht.run _ s8 σ8 H8 _ I8 q8)) fun b s9 ⟨H9, I9, q9⟩ => ?_
    have fin : ∀ {σ9 : L2.St} {s' : Shared} {H' : Hp}, Inv X (pins ++ pinsAt fp s7.heap) σ9 H' s' → ((wipe σ V).length = σ9.length ∧ ∀ (j : Nat) v, (wipe σ V)[j]? = some (some v) → σ9[j]? = some (some v)) → N H' →
        ∃ m, m < n ∧ ∃ i H', Inv X pins (wipe σ V) H' s' ∧ tn i s'.heap ∧ (∀ b ∈ fp, H' b = none) ∧ W i m H' := fun {σ9 s' H'} I' hk nx => by
      obtain ⟨m', hm, w'⟩ := hN H' nx
      have pin' : ∀ b ∈ fp, ∀ o, s7.heap.get? b = some o → s'.heap.get? b = some o ∧ H' b = none := fun b hb o e =>
        let z := I'.pin (b, o) (List.mem_append_right _ (List.mem_append_right _ (mem_pinsAt hb e)))
        ⟨z.1, z.2.1⟩
      refine ⟨m', hm, i + 1, H', I'.unpinned.weak hk.1 hk.2, T.keep _ _ _ st7 fun b hb o e => (pin' b hb o e).1, fun b hb => ?_, w'⟩
      obtain ⟨o, e, _⟩ := T.obj _ _ st7 b hb
      exact (pin' b hb o e).2
    cases b with
    | false =>
      simp only [Bool.false_eq_true, if_false] at q9 ⊢
      exact fin I9 (knows_wipe (Vr := []) hw8 (fun _ z => nomatch z)) q9
    | true =>
      simp only [if_true] at q9 ⊢
      exact thnN (hu _ s9 σ8 H9 N I9 q9) fun _ s10 ⟨H10, I10, n10⟩ => fin I10 (knows_wipe hw8 hV) n10
/-- a further clause -/
theorem tail_clause {tg iter e : Expr} {ifs : List Expr} {d : Nat} {acc : Value} {tail : Sem Unit} {wi : TI} {g : TG} {tt : TT} {V Vr : List Nat} {u : TN} (hc : X.calm = true) (hx : X.xe = fun _ _ => False) (ce : CompE X.prog X.w X.A e d acc X.env)
    (hT : ∀ it, compTurn e d it acc X.env = turnG tg iter ifs it tail e d acc X.env) (hcl : (clausesOf e)[d]? = some ⟨tg, iter, ifs, 0⟩) (hs : ∀ x, foldedSetIterable iter X.env x = pure x)
    (hi : PI X tg iter wi) (hg : PG X tg g) (ht : PTs X ifs tt) (hu : PTail X tail Vr u) (hV : ∀ i ∈ Vr, i ∈ V) : PTail X (tailC iter e d acc X.env) V (tCl wi g tt V u) := by
  intro pins s σ H Nx I h
  have toF : ∀ {α : Type} {t : Sem α} {Q : α → Shared → Prop} {s : Shared}, wpAny (model X.prog X.w) X.A t Q X.xe s → wpAny (model X.prog X.w) X.A t Q (fun _ _ => False) s := fun h => by rw [hx] at h; exact h
  unfold tailC
  refine wpAny_bind (thnN (toF (hi.run pins s σ H _ I h)) fun xv s1 hx1 => ?_)
  refine wpAny_bind (wpAny_standAt (wpAny_bind (wpAny_of_eq (hs xv) (wpAny_bind (wpAny_holding (thnN (toF hx1) fun itv s2 h2 => ?_))))))
  obtain ⟨it, fp, tn, J, H2, e1, I2, T, st2, f2, W, ⟨m0, w0⟩, turn⟩ := h2
  subst e1
  have I3 : Inv X pins (wipe σ V) H2 s2 := I2.weak (wipe_length _ _) (fun j v q => (wipe_some q).1)
  have loop := run_loop hc hx ce (hT (.ref it)) hg ht hu hV I3 T st2 f2 w0 turn
  have start := startG ce hcl loop (T.self X.A 0 s2 _ _ st2 loop)
  refine wpAny_bind (wpAny_runOwn ?_)
  rw [Around.mark_none]
  refine codeAny_mono start fun r s' hr => ?_
  cases r with
  | ok f =>
    first
      | exact wpAny_pure hr
      | exact wpAny_bind (wpAny_pure (wpAny_pure hr))
  | error x => exact hr.elim
end
end Q

set_option Elab.async false
set_option linter.all false
set_option maxRecDepth 100000
set_option maxHeartbeats 2000000
/-! Q6: comprehensions as a whole -/
namespace Q
open PySem L2 PySem.Spec PyProof.Rows

abbrev blkEnv (X : Cx) (scope : Scope) (C : Addr) (cl : List (Str × Addr)) : PySem.Env := compEnvC scope cl C X.env
/-- something of every block context -/
abbrev InBlk (X : Cx) (scope : Scope) (p : Cx → Prop) : Prop := ∀ (s : Shared) (H : Hp) (C : Addr) (cl : List (Str × Addr)) (fp : List Addr), p (X.blk s H scope (compEnvC scope cl C X.env) fp)
/-- the new thing at D; u: what one element does -/
def tComp (o0 : HO) (wi : TI) (g : TG) (tt : TT) (V : List Nat) (u : Addr → TN) : TE := fun σ H Q => wi σ H fun J H1 => ∀ D, H1 D = none → ∃ W : Nat → Nat → Hp → Prop, (∃ m, W 0 m (upd H1 D o0)) ∧ ∀ i m H, W i m H →
  (J.stop i H ∧ Q (.ref D) H) ∨ (J.go i H ∧ ∃ N : Hp → Prop, (∀ H', N H' → ∃ m', m' < m ∧ W (i + 1) m' H') ∧ ∀ x H', J.yld i H x H' → g x (wipe σ V) H' fun σ2 H2 => wipe σ2 V = wipe σ V ∧ tt σ2 H2 fun b H3 =>
    if b = true then u D σ2 H3 N else N H3)
/-- what is laid at the start -/
structure NewAcc (newAcc : Sem Value) (ob : Obj) (o0 : HO) : Prop where
  run : ∀ (M : Model) (A : Around) (E : Value → Shared → Prop) (Q : Value → Shared → Prop) (s : Shared), Q (.ref s.heap.objs.size) { s with heap := s.heap.push ob } → wpAny M A newAcc Q E s
  ok : ∀ (P : Program) (w : World) (H : Hp) (h : Heap), sysModules < h.objs.size → ObjOk P w H (h.push ob) h.objs.size o0
theorem newAcc_list : NewAcc (newList []) { cls := .type "list", data := .seq ([] : List Value).toArray } (.lst []) where
  run := fun M A E Q s h => wpAny_newObj_type h (by show 0 ≤ sizeLine; decide)
  ok := fun P w H h _ => ⟨Nat.zero_le _, [], 0, .nil, Heap.get?_push_size _ rfl⟩
theorem newAcc_dk : NewAcc newDict { cls := .type "dict", data := .dict #[] } (.dK []) where
  run := fun M A E Q s h => wpAny_newObj_type h
  ok := fun P w H h hb => dk_empty h hb
theorem newAcc_dt : NewAcc newDict { cls := .type "dict", data := .dict #[] } (.dT []) where
  run := fun M A E Q s h => wpAny_newObj_type h
  ok := fun P w H h hb => dt_empty h hb
section
variable {X : Cx}
theorem comp_core {pins : List (Addr × Obj)} {s : Shared} {σ : L2.St} {H : Hp} {Q : VK} {e tg iter : Expr} {ifs : List Expr} {gs : List Comprehension} {scope : Scope} {own : List (Str × Nat)} {pos' : Pos} {wi : TI} {g : TG} {tt : TT} {u : Addr → TN} {Vr : List Nat} {tail : Addr → PySem.Env → Sem Unit} {use : Option (Value → Sem Unit)} {Qf : Value → Shared → Prop} {newAcc : Sem Value} {ob : Obj} {o0 : HO}
    (na : NewAcc newAcc ob o0) (hc : X.calm = true) (hN : X.N.Nodup) (I : Inv X pins σ H s) (hcl : clausesOf e = ⟨tg, iter, ifs, 0⟩ :: gs) (hi : PI X tg iter wi) (ok : BlkOk X.N X.env.scope scope own) (hV : ∀ i ∈ Vr, i ∈ own.map (·.2))
    (ce : ∀ D env, CompE X.prog X.w X.A e 0 (.ref D) env) (hT : ∀ D env it, compTurn e 0 it (.ref D) env = turnG tg iter ifs it (tail D env) e 0 (.ref D) env)
    (hg : InBlk X scope fun Y => PG Y tg g) (ht : InBlk X scope fun Y => PTs Y ifs tt) (hu : ∀ D, InBlk X scope fun Y => PTail Y (tail D Y.env) Vr (u D)) (hs : ∀ x, foldedSetIterable iter X.env x = pure x)
    (h : tComp o0 wi g tt (own.map (·.2)) u σ H Q)
    (hRR : ∀ D C s' m H', Inv X pins σ H' s' → Q (.ref D) H' → s'.heap.Ns C m → FpOk X pins H' C → compPost (model X.prog X.w) X.A X.xe use Qf (.ref D) C (.ok .next) s') :
    wpAny (model X.prog X.w) X.A (comprehension e scope X.env pos' newAcc false (eval iter X.env) use) Qf X.xe s := by
  have hfree : ∀ y ∈ scope.names, y.2 = .free → ∃ c, X.env.cells.lookup y.1 = some c := fun y hy e => by
    rcases ok.free y hy e with k | k
    · exact I.ok.has _ (.inl k)
    · exact I.ok.has _ (.inr k)
  refine wpAny_comprehension_free (use := use) hcl hs (closure_ok hfree) ok.kind (fun y hy e => by rw [ok.uniq y hy, e])
    (thn (hi.run pins s σ H _ I h) fun xv s1 hx => thn hx fun itv s2 h2 => ?_)
  obtain ⟨it, fp, tn, J, H2, e1, I2, T, st2, f2, q⟩ := h2
  subst e1
  refine na.run _ _ _ _ _ (newEnv_comp ?_)
  generalize hD : s2.heap.objs.size = D
  have hDn : H2 D = none := I2.hok.fresh (Nat.le_of_eq hD)
  obtain ⟨W, ⟨m0, w0⟩, turn⟩ := q D hDn
  generalize hs3 : ({ s2 with heap := s2.heap.push ob } : Shared) = s3
  have I3 : Inv X pins σ (upd H2 D o0) s3 := by
    rw [← hs3]
    refine I2.laid (t' := s2.toks) (fun b o e => Heap.get?_push_of_some _ e) (Nat.le_of_eq hD) ?_
    rw [← hD]
    exact na.ok _ _ _ _ I2.big
  have h3 : s3.heap = s2.heap.push ob := by rw [← hs3]
  have sz : ∀ b ∈ fp, b < s2.heap.objs.size := fun b hb => by
    obtain ⟨o, e, _⟩ := T.obj _ _ st2 b hb
    exact Heap.lt_size e
  have f3 : ∀ b ∈ fp, FpOk X pins (upd H2 D o0) b ∧ b < s3.heap.objs.size := fun b hb => by
    have hlt := sz b hb
    refine ⟨⟨?_, (f2 b hb).2⟩, by rw [h3, Heap.size_push]; exact Nat.lt_succ_of_lt hlt⟩
    rw [upd_ne (by rw [← hD]; exact Nat.ne_of_lt hlt)]
    exact (f2 b hb).1
  have st3 : tn 0 s3.heap := T.keep _ _ _ st2 fun b _ o e => by rw [h3]; exact Heap.get?_push_of_some _ e
  have I4 := block_start I3 ok hN f3
  have pg := hg s3 (upd H2 D o0) s3.heap.objs.size (cellsFrom (s3.heap.objs.size + 1) scope.names (cloFrom X.env.cells scope.names [])) fp
  have pt := ht s3 (upd H2 D o0) s3.heap.objs.size (cellsFrom (s3.heap.objs.size + 1) scope.names (cloFrom X.env.cells scope.names [])) fp
  have pu := hu D s3 (upd H2 D o0) s3.heap.objs.size (cellsFrom (s3.heap.objs.size + 1) scope.names (cloFrom X.env.cells scope.names [])) fp
  show codeAny _ _ (.compStart e 0 (.ref it) (.ref D) (compEnvC scope (cellsFrom (s3.heap.objs.size + 1) scope.names (cloFrom X.env.cells scope.names [])) s3.heap.objs.size X.env)) (compPost (model X.prog X.w) X.A X.xe use Qf (.ref D) s3.heap.objs.size) { s3 with heap := pushCells (s3.heap.push { cls := .type "dict", data := .dict #[] }) scope.names }
  have nfp : ∀ b ∈ fp, (upd H2 D o0) b = none := fun b hb => (f3 b hb).1.1
  generalize hce : compEnvC scope (cellsFrom (s3.heap.objs.size + 1) scope.names (cloFrom X.env.cells scope.names [])) s3.heap.objs.size X.env = cenv at I4 pg pt pu ⊢
  have cL : cenv.locals = s3.heap.objs.size := by subst hce; rfl
  generalize hH3 : upd H2 D o0 = H3 at I3 I4 pg pt pu w0 nfp f3
  generalize hs4 : ({ s3 with heap := pushCells (s3.heap.push { cls := .type "dict", data := .dict #[] }) scope.names } : Shared) = s4 at I4 ⊢
  have st4 : tn 0 s4.heap := T.keep _ _ _ st3 fun b _ o e => by rw [← hs4]; exact pushCells_keeps _ _ _ _ (Heap.get?_push_of_some _ e)
  have fb : ∀ b ∈ fp, FpOk (X.blk s3 H3 scope cenv fp) [] H3 b := fun b hb =>
    ⟨nfp b hb, (I4.ok.exf b hb).1, I4.ok.exfs b hb, .inl hb, fun x c e => (I4.ok.exf b hb).2 x c e, fun p hp => absurd (show p ∈ ([] : List (Addr × Obj)) ++ [] from hp) (by simp)⟩
  have loop := run_loop (X := X.blk s3 H3 scope cenv fp) (acc := .ref D) (d := 0) (Nx := fun H => Q (.ref D) H) hc rfl (ce D cenv) (hT D cenv (.ref it)) pg pt pu hV I4 T st4 fb w0 turn
  have start := startG (ce D cenv) (by rw [hcl]; rfl) loop (T.self X.A 0 s4 _ _ st4 loop)
  refine codeAny_mono start fun r s6 hr => ?_
  cases r with
  | error x => exact hr.elim
  | ok f =>
    obtain ⟨H5, I6, qq⟩ := hr
    have I7 : Inv X pins σ H5 s6 := I3.call' (ch := fp) I6.os I6.base I6.hok I6.bare fun b hb => ⟨(f3 b hb).1.2.2.2.1, (f3 b hb).1.2.1, (f3 b hb).1.2.2.2.2.1, (f3 b hb).1.2.2.2.2.2⟩
    have nC : H5 s3.heap.objs.size = none := by
      have z : H5 cenv.locals = none := I6.free
      rw [cL] at z
      exact z
    obtain ⟨m, hn, _⟩ := I6.loc
    have hn : s6.heap.Ns cenv.locals m := hn
    rw [cL] at hn
    have fin := hRR D s3.heap.objs.size s6 m H5 I7 qq hn (I3.fpOk (Nat.le_refl _) nC)
    cases use <;> exact fin
/-- as a value -/
theorem pe_comp {e tg iter : Expr} {ifs : List Expr} {gs : List Comprehension} {scope : Scope} {own : List (Str × Nat)} {pos' : Pos} {wi : TI} {g : TG} {tt : TT} {u : Addr → TN} {Vr : List Nat} {tail : Addr → PySem.Env → Sem Unit} {newAcc : Sem Value} {ob : Obj} {o0 : HO}
    (na : NewAcc newAcc ob o0) (hc : X.calm = true) (hN : X.N.Nodup) (hcl : clausesOf e = ⟨tg, iter, ifs, 0⟩ :: gs) (hi : PI X tg iter wi) (ok : BlkOk X.N X.env.scope scope own) (hV : ∀ i ∈ Vr, i ∈ own.map (·.2))
    (ce : ∀ D env, CompE X.prog X.w X.A e 0 (.ref D) env) (hT : ∀ D env it, compTurn e 0 it (.ref D) env = turnG tg iter ifs it (tail D env) e 0 (.ref D) env)
    (hg : InBlk X scope fun Y => PG Y tg g) (ht : InBlk X scope fun Y => PTs Y ifs tt) (hu : ∀ D, InBlk X scope fun Y => PTail Y (tail D Y.env) Vr (u D)) (hs : ∀ x, foldedSetIterable iter X.env x = pure x)
    (hev : eval e X.env = comprehension e scope X.env pos' newAcc false (eval iter X.env) none) : PE X e (tComp o0 wi g tt (own.map (·.2)) u) := by
  refine ⟨fun pins s σ H Q I h => ?_⟩
  rw [hev]
  refine comp_core na hc hN I hcl hi ok hV ce hT hg ht hu hs h fun D C s' m H' I' q hn f => ⟨m, hn, fun h'' sb => ?_⟩
  obtain ⟨f0, f1, f2, f3, f4, f5⟩ := f
  exact ⟨.ref D, H', I'.turned (t' := s'.toks) (fun b o hb e => (sb.2 b hb).trans e) f0 f1 f3 f4 f5, rfl, q⟩
/-- name = [..] on one line, the name a local -/
theorem ps_setComp {i : Nat} {y : Str} {py spos : Pos} {e tg iter : Expr} {ifs : List Expr} {gs : List Comprehension} {scope : Scope} {own : List (Str × Nat)} {pos' : Pos} {wi : TI} {g : TG} {tt : TT} {u : Addr → TN} {Vr : List Nat} {tail : Addr → PySem.Env → Sem Unit} {newAcc : Sem Value} {ob : Obj} {o0 : HO}
    (na : NewAcc newAcc ob o0) (hc : X.calm = true) (hN : X.N.Nodup) (hy : X.N[i]? = some y) (hyl : X.env.scope.names.lookup y = some .local) (hsw : swapsWith e (some (.Name y py)) spos.line X.env = pure true) (hcl : clausesOf e = ⟨tg, iter, ifs, 0⟩ :: gs) (hi : PI X tg iter wi) (ok : BlkOk X.N X.env.scope scope own) (hV : ∀ i ∈ Vr, i ∈ own.map (·.2))
    (ce : ∀ D env, CompE X.prog X.w X.A e 0 (.ref D) env) (hT : ∀ D env it, compTurn e 0 it (.ref D) env = turnG tg iter ifs it (tail D env) e 0 (.ref D) env)
    (hg : InBlk X scope fun Y => PG Y tg g) (ht : InBlk X scope fun Y => PTs Y ifs tt) (hu : ∀ D, InBlk X scope fun Y => PTail Y (tail D Y.env) Vr (u D)) (hs : ∀ x, foldedSetIterable iter X.env x = pure x)
    (hev : evalThenUse e X.env (assign (.Name y py) X.env) = (do let _ ← comprehension e scope X.env pos' newAcc false (eval iter X.env) (some (assign (.Name y py) X.env)))) : PS X (.Assign [.Name y py] e spos) (tAsg (tComp o0 wi g tt (own.map (·.2)) u) (gName i)) := by
  refine ⟨fun pins s σ H D I h => ?_⟩
  rw [exec_Assign_Name_used _ _ _ _ hsw]
  refine wpAny_bind (wpAny_standAt (wpAny_bind ?_))
  rw [hev]
  have h : tComp o0 wi g tt (own.map (·.2)) u σ H (fun x H1 => gName i x σ H1 D.nx) := h
  refine wpAny_bind (thn (comp_core (Qf := fun _ s' => SP X pins D .next s') na hc hN I hcl hi ok hV ce hT hg ht hu hs h fun L C s' m H' I' q hn f => ?_) fun _ s' hq => wpAny_pure (wpAny_pure hq))
  show wpAny _ _ (assign (.Name y py) X.env (.ref L)) _ _ _
  refine wpAny_assign_Name (store_ok2 (v := V.ref L) I' hN hy (.inl hyl) rfl (fun s2 I2 ⟨a, sb, ha⟩ => ?_) (.inr hyl))
  obtain ⟨f0, f1, f2, f3, f4, f5⟩ := f
  have haC : C ≠ a := by
    rcases ha with z | z
    · rw [z]; exact f1
    · exact fun e => f4 y a z e.symm
  refine ⟨m, hn.sameBut sb haC, fun h3 sb3 => ?_⟩
  exact ⟨_, H', I2.turned (t' := s2.toks) (fun b o hb e => (sb3.2 b hb).trans e) f0 f1 f3 f4 f5, q⟩
/-! the elements -/
def emitL (elt : Expr) (D : Addr) (env : PySem.Env) : Sem Unit := do let _ ← call (.builtin "list.append") [.ref D, ← eval elt env]
def uLst (te : TE) (D : Addr) : TN := fun σ H Nx => te σ H fun y H4 => ∃ acc, H4 D = some (.lst acc) ∧ acc.length < sizeLine ∧ Nx (upd H4 D (.lst (acc ++ [y])))
theorem tail_emitL {elt : Expr} {te : TE} {D : Addr} (hx : X.xe = fun _ _ => False) (he : PE X elt te) : PTail X (emitL elt D X.env) [] (uLst te D) := by
  intro pins s σ H Nx I h
  have toF : ∀ {α : Type} {t : Sem α} {Q : α → Shared → Prop} {s : Shared}, wpAny (model X.prog X.w) X.A t Q X.xe s → wpAny (model X.prog X.w) X.A t Q (fun _ _ => False) s := fun h => by rw [hx] at h; exact h
  unfold emitL
  refine wpAny_bind (thnN (toF (he.run pins s σ H _ I h)) fun z s1 ⟨yv, H1, I1, r1, acc, hD, hz, nx⟩ => ?_)
  exact wpAny_bind (app_ok (X := X) I1 hD hz r1 fun s2 I2 => wpAny_pure ⟨_, I2, nx⟩)
def emitD (kx vx : Expr) (D : Addr) (env : PySem.Env) : Sem Unit := do
  let kv ← eval kx env
  let vv ← holding [kv] (eval vx env)
  standAt { kx.pos with endLine := vx.pos.endLine, endCol := vx.pos.endCol }
  holding [kv, vv] (dictSet D kv vv)
def uDct (tk tv : TE) (D : Addr) : TN := fun σ H Nx => tk σ H fun y H4 => tv σ H4 fun z H5 => ∃ H6, DPut H5 D y z H6 ∧ Nx H6
theorem d_dictSetT {pins : List (Addr × Obj)} {σ : L2.St} {H H' : Hp} {s : Shared} {E : Value → Shared → Prop} {D : Addr} {y v : V} {u r : Value} {Q : Unit → Shared → Prop} (hu : X.A.units + 1 < cLine) (I : Inv X pins σ H s) (g : DPut H D y v H')
    (ry : RelV y u) (rv : RelV v r) (h : ∀ s', Inv X pins σ H' s' → Q () s') : wpAny (model X.prog X.w) X.A (dictSet D u r) Q E s := by
  rcases g with ⟨kvs, k, e, ey, l, eH⟩ | ⟨kvs, k, b, e, ey, eb, l, eH⟩
  · subst ey eH
    exact d_dictSet I e l ry rv h
  · subst ey eH
    cases (show u = Value.ref b from ry)
    obtain ⟨z, hd, xs, rel, dd⟩ := dt_of I.hok e
    have hz : xs.length ≤ sizeLine := by rw [← Paired.length rel]; exact z
    have hl : (putK kvs k v).length ≤ sizeLine := by have := length_putK kvs k v; omega
    refine wpAny_dictSet_heap (hsz := hz) (show X.A.units < cLine by omega) (key_of I.hok eb) dd fun h' dd' hs => h _ ?_
    obtain ⟨q, es, ep, hq, h2, h3, h4, _, h5⟩ := dd'
    refine d_write I (by rw [e]; exact True.intro) hs ⟨q, hq⟩ ⟨hl, hd, _, (rel.put k eb rv).keeps fun c ys ec => ?_, q, es, ep, hq, h2, h3, h4, h5⟩
    rw [upd_ne (ne_of ec e (fun z => nomatch z))]
    exact ec
theorem tail_emitD {kx vx : Expr} {tk tv : TE} {D : Addr} (hu : X.A.units + 1 < cLine) (hx : X.xe = fun _ _ => False) (hk : PE X kx tk) (hv : PE X vx tv) : PTail X (emitD kx vx D X.env) [] (uDct tk tv D) := by
  intro pins s σ H Nx I h
  have toF : ∀ {α : Type} {t : Sem α} {Q : α → Shared → Prop} {s : Shared}, wpAny (model X.prog X.w) X.A t Q X.xe s → wpAny (model X.prog X.w) X.A t Q (fun _ _ => False) s := fun h => by rw [hx] at h; exact h
  unfold emitD
  refine wpAny_bind (thnN (toF (hk.run pins s σ H _ I h)) fun z s1 ⟨yv, H1, I1, r1, h1⟩ => ?_)
  refine wpAny_bind (wpAny_holding (thnN (toF (hv.run pins s1 σ H1 _ I1 h1)) fun z2 s2 ⟨zv, H2, I2, r2, H3, g, nx⟩ => ?_))
  exact wpAny_bind (wpAny_standAt (wpAny_holding (d_dictSetT hu I2 g r1 r2 fun s' I' => ⟨_, I', nx⟩)))
end
end Q

set_option Elab.async false
set_option linter.all false
set_option maxRecDepth 100000
set_option maxHeartbeats 2000000
/-! Q7: targets, what is walked, comprehensions by values -/
namespace Q
open PySem L2 PySem.Spec PyProof.Rows

structure Wd.le0 (W W' : Wd) : Prop where
  f : ∀ a o, W.F a = some o → W'.F a = some o
  r : ∀ (n : Nat) a, W.rho[n]? = some a → W'.rho[n]? = some a
theorem Wd.le.to0 {W W' : Wd} (h : W.le W') : W.le0 W' := ⟨h.f, h.r⟩
theorem Wd.le0.trans {A B C : Wd} (h : A.le0 B) (k : B.le0 C) : A.le0 C := ⟨fun _ _ e => k.f _ _ (h.f _ _ e), fun _ _ e => k.r _ _ (h.r _ _ e)⟩
theorem Wd.le0_refl (W : Wd) : W.le0 W := W.le_refl.to0
theorem RepS.mono0 {C : QC} {W W' : Wd} (h : W.le0 W') : ∀ {s : S} {v : V}, RepS C W s v → RepS C W' s v
  | .p _, _, r => Rep.mono h.f r
  | .c _, _, ⟨a, e, q⟩ => ⟨a, h.r _ _ e, q⟩
theorem RepSs.mono0 {C : QC} {W W' : Wd} (h : W.le0 W') {ss : List S} {vs : List V} (r : RepSs C W ss vs) : RepSs C W' ss vs := Paired.mapP r fun _ _ q => q.mono0 h
theorem RelEnv.mono0 {C : QC} {W W' : Wd} {env : Env} {σ : L2.St} (h : W.le0 W') (r : RelEnv C W env σ) : RelEnv C W' env σ :=
  ⟨r.len, fun i s e => let ⟨x, a, b⟩ := r.at_ i s e; ⟨x, a, b.mono0 h⟩⟩
/-- what is being made at D is another thing now -/
def Wd.setG (W : Wd) (D : Addr) (o : Option HO) : Wd := ⟨W.F, W.rho, fun b => if b = D then o else W.G b⟩
theorem Wd.setG_same {W : Wd} {D : Addr} {o : Option HO} : (W.setG D o).G D = o := by simp [Wd.setG]
theorem Wd.setG_ne {W : Wd} {D b : Addr} {o : Option HO} (h : b ≠ D) : (W.setG D o).G b = W.G b := by simp [Wd.setG, h]
/-- all but what stands at D -/
def Wd.leD (D : Addr) (W W' : Wd) : Prop := W.le0 W' ∧ ∀ a o, a ≠ D → W.G a = some o → W'.G a = some o
theorem Wd.le.toD {W W' : Wd} (h : W.le W') (D : Addr) : Wd.leD D W W' := ⟨h.to0, fun a o _ e => h.g a o e⟩
theorem Wd.leD.trans {D : Addr} {A B C : Wd} (h : Wd.leD D A B) (k : Wd.leD D B C) : Wd.leD D A C := ⟨h.1.trans k.1, fun a o n e => k.2 a o n (h.2 a o n e)⟩
theorem Wd.leD_set {D : Addr} {W : Wd} {o : Option HO} : Wd.leD D W (W.setG D o) := ⟨⟨fun _ _ e => e, fun _ _ e => e⟩, fun a u n e => by rw [Wd.setG_ne n]; exact e⟩
section
variable {C : QC} {W : Wd} {st : Store} {H : Hp} {D : Addr}
theorem CellOk.other {a : Addr} {c : Cell} {o : HO} (h : CellOk C W H a c) (hne : a ≠ D) (u : Option HO) : CellOk C (W.setG D u) (upd H D o) a c := by
  have hh : ∀ q, H a = some q → upd H D o a = some q := fun q e => by rw [upd_ne hne]; exact e
  have mono : W.le0 (W.setG D u) := (Wd.leD_set (o := u)).1
  cases c with
  | lst xs => obtain ⟨n, vs, e, r⟩ := h; exact ⟨n, vs, hh _ e, r.mono0 mono⟩
  | dk kvs => obtain ⟨n, vs, e, r⟩ := h; exact ⟨n, vs, hh _ e, r.mono0 mono⟩
  | dt kvs => obtain ⟨n, vs, e, r⟩ := h; exact ⟨n, vs, hh _ e, r.mono0 mono⟩
  | obj c fs => obtain ⟨n, dx, vs, e, d, r⟩ := h; exact ⟨n, dx, vs, hh _ e, d, r.mono0 mono⟩
  | slt c fs => obtain ⟨n, dx, vs, e, d, r⟩ := h; exact ⟨n, dx, vs, hh _ e, d, r.mono0 mono⟩
  | dead => obtain ⟨q, e⟩ := h; exact ⟨q, hh _ e⟩
/-- the thing that is being made is written -/
theorem RelSt.setG {o o' : HO} (r : RelSt C W st H) (hD : W.G D = some o) : RelSt C (W.setG D (some o')) st (upd H D o') := by
  obtain ⟨hH, hF⟩ := r.gsub D o hD
  refine ⟨fun a u e => ?_, fun a u e => ?_, fun n a e => ?_, r.len, fun n c a e e' => ?_, r.dist⟩
  · have e : W.F a = some u := e
    have : a ≠ D := fun z => by rw [z, hF] at e; cases e
    rw [upd_ne this]; exact r.sub a u e
  · by_cases h : a = D
    · subst h
      rw [Wd.setG_same] at e; cases e
      exact ⟨upd_same, hF⟩
    · rw [Wd.setG_ne h] at e
      exact ⟨by rw [upd_ne h]; exact (r.gsub a u e).1, (r.gsub a u e).2⟩
  · have e : W.rho[n]? = some a := e
    have : a ≠ D := fun z => by have := r.grho n a e; rw [z, hD] at this; cases this
    rw [Wd.setG_ne this]; exact r.grho n a e
  · have e' : W.rho[n]? = some a := e'
    have : a ≠ D := fun z => by have := r.grho n a e'; rw [z, hD] at this; cases this
    exact (r.cell n c a e e').other this _
/-- a new thing to be made -/
theorem RelSt.newG {o : HO} (r : RelSt C W st H) (hD : H D = none) : W.le (W.setG D (some o)) ∧ RelSt C (W.setG D (some o)) st (upd H D o) := by
  have ng : W.G D = none := by
    cases z : W.G D with
    | none => rfl
    | some u => have := (r.gsub D u z).1; rw [hD] at this; cases this
  have nf : W.F D = none := by
    cases z : W.F D with
    | none => rfl
    | some u => have := r.sub D u z; rw [hD] at this; cases this
  refine ⟨⟨fun _ _ e => e, fun _ _ e => e, fun a u e => ?_⟩, fun a u e => ?_, fun a u e => ?_, fun n a e => ?_, r.len, fun n c a e e' => ?_, r.dist⟩
  · have : a ≠ D := fun z => by rw [z, ng] at e; cases e
    rw [Wd.setG_ne this]; exact e
  · have e : W.F a = some u := e
    have : a ≠ D := fun z => by rw [z, nf] at e; cases e
    rw [upd_ne this]; exact r.sub a u e
  · by_cases h : a = D
    · subst h
      rw [Wd.setG_same] at e; cases e
      exact ⟨upd_same, nf⟩
    · rw [Wd.setG_ne h] at e
      exact ⟨by rw [upd_ne h]; exact (r.gsub a u e).1, (r.gsub a u e).2⟩
  · have e : W.rho[n]? = some a := e
    have : a ≠ D := fun z => by obtain ⟨u, q⟩ := r.rhoTracked e; rw [z, hD] at q; cases q
    rw [Wd.setG_ne this]; exact r.grho n a e
  · have e' : W.rho[n]? = some a := e'
    have : a ≠ D := fun z => by obtain ⟨u, q⟩ := r.rhoTracked e'; rw [z, hD] at q; cases q
    exact (r.cell n c a e e').other this _
/-- the thing that is made is frozen -/
theorem RelSt.doneG {o : HO} (r : RelSt C W st H) (hD : W.G D = some o) : RelSt C ⟨upd W.F D o, W.rho, (W.setG D none).G⟩ st H := by
  obtain ⟨hH, hF⟩ := r.gsub D o hD
  refine ⟨fun a u e => ?_, fun a u e => ?_, fun n a e => ?_, r.len, fun n c a e e' => ?_, r.dist⟩
  · have e : upd W.F D o a = some u := e
    by_cases h : a = D
    · subst h; rw [upd_same] at e; cases e; exact hH
    · rw [upd_ne h] at e; exact r.sub a u e
  · have e : (W.setG D none).G a = some u := e
    by_cases h : a = D
    · subst h; rw [Wd.setG_same] at e; cases e
    · rw [Wd.setG_ne h] at e
      refine ⟨(r.gsub a u e).1, ?_⟩
      show upd W.F D o a = none
      rw [upd_ne h]; exact (r.gsub a u e).2
  · have e : W.rho[n]? = some a := e
    show (W.setG D none).G a = none
    by_cases h : a = D
    · subst h; exact Wd.setG_same
    · rw [Wd.setG_ne h]; exact r.grho n a e
  · have e' : W.rho[n]? = some a := e'
    have hne : a ≠ D := fun z => by have := r.grho n a e'; rw [z, hD] at this; cases this
    have mono : W.le0 ⟨upd W.F D o, W.rho, (W.setG D none).G⟩ := ⟨fun b u q => by
      have : b ≠ D := fun z => by rw [z, hF] at q; cases q
      show upd W.F D o b = some u
      rw [upd_ne this]; exact q, fun _ _ q => q⟩
    have hn : W.F a = none → upd W.F D o a = none := fun q => by rw [upd_ne hne]; exact q
    have h := r.cell n c a e e'
    cases c with
    | lst xs => obtain ⟨n, vs, e, r⟩ := h; exact ⟨hn n, vs, e, r.mono0 mono⟩
    | dk kvs => obtain ⟨n, vs, e, r⟩ := h; exact ⟨hn n, vs, e, r.mono0 mono⟩
    | dt kvs => obtain ⟨n, vs, e, r⟩ := h; exact ⟨hn n, vs, e, r.mono0 mono⟩
    | obj c fs => obtain ⟨n, dx, vs, e, d, r⟩ := h; exact ⟨hn n, dx, vs, e, mono.f _ _ d, r.mono0 mono⟩
    | slt c fs => obtain ⟨n, dx, vs, e, d, r⟩ := h; exact ⟨hn n, dx, vs, e, mono.f _ _ d, r.mono0 mono⟩
    | dead => exact h
end

/-! ### targets: a name, or names in a tuple -/
inductive Tg where
  | one (i : Nat) | many (is : List Nat) | lmany (is : List Nat)
def Tg.ixs : Tg → List Nat
  | .one i => [i]
  | .many is => is
  | .lmany is => is
def gNames : List Nat → TGs
  | [] => gNil
  | i :: r => gCons (gName i) (gNames r)
def Tg.g (K : PySem.W.Frag) : Tg → TG
  | .one i => gName i
  | .many is => gTup K is.length (gNames is)
  | .lmany is => gLst K is.length (gNames is)
def setMany : List Nat → List S → Env → Option Env
  | [], [], env => some env
  | i :: r, s :: t, env => if i < env.length then setMany r t (env.set i (some s)) else none
  | _, _, _ => none
/-- the items of a tuple -/
def tupOf : S → Option (List S)
  | .p (.tup l) => some (l.map S.p)
  | .p (.ktup l) => some (l.map S.p)
  | _ => none
/-- the items of a list -/
def lstOf : S → Option (List S)
  | .p (.lst l) => some (l.map S.p)
  | _ => none
def Tg.set (t : Tg) (s : S) (env : Env) : Option Env := match t with
  | .one i => if i < env.length then some (env.set i (some s)) else none
  | .many is => match tupOf s with
    | some us => setMany is us env
    | none => none
  | .lmany is => match lstOf s with
    | some us => setMany is us env
    | none => none
theorem wipe_set {σ : L2.St} {i : Nat} {v : V} : ∀ {V : List Nat}, i ∈ V → wipe (σ.set i (some v)) V = wipe σ V
  | [], h => by simp at h
  | j :: r, h => by
    unfold wipe
    by_cases hj : i ∈ r
    · rw [wipe_set hj]
    · have e : i = j := by
        rcases List.mem_cons.mp h with e | e
        · exact e
        · exact absurd e hj
      subst e
      have : ∀ (V : List Nat) (σ : L2.St), i ∉ V → wipe (σ.set i (some v)) V = (wipe σ V).set i (some v) := by
        intro V
        induction V with
        | nil => intro σ _; rfl
        | cons k V ih =>
          intro σ hk
          have h1 : i ≠ k := fun z => hk (by rw [z]; exact List.mem_cons_self)
          unfold wipe
          rw [ih σ fun z => hk (List.mem_cons_of_mem _ z), List.set_comm _ _ h1]
      rw [this r σ hj, List.set_set]
section
variable {C : QC} {W : Wd} {st : Store} {H : Hp}
theorem RelEnv.set {env : Env} {σ : L2.St} (n : RelEnv C W env σ) {i : Nat} {s : S} {x : V} (rx : RepS C W s x) : RelEnv C W (env.set i (some s)) (σ.set i (some x)) := by
  refine ⟨by simp [n.len], fun j u e => ?_⟩
  by_cases h : j = i
  · subst h
    by_cases hl : j < env.length
    · rw [List.getElem?_set_self hl] at e; cases e
      exact ⟨x, List.getElem?_set_self (by rw [← n.len]; exact hl), rx⟩
    · rw [List.getElem?_eq_none (by simpa using hl)] at e; cases e
  · rw [List.getElem?_set_ne (Ne.symm h)] at e
    obtain ⟨y, a, b⟩ := n.at_ j u e
    exact ⟨y, by rw [List.getElem?_set_ne (Ne.symm h)]; exact a, b⟩
theorem setMany_ok : ∀ {is : List Nat} {us : List S} {xs : List V} {env env' : Env} {σ : L2.St}, setMany is us env = some env' → RelEnv C W env σ → RepSs C W us xs →
    ∃ σ', RelEnv C W env' σ' ∧ (∀ V : List Nat, (∀ i ∈ is, i ∈ V) → wipe σ' V = wipe σ V) ∧ xs.length = is.length ∧ ∀ (Q : L2.St → Hp → Prop), Q σ' H → gNames is xs σ H Q
  | [], [], _, env, env', σ, h, n, .nil => by
    simp [setMany] at h; subst h
    exact ⟨σ, n, fun _ _ => rfl, rfl, fun Q q => ⟨rfl, q⟩⟩
  | i :: r, s :: t, _, env, env', σ, h, n, .cons rx rt => by
    unfold setMany at h
    split at h
    · obtain ⟨σ', n', hw, hl, hq⟩ := setMany_ok h (n.set rx) rt
      refine ⟨σ', n', fun V hV => ?_, by simp [hl], fun Q q => ⟨_, _, rfl, hq Q q⟩⟩
      rw [hw V fun j hj => hV j (List.mem_cons_of_mem _ hj)]
      exact wipe_set (hV i List.mem_cons_self)
    · cases h
  | [], _ :: _, _, _, _, _, h, _, _ => by simp [setMany] at h
  | _ :: _, [], _, _, _, _, h, _, _ => by simp [setMany] at h
theorem tupOf_ok (r : RelSt C W st H) {s : S} {x : V} {us : List S} (rx : RepS C W s x) (e : tupOf s = some us) : ∃ a xs, x = .ref a ∧ SqT C.K H a xs ∧ RepSs C W us xs := by
  cases s with
  | c n => simp [tupOf] at e
  | p q =>
    cases q <;> simp [tupOf] at e
    · subst e
      cases rx with
      | tup q rr => exact ⟨_, _, rfl, SqT.of (r.sub _ _ q), RepSs.of rr⟩
    · subst e
      cases rx with
      | ktup q rr => exact ⟨_, _, rfl, sqT_le r.sub q, RepSs.of rr⟩
theorem lstOf_ok (r : RelSt C W st H) {s : S} {x : V} {us : List S} (rx : RepS C W s x) (e : lstOf s = some us) : ∃ a xs, x = .ref a ∧ SqL C.K H a xs ∧ RepSs C W us xs := by
  cases s with
  | c n => simp [lstOf] at e
  | p q =>
    cases q <;> simp [lstOf] at e
    subst e
    cases rx with
    | lst q rr => exact ⟨_, _, rfl, SqL.of (r.sub _ _ q), RepSs.of rr⟩
theorem Tg.ok {t : Tg} (r : RelSt C W st H) {s : S} {x : V} {env env' : Env} {σ : L2.St} (h : t.set s env = some env') (n : RelEnv C W env σ) (rx : RepS C W s x) :
    ∃ σ', RelEnv C W env' σ' ∧ (∀ V : List Nat, (∀ i ∈ t.ixs, i ∈ V) → wipe σ' V = wipe σ V) ∧ ∀ (Q : L2.St → Hp → Prop), Q σ' H → t.g C.K x σ H Q := by
  cases t with
  | one i =>
    unfold Tg.set at h
    simp only at h
    split at h
    · cases h
      exact ⟨_, n.set rx, fun V hV => wipe_set (hV i (by simp [Tg.ixs])), fun Q q => q⟩
    · cases h
  | many is =>
    unfold Tg.set at h
    simp only at h
    cases e : tupOf s with
    | none => rw [e] at h; cases h
    | some us =>
      rw [e] at h
      obtain ⟨a, xs, ex, hq, rr⟩ := tupOf_ok r rx e
      obtain ⟨σ', n', hw, hl, hg⟩ := setMany_ok (H := H) h n rr
      exact ⟨σ', n', hw, fun Q q => ⟨a, xs, ex, hq, hl, hg Q q⟩⟩
  | lmany is =>
    unfold Tg.set at h
    simp only at h
    cases e : lstOf s with
    | none => rw [e] at h; cases h
    | some us =>
      rw [e] at h
      obtain ⟨a, xs, ex, hq, rr⟩ := lstOf_ok r rx e
      obtain ⟨σ', n', hw, hl, hg⟩ := setMany_ok (H := H) h n rr
      exact ⟨σ', n', hw, fun Q q => ⟨a, xs, ex, hq, hl, hg Q q⟩⟩
end

/-! ### what is walked -/
abbrev XI := Env → Store → R (List S)
def ItOk (C : QC) (W : Wd) (items : List S) (J : It) : Prop :=
  ∀ (W2 : Wd) (st2 : Store) (H2 : Hp), W.le0 W2 → RelSt C W2 st2 H2 → ∀ i : Nat,
    (i < items.length → J.go i H2 ∧ ∀ x H3, J.yld i H2 x H3 → ∃ W3, W2.le W3 ∧ RelSt C W3 st2 H3 ∧ ∃ s, items[i]? = some s ∧ RepS C W3 s x) ∧ (items.length ≤ i → J.stop i H2)
def TIq (C : QC) (E : XK) (f : XI) : TI := fun σ H R => ∃ W env st, RelSt C W st H ∧ RelEnv C W env σ ∧ Aft C E W (f env st) fun W' items _ H' => ∀ J, ItOk C W' items J → R J H'
abbrev QI (X : Cx) (C : QC) (E : XK) (tg iter : Expr) (f : XI) : Prop := PI X tg iter (TIq C E f)
theorem _root_.L2.PI.imp {X : Cx} {tg iter : Expr} {t u : TI} (h : PI X tg iter t) (i : ∀ σ H R, u σ H R → t σ H R) : PI X tg iter u := ⟨fun pins s σ H R I q => h.run pins s σ H R I (i σ H R q)⟩
theorem _root_.L2.PTs.imp {X : Cx} {ifs : List Expr} {t u : TT} (h : PTs X ifs t) (i : ∀ σ H Q, u σ H Q → t σ H Q) : PTs X ifs u := ⟨fun pins s σ H Q I q => h.run pins s σ H Q I (i σ H Q q)⟩
/-- a frozen sequence -/
def frozen : S → Option (List S)
  | .p (.tup l) => some (l.map S.p)
  | .p (.ktup l) => some (l.map S.p)
  | .p (.lst l) => some (l.map S.p)
  | .p (.scr ns) => some (ns.map fun n => S.p (.int n))
  | _ => none
def iSeq (a : XE) : XI := fun env st => (a env st).bind fun u st => match frozen u with
  | some us => .ok us st
  | none => .stuck
section
variable {X : Cx} {C : QC} {E : XK} {W : Wd} {st : Store} {H : Hp} {tg e a b : Expr} {fa fb : XE} {p pos : Pos}
theorem frozen_ok {s : S} {x : V} {us : List S} (rx : RepS C W s x) (e : frozen s = some us) : ∃ a xs, x = .ref a ∧ (SqL C.K W.F a xs ∨ SqT C.K W.F a xs) ∧ RepSs C W us xs := by
  cases s with
  | c n => simp [frozen] at e
  | p q =>
    cases q <;> simp [frozen] at e
    · subst e
      cases rx with
      | tup q rr => exact ⟨_, _, rfl, .inr (SqT.of q), RepSs.of rr⟩
    · subst e
      cases rx with
      | lst q rr => exact ⟨_, _, rfl, .inl (SqL.of q), RepSs.of rr⟩
    · subst e
      cases rx with
      | scr q => exact ⟨_, _, rfl, .inl q, rep_ints _⟩
    · subst e
      cases rx with
      | ktup q rr => exact ⟨_, _, rfl, .inr q, RepSs.of rr⟩
theorem itOk_list {a : Addr} {xs : List V} {us : List S} (hq : SqL C.K W.F a xs) (rr : RepSs C W us xs) : ItOk C W us (Itl C.K a) := by
  intro W2 st2 H2 le r2 i
  have hq2 : SqL C.K H2 a xs := sqL_le r2.sub (sqL_le le.f hq)
  refine ⟨fun hi => ?_, fun hi => ⟨xs, hq2, by rw [← rr.length]; exact hi⟩⟩
  obtain ⟨v, ev, rv⟩ := rr.get (List.getElem?_eq_getElem hi)
  refine ⟨⟨xs, v, hq2, ev⟩, fun x H3 ⟨e3, ex⟩ => ⟨W2, W2.le_refl, by rw [e3]; exact r2, us[i], List.getElem?_eq_getElem hi, ?_⟩⟩
  have := ex xs hq2
  rw [ev] at this; cases this
  exact rv.mono0 le
theorem itOk_tup {a : Addr} {xs : List V} {us : List S} (hq : SqT C.K W.F a xs) (rr : RepSs C W us xs) : ItOk C W us (Itt C.K a) := by
  intro W2 st2 H2 le r2 i
  have hq2 : SqT C.K H2 a xs := sqT_le r2.sub (sqT_le le.f hq)
  refine ⟨fun hi => ?_, fun hi => ⟨xs, hq2, by rw [← rr.length]; exact hi⟩⟩
  obtain ⟨v, ev, rv⟩ := rr.get (List.getElem?_eq_getElem hi)
  refine ⟨⟨xs, v, hq2, ev⟩, fun x H3 ⟨e3, ex⟩ => ⟨W2, W2.le_refl, by rw [e3]; exact r2, us[i], List.getElem?_eq_getElem hi, ?_⟩⟩
  have := ex xs hq2
  rw [ev] at this; cases this
  exact rv.mono0 le
/-- a list or a tuple -/
theorem pi_seq {l : Expr} {tl : TE} (hl : PE X l tl) : PI X tg l (fun σ H R => tl σ H fun x H1 => ∃ a xs, x = .ref a ∧ ((SqL X.K H1 a xs ∧ R (Itl X.K a) H1) ∨ (SqT X.K H1 a xs ∧ R (Itt X.K a) H1))) := by
  refine ⟨fun pins s σ H R I h => ?_⟩
  refine thn (hl.run pins s σ H _ I h) fun v s1 ⟨x, H1, I1, r1, q1⟩ => ?_
  obtain ⟨a, xs, e, ⟨hq, q⟩ | ⟨hq, q⟩⟩ := q1
  · subst e
    cases r1
    obtain ⟨its, rv, p, hz⟩ := I1.list hq
    refine wpAny_pyIter_list p.isList ?_
    refine ⟨s1.heap.objs.size, [s1.heap.objs.size], _, _, H1, rfl, I1.kept (t' := s1.toks) fun b o e => Heap.get?_push_of_some _ e, turn_list a _, ⟨_, Heap.get?_push_size _ rfl, rfl, rfl⟩, fun b hb => ?_, q⟩
    have e : b = s1.heap.objs.size := by simpa using hb
    subst e
    exact I1.fpOk (Nat.le_refl _) (I1.hok.fresh (Nat.le_refl _))
  · subst e
    cases r1
    obtain ⟨its, rv, p, hz⟩ := I1.tuple hq
    refine wpAny_pyIter_tuple (show s1.heap.IsTuple a its.toArray from p) ?_
    refine ⟨s1.heap.objs.size, [s1.heap.objs.size], _, _, H1, rfl, I1.kept (t' := s1.toks) fun b o e => Heap.get?_push_of_some _ e, turn_tuple a _, ⟨_, Heap.get?_push_size _ rfl, rfl, rfl⟩, fun b hb => ?_, q⟩
    have e : b = s1.heap.objs.size := by simpa using hb
    subst e
    exact I1.fpOk (Nat.le_refl _) (I1.hok.fresh (Nat.le_refl _))
theorem qi_seq (ok : Ok X C) (h : QE X C E e fa) : QI X C E tg e (iSeq fa) := by
  refine (pi_seq h).imp fun σ H R hR => ?_
  obtain ⟨W, env, st, rs, n, h⟩ := hR
  refine T.of rs n h fun W1 u st1 H1 x _ r1 n1 rx h1 => ?_
  cases eu : frozen u with
  | none => rw [eu] at h1; exact h1.elim
  | some us =>
    simp only [eu] at h1
    obtain ⟨a, xs, ex, hq, rr⟩ := frozen_ok rx eu
    have k := h1 W1 H1 W1.le_refl r1
    rw [← ok.hC]
    rcases hq with hq | hq
    · exact ⟨a, xs, ex, .inl ⟨sqL_le r1.sub hq, k _ (itOk_list hq rr)⟩⟩
    · exact ⟨a, xs, ex, .inr ⟨sqT_le r1.sub hq, k _ (itOk_tup hq rr)⟩⟩
/-- range -/
def rangeS (lo : Int) (n : Nat) : List S := (List.range n).map fun (k : Nat) => S.p (.int (lo + ((k : Nat) : Int)))
def inWord (i : Int) : Bool := decide (-(2 ^ 62) ≤ i ∧ i < 2 ^ 62)
def iRange1 (a : XE) : XI := fun env st => (a env st).bind fun u st => match u with
  | .p (.int j) => if inWord j = true then .ok (rangeS 0 j.toNat) st else .stuck
  | _ => .stuck
def iRange2 (a b : XE) : XI := fun env st => (a env st).bind fun u st => (b env st).bind fun v st => match u, v with
  | .p (.int i), .p (.int j) => if (inWord i && inWord j) = true then .ok (rangeS i (j - i).toNat) st else .stuck
  | _, _ => .stuck
theorem itOk_range {lo : Int} {n : Nat} : ItOk C W (rangeS lo n) (Itr lo n) := by
  intro W2 st2 H2 le r2 i
  have hl : (rangeS lo n).length = n := by simp [rangeS]
  rw [hl]
  refine ⟨fun hi => ⟨hi, fun x H3 ⟨e3, ex⟩ => ⟨W2, W2.le_refl, by rw [e3]; exact r2, .p (.int (lo + (i : Int))), by simp [rangeS, hi], ?_⟩⟩, fun hi => hi⟩
  rw [ex]
  exact .int _
theorem qi_range1 (hg : Gl X "range") (hm : X.mg "range" = none) (ha : QE X C E a fa) (hs1 : starEach [a] X.env = (false, eval a X.env) :: starEach [] X.env := by rfl) (hs : starEach [a] X.env = [(false, eval a X.env)] := by rfl) : QI X C E tg (.Call (.Name "range" p) [a] [] pos) (iRange1 fa) := by
  refine (pi_range1 hg hm (pa_cons ha pa_nil hs1) hs).imp fun σ H R hR => ?_
  obtain ⟨W, env, st, rs, n, h⟩ := hR
  refine T.of rs n h fun W1 u st1 H1 x _ r1 n1 rx h1 => ?_
  split at h1
  · rename_i j
    cases rx
    split at h1
    · rename_i hw
      obtain ⟨w1, w2⟩ := of_decide_eq_true hw
      exact ⟨j, rfl, w1, w2, h1 W1 H1 W1.le_refl r1 _ itOk_range⟩
    · exact h1.elim
  · exact h1.elim
theorem qi_range2 (hg : Gl X "range") (hm : X.mg "range" = none) (ha : QE X C E a fa) (hb : QE X C E b fb) (hs1 : starEach [a, b] X.env = (false, eval a X.env) :: starEach [b] X.env := by rfl) (hs2 : starEach [b] X.env = (false, eval b X.env) :: starEach [] X.env := by rfl)
    (hs : starEach [a, b] X.env = [(false, eval a X.env), (false, eval b X.env)] := by rfl) (hs3 : starEach [b] X.env = [(false, eval b X.env)] := by rfl) : QI X C E tg (.Call (.Name "range" p) [a, b] [] pos) (iRange2 fa fb) := by
  refine (pi_range2 hg hm (pa_cons ha (pa_cons hb pa_nil hs2) hs1) hs hs3).imp fun σ H R hR => ?_
  obtain ⟨W, env, st, rs, n, h⟩ := hR
  refine T.of rs n h fun W1 u st1 H1 x _ r1 n1 rx h1 => T.of r1 n1 h1 fun W2 v st2 H2 y le2 r2 n2 ry h2 => ?_
  split at h2
  · rename_i i j
    cases rx; cases ry
    split at h2
    · rename_i hw
      rw [Bool.and_eq_true] at hw
      obtain ⟨w1, w2⟩ := of_decide_eq_true hw.1
      obtain ⟨w3, w4⟩ := of_decide_eq_true hw.2
      exact ⟨i, j, rfl, ⟨w1, w2, w3, w4⟩, h2 W2 H2 W2.le_refl r2 _ itOk_range⟩
    · exact h2.elim
  · exact h2.elim
/-! tests of a clause -/
abbrev QTs (X : Cx) (C : QC) (E : XK) (ifs : List Expr) (f : XT) : Prop := PTs X ifs (TTs C E f)
def tYesQ : XT := fun _ st => .ok true st
theorem qts_nil : QTs X C E [] tYesQ := pts_nil.imp fun σ H Q ⟨W, env, st, r, n, h⟩ => h W H W.le_refl r
theorem qts_one (h : QB X C E e fa) : QTs X C E [e] (tOf fa) := pts_one h
end
end Q

set_option Elab.async false
set_option linter.all false
set_option maxRecDepth 100000
set_option maxHeartbeats 2000000
/-! Q8: comprehensions by values -/
namespace Q
open PySem L2 PySem.Spec PyProof.Rows

abbrev XN (α : Type) := Env → Store → Option (List α × Store)
def wipeE (env : Env) : List Nat → Env
  | [] => env
  | v :: vs => (wipeE env vs).set v none
theorem RelEnv.wipe {C : QC} {W : Wd} {env : Env} {σ : L2.St} (n : RelEnv C W env σ) : ∀ V : List Nat, RelEnv C W (wipeE env V) (wipe σ V)
  | [] => n
  | v :: vs => by
    have ih := RelEnv.wipe n vs
    refine ⟨by unfold wipeE L2.wipe; simp [ih.len], fun j s e => ?_⟩
    unfold wipeE at e
    unfold L2.wipe
    by_cases h : v = j
    · subst h
      by_cases hl : v < (wipeE env vs).length
      · rw [List.getElem?_set_self hl] at e; cases e
      · rw [List.getElem?_eq_none (by simpa using hl)] at e; cases e
    · rw [List.getElem?_set_ne h] at e
      obtain ⟨x, a, b⟩ := ih.at_ j s e
      exact ⟨x, by rw [List.getElem?_set_ne h]; exact a, b⟩
/-- a clause's loop -/
def clLoop {α : Type} (t : Tg) (ft : XT) (inner : XN α) (env : Env) : List S → Store → Option (List α × Store)
  | [], st => some ([], st)
  | s :: r, st => match t.set s env with
    | none => none
    | some env1 => match ft env1 st with
      | .ok true st => match inner env1 st with
        | some (ys, st) => match clLoop t ft inner env r st with
          | some (zs, st) => some (ys ++ zs, st)
          | none => none
        | none => none
      | .ok false st => clLoop t ft inner env r st
      | _ => none
def nCl {α : Type} (fi : XI) (t : Tg) (V : List Nat) (ft : XT) (inner : XN α) : XN α := fun env st => match fi env st with
  | .ok items st => clLoop t ft inner (wipeE env V) items st
  | _ => none
/-- what is made, by what is put into it -/
structure AccK (α β : Type) where
  ho : β → HO
  size : β → Nat
  rel : QC → Wd → β → List α → β → Prop
  nil : ∀ C W b, rel C W b [] b
  app : ∀ C W a xs b ys c, rel C W a xs b → rel C W b ys c → rel C W a (xs ++ ys) c
  mono : ∀ C W W' a xs b, W.le0 W' → rel C W a xs b → rel C W' a xs b
  sz : ∀ C W a xs b, rel C W a xs b → size b ≤ size a + xs.length
abbrev E0 : XK := fun _ _ _ => False
def TNA {α β : Type} (C : QC) (A : AccK α β) (D : Addr) (f : XN α) : TN := fun σ H Nx => ∃ W env st ys st' b, RelSt C W st H ∧ RelEnv C W env σ ∧ W.G D = some (A.ho b) ∧ f env st = some (ys, st') ∧ A.size b + ys.length ≤ sizeLine ∧
  ∀ W' H' b', Wd.leD D W W' → RelSt C W' st' H' → W'.G D = some (A.ho b') → A.rel C W' b ys b' → Nx H'
section
variable {X : Cx} {C : QC} {α β : Type} {A : AccK α β} {D : Addr}
theorem cl_run {t : Tg} {ft : XT} {inner : XN α} {env : Env} {σ : L2.St} {V : List Nat} {W0 : Wd} {st1 st' : Store} {H1 : Hp} {items : List S} {J : It} {b : β} {ys : List α} {Nx : Hp → Prop}
    (hV : ∀ i ∈ t.ixs, i ∈ V) (r1 : RelSt C W0 st1 H1) (n : RelEnv C W0 env (L2.wipe σ V)) (hJ : ItOk C W0 items J) (hG : W0.G D = some (A.ho b)) (hl : clLoop t ft inner env items st1 = some (ys, st')) (hb : A.size b + ys.length ≤ sizeLine)
    (hN : ∀ W' H' b', Wd.leD D W0 W' → RelSt C W' st' H' → W'.G D = some (A.ho b') → A.rel C W' b ys b' → Nx H') :
    ∃ Wi : Nat → Nat → Hp → Prop, (∃ m, Wi 0 m H1) ∧ ∀ i m H, Wi i m H → (J.stop i H ∧ Nx H) ∨ (J.go i H ∧ ∃ N : Hp → Prop, (∀ H', N H' → ∃ m', m' < m ∧ Wi (i + 1) m' H') ∧ ∀ x H', J.yld i H x H' → t.g C.K x (L2.wipe σ V) H' fun σ2 H2 =>
      L2.wipe σ2 V = L2.wipe σ V ∧ TTs C E0 ft σ2 H2 fun c H3 => if c = true then TNA C A D inner σ2 H3 N else N H3) := by
  refine ⟨fun i m H => ∃ Wz st2 b2 ys0 ysr, RelSt C Wz st2 H ∧ Wd.leD D W0 Wz ∧ Wz.G D = some (A.ho b2) ∧ m = items.length - i ∧ i ≤ items.length ∧ A.rel C Wz b ys0 b2 ∧ clLoop t ft inner env (items.drop i) st2 = some (ysr, st') ∧ ys = ys0 ++ ysr,
    ⟨_, W0, st1, b, [], ys, r1, W0.le_refl.toD D, hG, rfl, Nat.zero_le _, A.nil C W0 b, by simpa using hl, rfl⟩, ?_⟩
  rintro i m H ⟨Wz, st2, b2, ys0, ysr, r2, le, g2, rfl, hi, rel, hloop, hys⟩
  have hJ2 := hJ Wz st2 H le.1 r2 i
  by_cases hlt : i < items.length
  · obtain ⟨go, yld⟩ := hJ2.1 hlt
    -- the next states
    refine .inr ⟨go, fun H' => ∃ Wy st2' b2' ys0' ysr', RelSt C Wy st2' H' ∧ Wd.leD D W0 Wy ∧ Wy.G D = some (A.ho b2') ∧ A.rel C Wy b ys0' b2' ∧ clLoop t ft inner env (items.drop (i + 1)) st2' = some (ysr', st') ∧ ys = ys0' ++ ysr', ?_, ?_⟩
    · rintro H' ⟨Wy, st2', b2', ys0', ysr', q1, q2, q3, q4, q5, q6⟩
      exact ⟨items.length - (i + 1), by omega, Wy, st2', b2', ys0', ysr', q1, q2, q3, rfl, hlt, q4, q5, q6⟩
    · intro x H' y
      obtain ⟨W3, le3, r3, s, es, rs⟩ := yld x H' y
      have hd : items.drop i = s :: items.drop (i + 1) := by
        rw [List.drop_eq_getElem_cons hlt]
        have := (List.getElem?_eq_some_iff.mp es).2
        rw [this]
      rw [hd] at hloop
      unfold clLoop at hloop
      cases et : t.set s env with
      | none => rw [et] at hloop; cases hloop
      | some env1 =>
        simp only [et] at hloop
        have n3 : RelEnv C W3 env (L2.wipe σ V) := n.mono0 (le.1.trans le3.to0)
        obtain ⟨σ2, n4, hw, hq⟩ := Tg.ok r3 et n3 rs
        have hw2 : L2.wipe σ2 V = L2.wipe (L2.wipe σ V) V := hw V hV
        have idem : ∀ (U : List Nat) (τ : L2.St), (∀ i ∈ U, ∀ v, τ[i]? ≠ some (some v)) → L2.wipe τ U = τ := by
          intro U
          induction U with
          | nil => intro τ _; rfl
          | cons u U ih =>
            intro τ h
            unfold L2.wipe
            rw [ih τ fun i hi => h i (List.mem_cons_of_mem _ hi)]
            refine List.ext_getElem? fun j => ?_
            by_cases hj : u = j
            · subst hj
              by_cases hl : u < τ.length
              · rw [List.getElem?_set_self hl]
                have := h u List.mem_cons_self
                cases e : τ[u]? with
                | none => rw [List.getElem?_eq_none_iff] at e; omega
                | some o =>
                  cases o with
                  | none => rfl
                  | some v => exact absurd e (this v)
              · rw [List.getElem?_eq_none (by simpa using hl), List.getElem?_eq_none (by simpa using hl)]
            · rw [List.getElem?_set_ne hj]
        have hw3 : L2.wipe (L2.wipe σ V) V = L2.wipe σ V := idem V _ fun i hi v e => (wipe_some e).2 hi
        refine hq _ ⟨hw2.trans hw3, ?_⟩
        have leW : Wd.leD D W0 W3 := le.trans (le3.toD D)
        have g3 : W3.G D = some (A.ho b2) := le3.g _ _ g2
        refine ⟨W3, env1, st2, r3, n4, ?_⟩
        cases ef : ft env1 st2 with
        | stuck => rw [ef] at hloop; cases hloop
        | exc c fs st4 => rw [ef] at hloop; cases hloop
        | ok c st4 =>
          rw [ef] at hloop
          intro W4 H4 le4 r4
          have leW4 : Wd.leD D W0 W4 := leW.trans (le4.toD D)
          have g4 : W4.G D = some (A.ho b2) := le4.g _ _ g3
          have rel4 : A.rel C W4 b ys0 b2 := A.mono _ _ _ _ _ _ (le3.to0.trans le4.to0) rel
          cases c with
          | false =>
            simp only at hloop
            simp only [Bool.false_eq_true, if_false]
            exact ⟨W4, st4, b2, ys0, ysr, r4, leW4, g4, rel4, hloop, hys⟩
          | true =>
            simp only at hloop
            simp only [if_true]
            cases ei : inner env1 st4 with
            | none => rw [ei] at hloop; cases hloop
            | some p =>
              obtain ⟨ys1, st5⟩ := p
              simp only [ei] at hloop
              cases er : clLoop t ft inner env (items.drop (i + 1)) st5 with
              | none => rw [er] at hloop; cases hloop
              | some p =>
                obtain ⟨zs, st6⟩ := p
                simp only [er, Option.some.injEq, Prod.mk.injEq] at hloop
                obtain ⟨e1, e2⟩ := hloop
                subst e1 e2
                have hsz := A.sz _ _ _ _ _ rel4
                have hlen : ys.length = ys0.length + (ys1.length + zs.length) := by rw [hys]; simp
                refine ⟨W4, env1, st4, ys1, st5, b2, r4, n4.mono le4, g4, ei, by omega, fun W' H' b' leD r' g' rel' => ?_⟩
                refine ⟨W', st5, b', ys0 ++ ys1, zs, r', leW4.trans leD, g', A.app _ _ _ _ _ _ _ (A.mono _ _ _ _ _ _ leD.1 rel4) rel', er, ?_⟩
                rw [hys, List.append_assoc]
  · have e : i = items.length := by omega
    subst e
    refine .inl ⟨hJ2.2 (Nat.le_refl _), ?_⟩
    have hloop : clLoop t ft inner env (items.drop items.length) st2 = some (ysr, st') := hloop
    rw [List.drop_length] at hloop
    simp only [clLoop, Option.some.injEq, Prod.mk.injEq] at hloop
    obtain ⟨e1, e2⟩ := hloop
    subst e1 e2
    rw [List.append_nil] at hys
    subst hys
    exact hN Wz H b2 le r2 g2 rel
theorem PTail.imp {tail : Sem Unit} {V : List Nat} {u u' : TN} (h : PTail X tail V u) (i : ∀ σ H Nx, u' σ H Nx → u σ H Nx) : PTail X tail V u' := fun pins s σ H Nx I q => h pins s σ H Nx I (i σ H Nx q)
/-- a further clause -/
theorem qn_clause {tg iter e : Expr} {ifs : List Expr} {d : Nat} {acc : Value} {tail : Sem Unit} {fi : XI} {t : Tg} {ft : XT} {V Vr : List Nat} {inner : XN α} (ok : Ok X C) (hx : X.xe = fun _ _ => False) (ce : CompE X.prog X.w X.A e d acc X.env)
    (hT : ∀ it, compTurn e d it acc X.env = turnG tg iter ifs it tail e d acc X.env) (hcl : (clausesOf e)[d]? = some ⟨tg, iter, ifs, 0⟩) (hs : ∀ x, foldedSetIterable iter X.env x = pure x)
    (hi : QI X C E0 tg iter fi) (hg : PG X tg (t.g X.K)) (ht : QTs X C E0 ifs ft) (hu : PTail X tail Vr (TNA C A D inner)) (hV : ∀ i ∈ Vr, i ∈ V) (hVt : ∀ i ∈ t.ixs, i ∈ V) : PTail X (tailC iter e d acc X.env) V (TNA C A D (nCl fi t V ft inner)) := by
  refine PTail.imp (tail_clause ok.calm hx ce hT hcl hs hi hg ht hu hV) fun σ H Nx h => ?_
  obtain ⟨W, env, st, ys, st', b, r, n, g, hf, hb, hN⟩ := h
  unfold nCl at hf
  refine ⟨W, env, st, r, n, ?_⟩
  cases ei : fi env st with
  | stuck => rw [ei] at hf; cases hf
  | exc c fs st4 => rw [ei] at hf; cases hf
  | ok items st1 =>
    simp only [ei] at hf
    intro W1 H1 le1 r1 J hJ
    have k := cl_run (A := A) (D := D) (C := C) (Nx := Nx) hVt r1 ((n.mono le1).wipe V) hJ (le1.g _ _ g) hf hb fun W' H' b' leD r' g' rel' => hN W' H' b' ((le1.toD D).trans leD) r' g' rel'
    rw [ok.hC] at k
    exact k
end
/-! ### lists -/
def accL : AccK S (List V) where
  ho := .lst
  size := List.length
  rel := fun C W a ys b => ∃ zs, b = a ++ zs ∧ RepSs C W ys zs
  nil := fun C W b => ⟨[], by simp, .nil⟩
  app := fun C W a xs b ys c ⟨z1, e1, r1⟩ ⟨z2, e2, r2⟩ => ⟨z1 ++ z2, by rw [e2, e1, List.append_assoc], RepSs.append r1 r2⟩
  mono := fun C W W' a xs b le ⟨z, e, r⟩ => ⟨z, e, r.mono0 le⟩
  sz := fun C W a xs b ⟨z, e, r⟩ => by rw [e, List.length_append, r.length]; exact Nat.le_refl _
def nEmit (fe : XE) : XN S := fun env st => match fe env st with
  | .ok y st => some ([y], st)
  | _ => none
section
variable {X : Cx} {C : QC} {E : XK} {D : Addr}
theorem qn_emit {elt : Expr} {fe : XE} (hx : X.xe = fun _ _ => False) (he : QE X C E0 elt fe) : PTail X (emitL elt D X.env) [] (TNA C accL D (nEmit fe)) := by
  refine PTail.imp (tail_emitL hx he) fun σ H Nx h => ?_
  obtain ⟨W, env, st, ys, st', b, r, n, g, hf, hb, hN⟩ := h
  unfold nEmit at hf
  refine ⟨W, env, st, r, n, ?_⟩
  cases ei : fe env st with
  | stuck => rw [ei] at hf; cases hf
  | exc c fs st4 => rw [ei] at hf; cases hf
  | ok y st1 =>
    simp only [ei, Option.some.injEq, Prod.mk.injEq] at hf
    obtain ⟨e1, e2⟩ := hf
    subst e1 e2
    intro W1 H1 le1 r1 yv ry
    have g1 := le1.g _ _ g
    have hb' : b.length + 1 ≤ sizeLine := hb
    refine ⟨b, (r1.gsub _ _ g1).1, by omega, ?_⟩
    exact hN (W1.setG D (some (.lst (b ++ [yv])))) _ _ ((le1.toD D).trans Wd.leD_set) (r1.setG g1) Wd.setG_same ⟨[yv], rfl, .cons (ry.mono0 (Wd.leD_set (D := D) (o := some (.lst (b ++ [yv])))).1) .nil⟩
/-- a list comprehension's value, frozen -/
def fzL (ys : List S) (st : Store) : R S := match pureSs ys with
  | some ps => if decide (ps.length ≤ 16777216) = true then .ok (.p (.lst ps)) st else .stuck
  | none => .stuck
/-- .. as a cell -/
def clL (ys : List S) (st : Store) : R S := if decide (ys.length ≤ 16777216) = true then .ok (.c st.length) (st ++ [.lst ys]) else .stuck
def eComp {α : Type} (fin : List α → Store → R S) (fi : XI) (t : Tg) (V : List Nat) (ft : XT) (inner : XN α) : XE := fun env st => (fi env st).bind fun items st => match clLoop t ft inner (wipeE env V) items st with
  | some (ys, st) => fin ys st
  | none => .stuck
/-- what the end of a list comprehension must do -/
def FinL {α β : Type} (C : QC) (E : XK) (A : AccK α β) (b0 : β) (fin : List α → Store → R S) : Prop :=
  ∀ (W1 W2 : Wd) (ys : List α) (st : Store) (H : Hp) (D : Addr) (b : β) (Q : VK), W1.le0 W2 → (∀ a o, a ≠ D → W1.G a = some o → W2.G a = some o) → W1.G D = none → RelSt C W2 st H → W2.G D = some (A.ho b) → A.rel C W2 b0 ys b →
    Aft C E W1 (fin ys st) (fun W' v _ H' => ∀ x, RepS C W' v x → Q x H') → Q (.ref D) H
theorem finL_fz : FinL C E accL [] fzL := by
  intro W1 W2 ys st H D b Q le hG hn r g rel h
  obtain ⟨zs, e, rz⟩ := rel
  simp only [List.nil_append] at e
  subst e
  unfold fzL at h
  cases ep : pureSs ys with
  | none => rw [ep] at h; exact h.elim
  | some ps =>
    simp only [ep] at h
    split at h
    · have := pureSs_eq ep
      subst this
      have r3 := r.doneG g
      have le3 : W1.le ⟨upd W2.F D (.lst b), W2.rho, (W2.setG D none).G⟩ := by
        refine ⟨fun a o e => ?_, le.r, fun a o e => ?_⟩
        · have e2 := le.f a o e
          have : a ≠ D := fun z => by have := (r.gsub D _ g).2; rw [← z, e2] at this; cases this
          show upd W2.F D (.lst b) a = some o
          rw [upd_ne this]; exact e2
        · have : a ≠ D := fun z => by rw [z, hn] at e; cases e
          rw [Wd.setG_ne this]; exact hG a o this e
      refine h _ _ le3 r3 _ (.lst upd_same (rz.to.mono fun a o e => ?_))
      have : a ≠ D := fun z => by have := (r.gsub D _ g).2; rw [← z, e] at this; cases this
      show upd W2.F D (.lst b) a = some o
      rw [upd_ne this]; exact e
    · exact h.elim
theorem fzL_size {ys : List S} {st : Store} {k : Wd → S → Store → Hp → Prop} {W : Wd} (h : Aft C E W (fzL ys st) k) : ys.length ≤ sizeLine := by
  unfold fzL at h
  cases ep : pureSs ys with
  | none => rw [ep] at h; exact h.elim
  | some ps =>
    simp only [ep] at h
    split at h
    · rename_i hl
      rw [pureSs_eq ep, List.length_map, sizeLine_is]
      exact of_decide_eq_true hl
    · exact h.elim
/-- a comprehension as a value -/
theorem qe_comp {α β : Type} {A : AccK α β} {b0 : β} {fin : List α → Store → R S} {e tg iter : Expr} {ifs : List Expr} {gs : List Comprehension} {scope : Scope} {own : List (Str × Nat)} {pos' : Pos} {fi : XI} {t : Tg} {ft : XT} {inner : XN α} {Vr : List Nat} {tail : Addr → PySem.Env → Sem Unit} {newAcc : Sem Value} {ob : Obj}
    (na : NewAcc newAcc ob (A.ho b0)) (hb0 : A.size b0 = 0) (hfin : FinL C E A b0 fin) (hsz : ∀ ys st W k, Aft C E W (fin ys st) k → ys.length ≤ sizeLine) (ok : Ok X C) (hN : X.N.Nodup) (hcl : clausesOf e = ⟨tg, iter, ifs, 0⟩ :: gs) (hi : QI X C E tg iter fi) (bk : BlkOk X.N X.env.scope scope own)
    (hV : ∀ i ∈ Vr, i ∈ own.map (·.2)) (hVt : ∀ i ∈ t.ixs, i ∈ own.map (·.2)) (ce : ∀ D env, CompE X.prog X.w X.A e 0 (.ref D) env) (hT : ∀ D env it, compTurn e 0 it (.ref D) env = turnG tg iter ifs it (tail D env) e 0 (.ref D) env)
    (hg : InBlk X scope fun Y => PG Y tg (t.g X.K)) (ht : InBlk X scope fun Y => QTs Y C E0 ifs ft) (hu : ∀ D, InBlk X scope fun Y => PTail Y (tail D Y.env) Vr (TNA C A D inner)) (hs : ∀ x, foldedSetIterable iter X.env x = pure x)
    (hev : eval e X.env = comprehension e scope X.env pos' newAcc false (eval iter X.env) none) : QE X C E e (eComp fin fi t (own.map (·.2)) ft inner) := by
  refine (pe_comp na ok.calm hN hcl hi bk hV ce hT hg ht hu hs hev).imp fun σ H Q h => ?_
  obtain ⟨W, env, st, rs, n, h⟩ := h
  refine ⟨W, env, st, rs, n, h.bind.imp fun W1 items st1 H1 le1 r1 h1 J hJ D hD => ?_⟩
  cases el : clLoop t ft inner (wipeE env (own.map (·.2))) items st1 with
  | none => rw [el] at h1; exact h1.elim
  | some p =>
    obtain ⟨ys, st2⟩ := p
    simp only [el] at h1
    obtain ⟨leG, rG⟩ := r1.newG (o := A.ho b0) hD
    have hJ2 : ItOk C (W1.setG D (some (A.ho b0))) items J := fun W2 st2 H2 le r2 i => hJ W2 st2 H2 (leG.to0.trans le) r2 i
    have hn : W1.G D = none := by
      cases z : W1.G D with
      | none => rfl
      | some u => have := (r1.gsub D u z).1; rw [hD] at this; cases this
    have k := cl_run (A := A) (D := D) (C := C) (Nx := fun H => Q (.ref D) H) hVt rG (((n.mono le1).mono leG).wipe (own.map (·.2))) hJ2 Wd.setG_same el (by rw [hb0, Nat.zero_add]; exact hsz _ _ _ _ h1)
      fun W' H' b' leD r' g' rel' => hfin W1 W' ys st2 H' D b' Q (leG.to0.trans leD.1) (fun a o ne e => leD.2 a o ne (leG.g a o e)) hn r' g' rel' h1
    rw [ok.hC] at k
    exact k
/-- name = a comprehension on one line -/
theorem qs_setComp {α β : Type} {A : AccK α β} {b0 : β} {fin : List α → Store → R S} {i : Nat} {y : Str} {py spos : Pos} {e tg iter : Expr} {ifs : List Expr} {gs : List Comprehension} {scope : Scope} {own : List (Str × Nat)} {pos' : Pos} {fi : XI} {t : Tg} {ft : XT} {inner : XN α} {Vr : List Nat} {tail : Addr → PySem.Env → Sem Unit} {newAcc : Sem Value} {ob : Obj}
    (na : NewAcc newAcc ob (A.ho b0)) (hb0 : A.size b0 = 0) (hfin : FinL C E A b0 fin) (hsz : ∀ ys st W k, Aft C E W (fin ys st) k → ys.length ≤ sizeLine) (ok : Ok X C) (hN : X.N.Nodup) (hy : X.N[i]? = some y) (hyl : X.env.scope.names.lookup y = some .local) (hsw : swapsWith e (some (.Name y py)) spos.line X.env = pure true)
    (hcl : clausesOf e = ⟨tg, iter, ifs, 0⟩ :: gs) (hi : QI X C E tg iter fi) (bk : BlkOk X.N X.env.scope scope own)
    (hV : ∀ i ∈ Vr, i ∈ own.map (·.2)) (hVt : ∀ i ∈ t.ixs, i ∈ own.map (·.2)) (ce : ∀ D env, CompE X.prog X.w X.A e 0 (.ref D) env) (hT : ∀ D env it, compTurn e 0 it (.ref D) env = turnG tg iter ifs it (tail D env) e 0 (.ref D) env)
    (hg : InBlk X scope fun Y => PG Y tg (t.g X.K)) (ht : InBlk X scope fun Y => QTs Y C E0 ifs ft) (hu : ∀ D, InBlk X scope fun Y => PTail Y (tail D Y.env) Vr (TNA C A D inner)) (hs : ∀ x, foldedSetIterable iter X.env x = pure x)
    (hev : evalThenUse e X.env (assign (.Name y py) X.env) = (do let _ ← comprehension e scope X.env pos' newAcc false (eval iter X.env) (some (assign (.Name y py) X.env)))) :
    PS X (.Assign [.Name y py] e spos) (fun D σ H => T C E (eComp fin fi t (own.map (·.2)) ft inner) σ H fun x H1 => D.nx (σ.set i (some x)) H1) := by
  refine (ps_setComp na ok.calm hN hy hyl hsw hcl hi bk hV ce hT hg ht hu hs hev).imp fun D0 σ H h => ?_
  obtain ⟨W, env, st, rs, n, h⟩ := h
  refine ⟨W, env, st, rs, n, h.bind.imp fun W1 items st1 H1 le1 r1 h1 J hJ D hD => ?_⟩
  cases el : clLoop t ft inner (wipeE env (own.map (·.2))) items st1 with
  | none => rw [el] at h1; exact h1.elim
  | some p =>
    obtain ⟨ys, st2⟩ := p
    simp only [el] at h1
    obtain ⟨leG, rG⟩ := r1.newG (o := A.ho b0) hD
    have hJ2 : ItOk C (W1.setG D (some (A.ho b0))) items J := fun W2 st2 H2 le r2 i => hJ W2 st2 H2 (leG.to0.trans le) r2 i
    have hn : W1.G D = none := by
      cases z : W1.G D with
      | none => rfl
      | some u => have := (r1.gsub D u z).1; rw [hD] at this; cases this
    have k := cl_run (A := A) (D := D) (C := C) (Nx := fun H => gName i (.ref D) σ H D0.nx) hVt rG (((n.mono le1).mono leG).wipe (own.map (·.2))) hJ2 Wd.setG_same el (by rw [hb0, Nat.zero_add]; exact hsz _ _ _ _ h1)
      fun W' H' b' leD r' g' rel' => hfin W1 W' ys st2 H' D b' (fun x H => gName i x σ H D0.nx) (leG.to0.trans leD.1) (fun a o ne e => leD.2 a o ne (leG.g a o e)) hn r' g' rel' h1
    rw [ok.hC] at k
    exact k
theorem finL_cl : FinL C E accL [] clL := by
  intro W1 W2 ys st H D b Q le hG hn r g rel h
  obtain ⟨zs, e, rz⟩ := rel
  simp only [List.nil_append] at e
  subst e
  unfold clL at h
  split at h
  · obtain ⟨hH, hF⟩ := r.gsub D _ g
    -- the cell is where the list was made
    have r0 : RelSt C (W2.setG D none) st H := by
      refine ⟨r.sub, fun a u e => ?_, fun n a e => ?_, r.len, fun n c a e e' => ?_, r.dist⟩
      · by_cases h : a = D
        · subst h; rw [Wd.setG_same] at e; cases e
        · rw [Wd.setG_ne h] at e; exact r.gsub a u e
      · by_cases h : a = D
        · subst h; exact Wd.setG_same
        · rw [Wd.setG_ne h]; exact r.grho n a e
      · have e' : W2.rho[n]? = some a := e'
        have mono : W2.le0 (W2.setG D none) := ⟨fun _ _ q => q, fun _ _ q => q⟩
        have h := r.cell n c a e e'
        cases c with
        | lst xs => obtain ⟨n, vs, e, r⟩ := h; exact ⟨n, vs, e, r.mono0 mono⟩
        | dk kvs => obtain ⟨n, vs, e, r⟩ := h; exact ⟨n, vs, e, r.mono0 mono⟩
        | dt kvs => obtain ⟨n, vs, e, r⟩ := h; exact ⟨n, vs, e, r.mono0 mono⟩
        | obj c fs => obtain ⟨n, dx, vs, e, d, r⟩ := h; exact ⟨n, dx, vs, e, d, r.mono0 mono⟩
        | slt c fs => obtain ⟨n, dx, vs, e, d, r⟩ := h; exact ⟨n, dx, vs, e, d, r.mono0 mono⟩
        | dead => exact h
    have hrho : ∀ (n : Nat), W2.rho[n]? ≠ some D := fun n e => by have := r.grho n D e; rw [g] at this; cases this
    have le0 : (W2.setG D none).le0 ⟨W2.F, W2.rho ++ [D], (W2.setG D none).G⟩ := ⟨fun _ _ e => e, fun n a e => by
      show (W2.rho ++ [D])[n]? = some a
      have e : W2.rho[n]? = some a := e
      rw [List.getElem?_append_left (List.getElem?_eq_some_iff.mp e).1]; exact e⟩
    have split : ∀ (n : Nat) a, (W2.rho ++ [D])[n]? = some a → (W2.rho[n]? = some a ∧ n < st.length) ∨ (a = D ∧ n = st.length) := fun n a e => by
      by_cases h : n < W2.rho.length
      · rw [List.getElem?_append_left h] at e
        exact .inl ⟨e, by rw [← r.len]; exact h⟩
      · rw [List.getElem?_append_right (by omega)] at e
        have hz : n - W2.rho.length = 0 := by
          have := (List.getElem?_eq_some_iff.mp e).1
          simp at this; omega
        rw [hz] at e
        simp at e
        exact .inr ⟨e.symm, by rw [← r.len]; omega⟩
    have rC : RelSt C ⟨W2.F, W2.rho ++ [D], (W2.setG D none).G⟩ (st ++ [.lst ys]) H := by
      refine ⟨r.sub, r0.gsub, fun n a e => ?_, by simp [r.len], fun n c a e e' => ?_, fun m n a e e' => ?_⟩
      · rcases split n a e with ⟨q, _⟩ | ⟨rfl, _⟩
        · exact r0.grho n a q
        · exact Wd.setG_same
      · rcases split n a e' with ⟨q, hn⟩ | ⟨rfl, rfl⟩
        · rw [List.getElem?_append_left hn] at e
          have h := r0.cell n c a e q
          cases c with
          | lst xs => obtain ⟨n, vs, e, r⟩ := h; exact ⟨n, vs, e, r.mono0 le0⟩
          | dk kvs => obtain ⟨n, vs, e, r⟩ := h; exact ⟨n, vs, e, r.mono0 le0⟩
          | dt kvs => obtain ⟨n, vs, e, r⟩ := h; exact ⟨n, vs, e, r.mono0 le0⟩
          | obj c fs => obtain ⟨n, dx, vs, e, d, r⟩ := h; exact ⟨n, dx, vs, e, d, r.mono0 le0⟩
          | slt c fs => obtain ⟨n, dx, vs, e, d, r⟩ := h; exact ⟨n, dx, vs, e, d, r.mono0 le0⟩
          | dead => exact h
        · have : (st ++ [Cell.lst ys])[st.length]? = some (.lst ys) := by simp
          rw [this] at e; cases e
          exact ⟨hF, b, hH, rz.mono0 ((⟨fun _ _ q => q, fun _ _ q => q⟩ : W2.le0 (W2.setG a none)).trans le0)⟩
      · rcases split m a e with ⟨q, hm⟩ | ⟨rfl, rfl⟩ <;> rcases split n _ e' with ⟨q', hn⟩ | ⟨z, rfl⟩
        · exact r.dist m n a q q'
        · subst z; exact absurd q (hrho m)
        · exact absurd q' (hrho n)
        · rfl
    have leF : W1.le ⟨W2.F, W2.rho ++ [D], (W2.setG D none).G⟩ := by
      refine ⟨le.f, fun n a e => le0.r n a (le.r n a e), fun a o e => ?_⟩
      have : a ≠ D := fun z => by rw [z, hn] at e; cases e
      rw [Wd.setG_ne this]; exact hG a o this e
    refine h _ _ leF rC _ ⟨D, ?_, rfl⟩
    show (W2.rho ++ [D])[st.length]? = some D
    rw [← r.len]; simp
  · exact h.elim
theorem clL_size {ys : List S} {st : Store} {k : Wd → S → Store → Hp → Prop} {W : Wd} (h : Aft C E W (clL ys st) k) : ys.length ≤ sizeLine := by
  unfold clL at h
  split at h
  · rename_i hl
    rw [sizeLine_is]
    exact of_decide_eq_true hl
  · exact h.elim
end
end Q

set_option Elab.async false
set_option linter.all false
set_option maxRecDepth 100000
set_option maxHeartbeats 2000000
/-! Q9: statements, defs -/
namespace Q
open PySem L2 PySem.Spec PyProof.Rows

def R.nox {α : Type} : R α → R α
  | .exc _ _ _ => .stuck
  | r => r
@[simp] theorem R.nox_ok {α : Type} (a : α) (st : Store) : (R.ok a st).nox = .ok a st := rfl
@[simp] theorem R.nox_stuck {α : Type} : (R.stuck : R α).nox = .stuck := rfl
theorem Aft.nox {α : Type} {C : QC} {E E' : XK} {W : Wd} {r : R α} {k : Wd → α → Store → Hp → Prop} (h : Aft C E W r.nox k) : Aft C E' W r k := by
  cases r with
  | ok a st => exact h
  | exc c fs st => exact (show False from h).elim
  | stuck => exact h

/-! ### statements -/
def sSet (i : Nat) (a : XE) : XS := fun env st => (a env st).bind fun v st => if i < env.length then .ok (.nx (env.set i (some v))) st else .stuck
def sTg (t : Tg) (a : XE) : XS := fun env st => (a env st).bind fun v st => match t.set v env with
  | some e => .ok (.nx e) st
  | none => .stuck
def sExpr (a : XE) : XS := fun env st => (a env st).bind fun _ st => .ok (.nx env) st
def sRet (a : XE) : XS := fun env st => (a env st).bind fun v st => .ok (.rt v) st
def sRetN : XS := fun _ st => .ok (.rt (.p .non)) st
def sNext : XS := fun env st => .ok (.nx env) st
def sBreak : XS := fun env st => .ok (.bk env) st
def sCont : XS := fun env st => .ok (.ct env) st
def sSeq (f g : XS) : XS := fun env st => (f env st).bind fun o st => match o with
  | .nx e => g e st
  | o => .ok o st
def sIf (c : XE) (f g : XS) : XS := fun env st => (tOf c env st).bind fun b st => if b = true then f env st else g env st
def sAug (i : Nat) (g : GOp) (a : XE) : XS := fun env st => match env[i]? with
  | some (some u) => (a env st).bind fun v st => (g u v st).bind fun z st => if i < env.length then .ok (.nx (env.set i (some z))) st else .stuck
  | _ => .stuck
def forLoop (t : Tg) (body : XS) : List S → Env → Store → R O
  | [], env, st => .ok (.nx env) st
  | s :: r, env, st => match t.set s env with
    | none => .stuck
    | some env1 => (body env1 st).bind fun o st => match o with
      | .nx e => forLoop t body r e st
      | .ct e => forLoop t body r e st
      | .bk e => .ok (.nx e) st
      | .rt v => .ok (.rt v) st
def sFor (fi : XI) (t : Tg) (body : XS) : XS := fun env st => (fi env st).bind fun items st => forLoop t body items env st
def whileLoop (c : XE) (body : XS) : Nat → Env → Store → R O
  | 0, _, _ => .stuck
  | n + 1, env, st => (tOf c env st).bind fun b st => if b = true then (body env st).bind fun o st => match o with
      | .nx e => whileLoop c body n e st
      | .ct e => whileLoop c body n e st
      | .bk e => .ok (.nx e) st
      | .rt v => .ok (.rt v) st
    else .ok (.nx env) st
def sWhile (n : Nat) (c : XE) (body : XS) : XS := fun env st => whileLoop c body n env st
/-- what a cell holds, frozen -/
def pureKs {κ : Type} : List (κ × S) → Option (List (κ × P))
  | [] => some []
  | (k, .p x) :: r => match pureKs r with
    | some l => some ((k, x) :: l)
    | none => none
  | (_, .c _) :: _ => none
def frzO : Cell → Option P
  | .lst xs => (pureSs xs).map .lst
  | .obj c fs => (pureKs fs).map (.obj c)
  | .slt c xs => (pureSs xs).map (.sob c)
  | _ => none
def frzD : Cell → Option P
  | .dk kvs => (pureKs kvs).map .dk
  | .dt kvs => (pureKs kvs).map .dt
  | _ => none
def frzC (c : Cell) : Option P := match frzO c with
  | some p => some p
  | none => frzD c
/-- what an expression gives is not changed any more -/
def eFrz (a : XE) : XE := fun env st => (a env st).bind fun u st => match u with
  | .c n => match st[n]? with
    | some c => match frzC c with
      | some x => .ok (.p x) (st.set n .dead)
      | none => .stuck
    | none => .stuck
  | .p x => .ok (.p x) st
/-- from here on the thing in slot i is not changed any more -/
def sFrz (i : Nat) (f : XS) : XS := fun env st => match env[i]? with
  | some (some (.c n)) => match st[n]? with
    | some c => match frzC c with
      | some x => f (env.set i (some (.p x))) (st.set n .dead)
      | none => .stuck
    | none => .stuck
  | _ => f env st
section
variable {X : Cx} {C : QC} {E : XK} {W : Wd} {st : Store} {H : Hp} {e a b c : Expr} {fa fb fc : XE} {pos p : Pos} {x : Str} {body rest : List Stmt} {s1 : Stmt} {f g : XS}
theorem qs_set {i : Nat} {pos' : Pos} (hN : X.N.Nodup) (hi : X.N[i]? = some x) (hx : Loc X.env.scope x) (he : QE X C E e fa) (hs : swapsWith e (some (.Name x pos')) pos.line X.env = pure false := by rfl)
    (hf : X.fn x = true ∨ X.env.scope.names.lookup x = some .local := by first | exact .inl rfl | exact .inr rfl | assumption) : QS X C E (.Assign [.Name x pos'] e pos) (sSet i fa) := by
  refine (ps_set hN hi hx he hs hf).imp fun D σ H h => ?_
  obtain ⟨W, env, st, r, n, h⟩ := h
  refine T.of r n h fun W1 v st1 H1 y le1 r1 n1 ry h1 => ?_
  split at h1
  · exact h1 W1 H1 W1.le_refl r1 _ (n1.set ry)
  · exact h1.elim
/-- name = a comprehension on one line -/
theorem qs_setC {i : Nat} {pos' : Pos} (h : PS X (.Assign [.Name x pos'] e pos) (fun D σ H => T C E fa σ H fun y H1 => D.nx (σ.set i (some y)) H1)) : QS X C E (.Assign [.Name x pos'] e pos) (sSet i fa) := by
  refine h.imp fun D σ H h => ?_
  obtain ⟨W, env, st, r, n, h⟩ := h
  refine T.of r n h fun W1 v st1 H1 y le1 r1 n1 ry h1 => ?_
  split at h1
  · exact h1 W1 H1 W1.le_refl r1 _ (n1.set ry)
  · exact h1.elim
theorem qs_tg {tg : Expr} {t : Tg} (ok : Ok X C) (he : QE X C E e fa) (hg : PG X tg (t.g X.K)) (hs : swapsWithSole [tg] e pos.line X.env = pure false := by rfl) (hw : swappedStores [tg] e X.env = pure none := by rfl)
    (h1 : (assignEach [tg] X.env).map (·.2) = [assign tg X.env] := by rfl) : QS X C E (.Assign [tg] e pos) (sTg t fa) := by
  refine (ps_asg he hg hs hw h1).imp fun D σ H h => ?_
  obtain ⟨W, env, st, r, n, h⟩ := h
  refine T.of r n h fun W1 v st1 H1 y le1 r1 n1 ry h1 => ?_
  cases et : t.set v env with
  | none => rw [et] at h1; exact h1.elim
  | some env1 =>
    simp only [et] at h1
    obtain ⟨σ', n', _, hq⟩ := Tg.ok r1 et n1 ry
    rw [ok.hC] at hq
    exact hq _ (h1 W1 H1 W1.le_refl r1 _ n')
theorem qs_expr (he : QE X C E e fa) (hs : swapsWith e none pos.line X.env = pure false := by rfl) : QS X C E (.Expr e pos) (sExpr fa) := by
  refine (ps_expr he hs).imp fun D σ H h => ?_
  obtain ⟨W, env, st, r, n, h⟩ := h
  exact T.of r n h fun W1 v st1 H1 y le1 r1 n1 ry h1 => h1 W1 H1 W1.le_refl r1 _ n1
theorem qs_ret (he : QE X C E e fa) : QS X C E (.Return (some e) pos) (sRet fa) := by
  refine (ps_ret he).imp fun D σ H h => ?_
  obtain ⟨W, env, st, r, n, h⟩ := h
  exact T.of r n h fun W1 v st1 H1 y le1 r1 n1 ry h1 => h1 W1 H1 W1.le_refl r1 _ ry
theorem qs_retN : QS X C E (.Return none pos) sRetN := ps_retN.imp fun D σ H ⟨W, env, st, r, n, h⟩ => h W H W.le_refl r _ .non
theorem qs_pass : QS X C E (.Pass pos) sNext := ps_pass.imp fun D σ H ⟨W, env, st, r, n, h⟩ => h W H W.le_refl r _ n
theorem qs_break : QS X C E (.Break pos) sBreak := ps_break.imp fun D σ H ⟨W, env, st, r, n, h⟩ => h W H W.le_refl r _ n
theorem qs_cont : QS X C E (.Continue pos) sCont := ps_continue.imp fun D σ H ⟨W, env, st, r, n, h⟩ => h W H W.le_refl r _ n
theorem qs_doc {z j pos'} : QS X C E (.Expr (.Constant (.str z) j pos) pos') sNext := ps_doc.imp fun D σ H ⟨W, env, st, r, n, h⟩ => h W H W.le_refl r _ n
theorem qss_nil : QSs X C E [] sNext := pss_nil.imp fun D σ H ⟨W, env, st, r, n, h⟩ => h W H W.le_refl r _ n
theorem qss_one (h : QS X C E s1 f) : QSs X C E [s1] f := pss_one h
theorem qss_cons (h : QS X C E s1 f) (hr : QSs X C E rest g) : QSs X C E (s1 :: rest) (sSeq f g) := by
  refine (pss_cons h hr).imp fun D σ H hh => ?_
  obtain ⟨W, env, st, r, n, hh⟩ := hh
  refine TSt.of r n hh fun W1 o st1 H1 le1 r1 h1 => ?_
  cases o with
  | nx e => exact fun σ' n' => ⟨W1, e, st1, r1, n', h1⟩
  | rt v => exact h1 W1 H1 W1.le_refl r1
  | bk e => exact h1 W1 H1 W1.le_refl r1
  | ct e => exact h1 W1 H1 W1.le_refl r1
theorem qs_if {a b : List Stmt} (hc : QB X C E c fc) (ha : QSs X C E a f) (hb : QSs X C E b g) : QS X C E (.If c a b pos) (sIf fc f g) := by
  refine (ps_if hc ha hb).imp fun D σ H h => ?_
  obtain ⟨W, env, st, r, n, h⟩ := h
  refine TTs.of r n h fun W1 t st1 H1 le1 r1 n1 h1 => ?_
  cases t with
  | true => exact ⟨W1, env, st1, r1, n1, h1⟩
  | false => exact ⟨W1, env, st1, r1, n1, h1⟩
theorem qs_aug {i : Nat} {op : Operator} {g : GOp} {ti : TIp} {pos' : Pos} (hN : X.N.Nodup) (hi : X.N[i]? = some x) (hx : Loc X.env.scope x) (he : QE X C E e fa) (ho : PIp X op ti) (hg : RqOp C E ti g)
    (hf : X.fn x = true ∨ X.env.scope.names.lookup x = some .local := by first | exact .inl rfl | exact .inr rfl | assumption) : QS X C E (.AugAssign (.Name x pos') op e pos) (sAug i g fa) := by
  refine (ps_aug hN hi hx he ho hf).imp fun D σ H h => ?_
  obtain ⟨W, env, st, r, n, h⟩ := h
  unfold sAug at h
  cases q : env[i]? with
  | none => rw [q] at h; exact h.elim
  | some o =>
    cases o with
    | none => rw [q] at h; exact h.elim
    | some u =>
      simp only [q] at h
      obtain ⟨y, ey, ry⟩ := n.at_ i u q
      refine ⟨y, ey, T.of r n h fun W1 v st1 H1 z le1 r1 n1 rz h1 => ?_⟩
      refine hg W1 st1 H1 u v y z _ r1 (ry.mono le1) rz (h1.bind.imp fun W2 w st2 H2 le2 r2 h2 w' rw' => ?_)
      split at h2
      · exact h2 W2 H2 W2.le_refl r2 _ ((n1.mono le2).set rw')
      · exact h2.elim
theorem rq_ipadd : RqOp C E (ipI fun i j => i + j) (gInt (fun i j => .int (i + j)) fun _ _ => true) := rq_int0 (f := fun i j => .int (i + j)) fun _ _ _ => .int _
theorem rq_ipsub : RqOp C E (ipI fun i j => i - j) (gInt (fun i j => .int (i - j)) fun _ _ => true) := rq_int0 (f := fun i j => .int (i - j)) fun _ _ _ => .int _
theorem qs_for {tg iter : Expr} {t : Tg} {fi : XI} (ok : Ok X C) (hp : PassesOwn (model X.prog X.w) X.A X.env X.xe) (hi : QI X C E tg iter fi) (hg : PG X tg (t.g X.K)) (hb : QSs X C E body f) (hs : ∀ x, foldedSetIterable iter X.env x = pure x := by intro _; rfl) :
    QS X C E (.For tg iter body [] pos) (sFor fi t f) := by
  refine (ps_for hp ok.calm hi hg hb hs).imp fun D σ H h => ?_
  obtain ⟨W, env, st, r, n, h⟩ := h
  refine ⟨W, env, st, r, n, h.bind.imp fun W1 items st1 H1 le1 r1 h1 J hJ => ?_⟩
  refine ⟨fun i m σ H => ∃ Wz ez sz, RelSt C Wz sz H ∧ RelEnv C Wz ez σ ∧ W1.le Wz ∧ m = items.length - i ∧ i ≤ items.length ∧ Aft C E Wz (forLoop t f (items.drop i) ez sz) (fun W' o _ H' => EndsOk C D W' o H'),
    ⟨_, W1, env, st1, r1, n.mono le1, W1.le_refl, rfl, Nat.zero_le _, by simpa using h1⟩, ?_⟩
  rintro i m σ H ⟨Wz, ez, sz, rz, nz, lez, rfl, hi, hl⟩
  have hJ2 := hJ Wz sz H lez.to0 rz i
  by_cases hlt : i < items.length
  · obtain ⟨go, yld⟩ := hJ2.1 hlt
    refine .inr ⟨go, fun σ' H' => ∃ Wy ey sy, RelSt C Wy sy H' ∧ RelEnv C Wy ey σ' ∧ W1.le Wy ∧ Aft C E Wy (forLoop t f (items.drop (i + 1)) ey sy) (fun W' o _ H' => EndsOk C D W' o H'), ?_, ?_⟩
    · rintro σ' H' ⟨Wy, ey, sy, q1, q2, q3, q4⟩
      exact ⟨items.length - (i + 1), by omega, Wy, ey, sy, q1, q2, q3, rfl, hlt, q4⟩
    · intro y H' hy
      obtain ⟨W3, le3, r3, s, es, rs⟩ := yld y H' hy
      have hd : items.drop i = s :: items.drop (i + 1) := by
        rw [List.drop_eq_getElem_cons hlt]
        have := (List.getElem?_eq_some_iff.mp es).2
        rw [this]
      rw [hd] at hl
      unfold forLoop at hl
      cases et : t.set s ez with
      | none => rw [et] at hl; exact hl.elim
      | some env1 =>
        simp only [et] at hl
        obtain ⟨σ2, n4, _, hq⟩ := Tg.ok r3 et (nz.mono le3) rs
        rw [ok.hC] at hq
        refine hq _ ?_
        refine TSt.of r3 n4 (hl.later le3) fun W4 o st4 H4 le4 r4 h4 => ?_
        cases o with
        | nx e => exact fun σ' n' => ⟨W4, e, st4, r4, n', lez.trans (le3.trans le4), h4⟩
        | ct e => exact fun σ' n' => ⟨W4, e, st4, r4, n', lez.trans (le3.trans le4), h4⟩
        | bk e => exact h4 W4 H4 W4.le_refl r4
        | rt v => exact h4 W4 H4 W4.le_refl r4
  · have e : i = items.length := by omega
    subst e
    refine .inl ⟨hJ2.2 (Nat.le_refl _), ?_⟩
    rw [List.drop_length] at hl
    exact hl Wz H Wz.le_refl rz _ nz
theorem qs_while {m : Nat} (hp : PassesOwn (model X.prog X.w) X.A X.env X.xe) (hc : QB X C E c fc) (hb : QSs X C E body f) : QS X C E (.While c body [] pos) (sWhile m fc f) := by
  refine (ps_while hp hc hb).imp fun D σ H h => ?_
  obtain ⟨W, env, st, r, n, h⟩ := h
  refine ⟨fun k σ H => ∃ Wz ez sz, RelSt C Wz sz H ∧ RelEnv C Wz ez σ ∧ Aft C E Wz (whileLoop fc f k ez sz) (fun W' o _ H' => EndsOk C D W' o H'), ⟨m, W, env, st, r, n, h⟩, ?_⟩
  rintro k σ H ⟨Wz, ez, sz, rz, nz, hl⟩
  cases k with
  | zero => exact hl.elim
  | succ k =>
    refine TTs.of rz nz hl fun W1 t st1 H1 le1 r1 n1 h1 => ?_
    cases t with
    | false => exact h1 W1 H1 W1.le_refl r1 _ n1
    | true =>
      simp only [if_true] at h1 ⊢
      refine ⟨fun σ' H' => ∃ Wy ey sy, RelSt C Wy sy H' ∧ RelEnv C Wy ey σ' ∧ Aft C E Wy (whileLoop fc f k ey sy) (fun W' o _ H' => EndsOk C D W' o H'), fun σ' H' q => ⟨k, Nat.lt_succ_self _, q⟩, ?_⟩
      refine TSt.of r1 n1 h1 fun W4 o st4 H4 le4 r4 h4 => ?_
      cases o with
      | nx e => exact fun σ' n' => ⟨W4, e, st4, r4, n', h4⟩
      | ct e => exact fun σ' n' => ⟨W4, e, st4, r4, n', h4⟩
      | bk e => exact h4 W4 H4 W4.le_refl r4
      | rt v => exact h4 W4 H4 W4.le_refl r4
theorem pureKs_eq {κ : Type} : ∀ {xs : List (κ × S)} {ps : List (κ × P)}, pureKs xs = some ps → xs = ps.map fun p => (p.1, S.p p.2)
  | [], ps, h => by simp [pureKs] at h; subst h; rfl
  | (k, .p x) :: r, ps, h => by
    unfold pureKs at h
    cases q : pureKs r with
    | none => rw [q] at h; cases h
    | some l => rw [q] at h; cases h; simp [pureKs_eq q]
  | (_, .c _) :: _, _, h => by simp [pureKs] at h
theorem frz_ok (r : RelSt C W st H) {n : Nat} {cl : Cell} {q : P} (es : st[n]? = some cl) (hf : frzO cl = some q) : ∃ W' a, W.le W' ∧ RelSt C W' (st.set n .dead) H ∧ W.rho[n]? = some a ∧ Rep C W'.F q (.ref a) := by
  obtain ⟨a, ea, ok⟩ := r.addr es
  cases cl with
  | dead => cases hf
  | dk kvs => cases hf
  | dt kvs => cases hf
  | lst xs =>
    obtain ⟨ps, e1, e2⟩ := Option.map_eq_some_iff.mp hf
    subst e2
    have := pureSs_eq e1
    subst this
    obtain ⟨hF, vs, eH, rr⟩ := ok
    obtain ⟨le, r'⟩ := r.freeze ea hF eH
    exact ⟨_, a, le, r', ea, .lst upd_same (rr.to.mono le.f)⟩
  | obj c fs =>
    obtain ⟨ps, e1, e2⟩ := Option.map_eq_some_iff.mp hf
    subst e2
    have := pureKs_eq e1
    subst this
    obtain ⟨hF, dx, vs, eH, ed, rr⟩ := ok
    obtain ⟨le, r'⟩ := r.freeze ea hF eH
    rw [map_snd_p] at rr
    exact ⟨_, a, le, r', ea, .obj (vs := vs) (by show upd W.F a _ a = _; rw [upd_same, zipV_p]) (le.f _ _ ed) (rr.to.mono le.f)⟩
  | slt c fs =>
    obtain ⟨ps, e1, e2⟩ := Option.map_eq_some_iff.mp hf
    subst e2
    have := pureSs_eq e1
    subst this
    obtain ⟨hF, dx, vs, eH, ed, rr⟩ := ok
    obtain ⟨le, r'⟩ := r.freeze ea hF eH
    exact ⟨_, a, le, r', ea, .sob (vs := vs) upd_same (le.f _ _ ed) (rr.to.mono le.f)⟩
/-- a dict is frozen and locked -/
theorem frz_okD (r : RelSt C W st H) {n : Nat} {cl : Cell} {q : P} (es : st[n]? = some cl) (hf : frzD cl = some q) : ∃ a u, W.rho[n]? = some a ∧ H a = some u ∧ Mut (some u) ∧ ∀ od, ∃ W', W.le W' ∧ RelSt C W' (st.set n .dead) (upd H a (.frz od u)) ∧ Rep C W'.F q (.ref a) := by
  obtain ⟨a, ea, ok⟩ := r.addr es
  cases cl with
  | dead => cases hf
  | lst xs => cases hf
  | obj c fs => cases hf
  | slt c fs => cases hf
  | dk kvs =>
    obtain ⟨ps, e1, e2⟩ := Option.map_eq_some_iff.mp hf
    subst e2
    have := pureKs_eq e1
    subst this
    obtain ⟨hF, vs, eH, rr⟩ := ok
    refine ⟨a, _, ea, eH, trivial, fun od => ?_⟩
    obtain ⟨le, r'⟩ := r.freezeL (o := .frz od (.dK (zipV (ps.map fun p => (p.1, S.p p.2)) vs))) ea hF
    rw [map_snd_p] at rr
    exact ⟨_, le, r', .dk (o := od) (vs := vs) (by show upd W.F a _ a = _; rw [upd_same, zipV_p]) (rr.to.mono le.f)⟩
  | dt kvs =>
    obtain ⟨ps, e1, e2⟩ := Option.map_eq_some_iff.mp hf
    subst e2
    have := pureKs_eq e1
    subst this
    obtain ⟨hF, vs, eH, rr⟩ := ok
    refine ⟨a, _, ea, eH, trivial, fun od => ?_⟩
    obtain ⟨le, r'⟩ := r.freezeL (o := .frz od (.dT (zipV (ps.map fun p => (p.1, S.p p.2)) vs))) ea hF
    rw [map_snd_p] at rr
    exact ⟨_, le, r', .dt (o := od) (vs := vs) (by show upd W.F a _ a = _; rw [upd_same, zipV_p]) (rr.to.mono le.f)⟩
theorem pss_lockF {body : List Stmt} {t : TS} (h : PSs X body t) : PSs X body (fun D σ H => t D σ H ∨ ∃ d u, H d = some u ∧ Mut (some u) ∧ ∀ od, t D σ (upd H d (.frz od u))) := by
  refine ⟨fun pins s σ H D I hw => ?_⟩
  rcases hw with hw | ⟨d, u, hd, mu, hw⟩
  · exact h.run pins s σ H D I hw
  · obtain ⟨od, I1⟩ := I.lock hd mu
    exact h.run pins s σ _ D I1 (hw od)
theorem pe_lockF {e : Expr} {t : TE} (h : PE X e t) : PE X e (fun σ H Q => t σ H fun v H1 => Q v H1 ∨ ∃ d u, H1 d = some u ∧ Mut (some u) ∧ ∀ od, Q v (upd H1 d (.frz od u))) := by
  refine ⟨fun pins s σ H Q I hw => thn (h.run pins s σ H _ I hw) fun v s1 ⟨x, H1, I1, r1, q⟩ => ?_⟩
  rcases q with q | ⟨d, u, hd, mu, q⟩
  · exact ⟨x, H1, I1, r1, q⟩
  · obtain ⟨od, I2⟩ := I1.lock hd mu
    exact ⟨x, _, I2, r1, q od⟩
/-- an environment whose cell n has been frozen -/
theorem RelEnv.frz {W' : Wd} {env : Env} {σ : L2.St} {i n : Nat} {q : P} {a : Addr} (nv : RelEnv C W env σ) (le : W.le W') (ei : env[i]? = some (some (.c n))) (ea : W.rho[n]? = some a) (hr : Rep C W'.F q (.ref a)) : RelEnv C W' (env.set i (some (.p q))) σ := by
  refine ⟨by simp [nv.len], fun j u e => ?_⟩
  by_cases h : j = i
  · subst h
    obtain ⟨y, e1, b, e2, e3⟩ := nv.at_ j _ ei
    rw [ea] at e2; cases e2
    have hl : j < env.length := (List.getElem?_eq_some_iff.mp ei).1
    rw [List.getElem?_set_self hl] at e; cases e
    exact ⟨y, e1, by rw [e3]; exact hr⟩
  · rw [List.getElem?_set_ne (Ne.symm h)] at e
    obtain ⟨y, e1, e2⟩ := nv.at_ j u e
    exact ⟨y, e1, e2.mono le⟩
theorem qss_frz {i : Nat} (h : QSs X C E body f) : QSs X C E body (sFrz i f) := by
  refine PSs.imp (pss_lockF h) fun D σ H hh => ?_
  obtain ⟨W, env, st, r, n, hh⟩ := hh
  unfold sFrz at hh
  split at hh
  · rename_i k ek
    split at hh
    · rename_i cl es
      split at hh
      · rename_i q eq
        unfold frzC at eq
        split at eq
        · rename_i q2 e2
          cases eq
          obtain ⟨W', a, le, r', ea, hr⟩ := frz_ok r es e2
          exact .inl ⟨W', _, _, r', n.frz le ek ea hr, hh.later le⟩
        · obtain ⟨a, u, ea, eH, mu, hr⟩ := frz_okD r es eq
          refine .inr ⟨a, u, eH, mu, fun od => ?_⟩
          obtain ⟨W', le, r', hr⟩ := hr od
          exact ⟨W', _, _, r', n.frz le ek ea hr, hh.later le⟩
      · exact hh.elim
    · exact hh.elim
  · exact .inl ⟨W, env, st, r, n, hh⟩
theorem qe_frz (h : QE X C E e fa) : QE X C E e (eFrz fa) := by
  refine PE.imp (pe_lockF h) fun σ H Q hh => ?_
  obtain ⟨W, env, st, r, n, hh⟩ := hh
  refine T.of r n hh fun W1 u st1 H1 y le1 r1 n1 ry h1 => ?_
  split at h1
  · rename_i k
    obtain ⟨b, eb, ey⟩ := ry
    split at h1
    · rename_i cl es
      split at h1
      · rename_i q eq
        unfold frzC at eq
        split at eq
        · rename_i q2 e2
          cases eq
          obtain ⟨W', a, le, r', ea, hr⟩ := frz_ok r1 es e2
          rw [eb] at ea; cases ea
          exact .inl (h1 W' H1 le r' y (by rw [ey]; exact hr))
        · obtain ⟨a, u, ea, eH, mu, hr⟩ := frz_okD r1 es eq
          refine .inr ⟨a, u, eH, mu, fun od => ?_⟩
          obtain ⟨W', le, r', hr⟩ := hr od
          rw [eb] at ea; cases ea
          exact h1 W' _ le r' y (by rw [ey]; exact hr)
      · exact h1.elim
    · exact h1.elim
  · exact .inl (h1 W1 H1 W1.le_refl r1 y ry)
end

/-! ### defs -/
/-- a def's run by its body -/
def runF (n : Nat) (f : XS) : GCall := fun us st => (f (us.map some ++ List.replicate (n - us.length) none) st).bind fun o st => match o with
  | .nx _ => .ok (.p .non) st
  | .rt v => .ok v st
  | _ => .stuck
/-- the promise: what g says -/
def sp0 (n : Nat) (C : QC) (g : GCall) : Sp := fun vs H Q _ => ∃ W st us, RelSt C W st H ∧ RepSs C W us vs ∧ us.length = n ∧ Aft C E0 W (g us st) fun W' v _ H' => ∀ x, RepS C W' v x → Q x H'
def spX (n : Nat) (C : QC) (g : GCall) : Sp := fun vs H Q E => ∃ W st us, RelSt C W st H ∧ RepSs C W us vs ∧ us.length = n ∧ Aft C E W (g us st) fun W' v _ H' => ∀ x, RepS C W' v x → Q x H'
/-- a module's def of n parameters that does what g says and lets no exception out -/
structure FS (P : Program) (w : World) (K : PySem.W.Frag) (mg : Str → Option Value) (base : Heap) (C : QC) (k : Nat) (x : Str) (n : Nat) (g : GCall) : Prop where
  ex : ∃ (f : Addr) (fd : FuncData) (ps : List Str), ps.length = n ∧ FnOk P w K mg base CX0 k f fd ps (sp0 n C g) ∧ mg x = some (.ref f) ∧ PySem.W.keepIn K (.ref f) = true ∧ Binds K fd ps []
def eCall (n : Nat) (g : GCall) (a : XA) : XE := fun env st => (a env st).bind fun us st => if us.length = n then (g us st).nox else .stuck
section
variable {X : Cx} {C : QC} {E : XK} {e : Expr} {es : List Expr} {f : XA} {pos p : Pos} {x : Str} {k j n : Nat} {g : GCall}
theorem qe_call (F : FS X.prog X.w X.K X.mg X.base C k x n g) (hr : Room j X.A) (hk : k ≤ j) (hg : Gl X x) (ha : QA X C E (e :: es) f) (hdb : (x == ("__debug__" : Str)) = false := by decide)
    (he : starEach (e :: es) X.env = (false, eval e X.env) :: starEach es X.env := by rfl) (hpl : (backTo pos (starEach es X.env)).any (·.1) = false := by rfl) : QE X C E (.Call (.Name x p) (e :: es) [] pos) (eCall n g f) := by
  obtain ⟨fa, fd, ps, _, G, hm, kp, b⟩ := F.ex
  refine (pe_call G (hr.mono hk) hg hm kp b .nil pass0 ha hdb he hpl).imp fun σ H Q h => ?_
  obtain ⟨W, env, st, r, nv, h⟩ := h
  refine TAr.of r nv h fun W1 us st1 H1 xs le1 r1 n1 rx h1 => ?_
  split at h1
  · rename_i hl
    rw [List.append_nil]
    exact ⟨W1, st1, us, r1, rx, hl, h1.nox⟩
  · exact h1.elim
theorem qe_call0 (F : FS X.prog X.w X.K X.mg X.base C k x n g) (hr : Room j X.A) (hk : k ≤ j) (hg : Gl X x) (hdb : (x == ("__debug__" : Str)) = false := by decide) : QE X C E (.Call (.Name x p) [] [] pos) (eCall n g aNil) := by
  obtain ⟨fa, fd, ps, _, G, hm, kp, b⟩ := F.ex
  refine (pe_call0 G (hr.mono hk) hg hm kp b .nil pass0 hdb).imp fun σ H Q h => ?_
  obtain ⟨W, env, st, r, nv, h⟩ := h
  have h : Aft C E W (if ([] : List S).length = n then (g [] st).nox else .stuck) (fun W' v _ H' => ∀ x, RepS C W' v x → Q x H') := h
  split at h
  · rename_i hl
    exact ⟨W, st, [], r, .nil, hl, h.nox⟩
  · exact h.elim
end
/-- what g says, the body does: it says nothing, or the same, or the body leaves some cells that no one speaks of -/
def Sim (n N : Nat) (g : GCall) (fb : XS) : Prop := ∀ us st, us.length = n → g us st = .stuck ∨ g us st = runF N fb us st ∨ ∃ p new, g us st = .ok (.p p) st ∧ runF N fb us st = .ok (.p p) (st ++ new)
theorem rel_start {C : QC} {W : Wd} {us : List S} {vs : List V} {N : List Str} (r : RepSs C W us vs) : RelEnv C W (us.map some ++ List.replicate (N.length - us.length) none) (L2.start N vs) := by
  have hl := r.length
  refine ⟨by simp [L2.start, hl], fun i s e => ?_⟩
  unfold L2.start
  by_cases h : i < us.length
  · rw [List.getElem?_append_left (by simpa using h), List.getElem?_map, List.getElem?_eq_getElem h] at e
    simp only [Option.map_some, Option.some.injEq] at e
    obtain ⟨v, ev, rv⟩ := r.get (List.getElem?_eq_getElem h)
    refine ⟨v, ?_, by rw [← e]; exact rv⟩
    rw [List.getElem?_append_left (by simp; omega), List.getElem?_map, ev]
    rfl
  · rw [List.getElem?_append_right (by simpa using h), List.getElem?_replicate] at e
    split at e
    · cases e
    · cases e
section
variable {P : Program} {w : World} {K : PySem.W.Frag} {mg : Str → Option Value} {base : Heap} {C : QC}
theorem body_reads {E : XK} {W : Wd} {st : Store} {H : Hp} {us : List S} {vs : List V} {n : Nat} {N : List Str} {g : GCall} {fb : XS} {Q : VK} (sim : Sim n N.length g fb) (r : RelSt C W st H) (rx : RepSs C W us vs) (hl : us.length = n)
    (h : Aft C E W (g us st) fun W' v _ H' => ∀ x, RepS C W' v x → Q x H') : TSt C E fb { nx := fun _ H' => Q .non H', rt := Q } (L2.start N vs) H := by
  refine ⟨W, us.map some ++ List.replicate (N.length - us.length) none, st, r, rel_start rx, ?_⟩
  rcases sim us st hl with e | e | ⟨p, new, e1, e2⟩
  · rw [e] at h; exact h.elim
  · rw [e] at h
    unfold runF at h
    refine h.bind.imp fun W1 o st1 H1 le1 r1 h1 => ?_
    cases o with
    | nx e => exact fun σ _ => h1 W1 H1 W1.le_refl r1 _ .non
    | rt v => exact h1 W1 H1 W1.le_refl r1
    | bk e => exact h1.elim
    | ct e => exact h1.elim
  · rw [e1] at h
    unfold runF at e2
    cases ef : fb (us.map some ++ List.replicate (N.length - us.length) none) st with
    | stuck => rw [ef] at e2; cases e2
    | exc c fs st4 => rw [ef] at e2; cases e2
    | ok o st1 =>
      rw [ef] at e2
      simp only [R.bind_ok] at e2
      intro W1 H1 le1 r1
      have key : ∀ q, st1 = st ++ new → q = p → ∀ x, Rep C W1.F q x → Q x H1 := fun q hst hq x hx => by
        subst hst hq
        obtain ⟨le2, r2⟩ := r.trunc le1 r1
        exact h _ _ le2 r2 x hx
      cases o with
      | nx e =>
        simp only [R.ok.injEq, S.p.injEq] at e2
        exact fun σ _ => key _ e2.2 e2.1 _ .non
      | rt v =>
        simp only [R.ok.injEq] at e2
        rw [e2.1]
        exact key p e2.2 rfl
      | bk e => cases e2
      | ct e => cases e2
theorem fs0 {x qual : Str} {st0 : Stmt} {f0 : Addr} {fd : FuncData} {N ps : List Str} {k : Nat} {fb : XS} {g : GCall} (F : Fun K x qual st0 f0 fd) (S : FnScope N ps (defScope st0)) (hm : mg x = some (.ref f0)) (hb : Binds K fd ps [])
    (body : ∀ (cdv : Value) (A : Around) (outer : List PySem.Env) (s : Shared) (H : Hp) (E : XK), Room k (A.deeper (envOfC qual (defScope st0) s.heap.objs.size f0 cdv)) → QSs (cxOf CX0 P w K mg base N qual (defScope st0) f0 cdv A outer s H E).nox C E0 (defBody st0) fb)
    (sim : Sim ps.length N.length g fb) : FS P w K mg base C (k + 1) x ps.length g := by
  refine ⟨f0, fd, ps, rfl, ?_, hm, F.kp, hb⟩
  refine F.ok S (fun vs H Q E h => ?_) (fun cdv A outer s H vs Q E hr h => ?_)
  · obtain ⟨W, st, us, r, rx, hl, _⟩ := h
    rw [← rx.length, hl]
  · obtain ⟨W, st, us, r, rx, hl, h⟩ := h
    exact ⟨_, body cdv A outer s H E hr, body_reads sim r rx hl h⟩
end
end Q

set_option Elab.async false
set_option linter.all false
set_option maxRecDepth 100000
set_option maxHeartbeats 2000000
/-! Q10: built-in functions by values, methods of lists -/
namespace Q
open PySem L2 PySem.Spec PyProof.Rows
section
variable {X : Cx} {C : QC} {E : XK} {W : Wd} {st : Store} {H : Hp}

/-! ### list, tuple -/
def gList : GCall := fun us st => match us with
  | [u] => match itemsOf st u with
    | some ts => match pureSs ts with
      | some ps => .ok (.p (.lst ps)) st
      | none => .stuck
    | none => .stuck
  | _ => .stuck
/-- a list that will be changed -/
def gListC : GCall := fun us st => match us with
  | [u] => match itemsOf st u with
    | some ts => .ok (.c st.length) (st ++ [.lst ts])
    | none => .stuck
  | _ => .stuck
def rListOf (K : PySem.W.Frag) : List V → Hp → VK → Prop := fun xs H Q => ∃ p ys, xs = [.ref p] ∧ (SqL K H p ys ∨ SqT K H p ys) ∧ ∀ l, H l = none → Q (.ref l) (upd H l (.lst ys))
theorem rq_list (ok : Ok X C) : RqCall C E (rListOf X.K) gList := by
  intro W st H us xs Q r rs h
  unfold gList at h
  split at h
  · rename_i u
    cases rs with
    | cons ru t =>
      cases t
      split at h
      · rename_i ts et
        obtain ⟨p, vs, ex, hq, rq⟩ := items_sq r ru et
        subst ex
        rw [ok.hC] at hq
        split at h
        · rename_i ps ep
          have := pureSs_eq ep
          subst this
          refine ⟨p, vs, rfl, hq.symm, fun l hl => ?_⟩
          have le := (r.laidF hl (.lst vs)).1
          exact aft_laid r hl h _ (.lst upd_same (rq.to.mono le.f))
        · exact h.elim
      · exact h.elim
  · exact h.elim
theorem rq_listC (ok : Ok X C) : RqCall C E (rListOf X.K) gListC := by
  intro W st H us xs Q r rs h
  unfold gListC at h
  split at h
  · rename_i u
    cases rs with
    | cons ru t =>
      cases t
      split at h
      · rename_i ts et
        obtain ⟨p, vs, ex, hq, rq⟩ := items_sq r ru et
        subst ex
        rw [ok.hC] at hq
        refine ⟨p, vs, rfl, hq.symm, fun l hl => ?_⟩
        obtain ⟨le, r2, hr⟩ := r.newL hl rq
        exact h _ _ le r2 _ ⟨l, hr, rfl⟩
      · exact h.elim
  · exact h.elim
def gTuple : GCall := fun us st => match us with
  | [.p (.tup ps)] => .ok (.p (.tup ps)) st
  | [.p (.ktup ps)] => .ok (.p (.ktup ps)) st
  | [u] => match lookP st u with
    | some (.lst ps) => .ok (.p (.tup ps)) st
    | _ => .stuck
  | _ => .stuck
def rTupleOf (K : PySem.W.Frag) : List V → Hp → VK → Prop := fun xs H Q => ∃ p ys, xs = [.ref p] ∧ ((SqL K H p ys ∧ ∀ l, H l = none → Q (.ref l) (upd H l (.tup ys))) ∨ (SqT K H p ys ∧ Q (.ref p) H))
theorem rq_tuple (ok : Ok X C) : RqCall C E (rTupleOf X.K) gTuple := by
  intro W st H us xs Q r rs h
  unfold gTuple at h
  split at h
  · cases rs with
    | cons ru t =>
      cases t
      cases ru with
      | tup q rr => exact ⟨_, _, rfl, .inr ⟨SqT.of (r.sub _ _ q), h W H W.le_refl r _ (.tup q rr)⟩⟩
  · cases rs with
    | cons ru t =>
      cases t
      cases ru with
      | ktup q rr => exact ⟨_, _, rfl, .inr ⟨by rw [← ok.hC]; exact sqT_le r.sub q, h W H W.le_refl r _ (.ktup q rr)⟩⟩
  · rename_i u _ _
    cases rs with
    | cons ru t =>
      cases t
      split at h
      · rename_i ps ep
        obtain ⟨a, vs, ey, hq, rr⟩ := look_lst r ru ep
        subst ey
        refine ⟨a, vs, rfl, .inl ⟨SqL.of hq, fun l hl => ?_⟩⟩
        have le := (r.laidF hl (.tup vs)).1
        exact aft_laid r hl h _ (.tup upd_same (rr.mono le.f))
      · exact h.elim
  · exact h.elim

/-! ### any, all -/
def asBools : List P → Option (List Bool)
  | [] => some []
  | .bl b :: r => match asBools r with
    | some l => some (b :: l)
    | none => none
  | _ :: _ => none
theorem asBools_rep {F : Hp} : ∀ {ps : List P} {vs : List V} {bs : List Bool}, Reps C F ps vs → asBools ps = some bs → vs = bs.map V.bl
  | [], _, bs, .nil, e => by simp [asBools] at e; subst e; rfl
  | p :: ps, _, bs, .cons r t, e => by
    cases p <;> simp only [asBools] at e <;> try cases e
    cases r
    cases q : asBools ps with
    | none => rw [q] at e; cases e
    | some l => rw [q] at e; cases e; simp [asBools_rep t q]
def gBools (f : List Bool → Bool) : GCall := fun us st => match us with
  | [u] => match lookP st u with
    | some (.lst ps) => match asBools ps with
      | some bs => .ok (.p (.bl (f bs))) st
      | none => .stuck
    | _ => .stuck
  | _ => .stuck
theorem rq_bools (ok : Ok X C) (f : List Bool → Bool) : RqCall C E (fun vs H Q => ∃ (a : Addr) (bs : List Bool), vs = [V.ref a] ∧ SqL X.K H a (bs.map V.bl) ∧ Q (.bl (f bs)) H) (gBools f) := by
  intro W st H us xs Q r rs h
  unfold gBools at h
  split at h
  · rename_i u
    cases rs with
    | cons ru t =>
      cases t
      split at h
      · rename_i ps ep
        obtain ⟨a, vs, ey, hq, rr⟩ := look_lst r ru ep
        subst ey
        split at h
        · rename_i bs eb
          have := asBools_rep rr eb
          subst this
          exact ⟨a, bs, rfl, SqL.of hq, h W H W.le_refl r _ (.bl _)⟩
        · exact h.elim
      · exact h.elim
  · exact h.elim
/-! ### min, max of two ints -/
def gMax2 : GCall := fun us st => match us with
  | [.p (.int i), .p (.int j)] => .ok (.p (.int (if j > i then j else i))) st
  | _ => .stuck
def gMin2 : GCall := fun us st => match us with
  | [.p (.int i), .p (.int j)] => .ok (.p (.int (if j < i then j else i))) st
  | _ => .stuck
theorem rq_max2 : RqCall C E (fun xs H Q => ∃ i j, xs = [.int i, .int j] ∧ Q (.int (if j > i then j else i)) H) gMax2 := by
  intro W st H us xs Q r rs h
  unfold gMax2 at h
  split at h
  · cases rs with
    | cons r1 t => cases t with
      | cons r2 t => cases t; cases r1; cases r2; exact ⟨_, _, rfl, h W H W.le_refl r _ (.int _)⟩
  · exact h.elim
theorem rq_min2 : RqCall C E (fun xs H Q => ∃ i j, xs = [.int i, .int j] ∧ Q (.int (if j < i then j else i)) H) gMin2 := by
  intro W st H us xs Q r rs h
  unfold gMin2 at h
  split at h
  · cases rs with
    | cons r1 t => cases t with
      | cons r2 t => cases t; cases r1; cases r2; exact ⟨_, _, rfl, h W H W.le_refl r _ (.int _)⟩
  · exact h.elim
/-! ### min, max of a list of data: the first of the least -/
def alikeB (ds : List PyData) : Bool := (ds.all fun d => ds.all fun e => PySem.W.alike d e) && ds.all fun d => match d with
  | .none => false
  | _ => true
theorem alikeB_ok {ds : List PyData} (h : alikeB ds = true) : PySem.W.AlikeAll ds := by
  unfold alikeB at h
  rw [Bool.and_eq_true] at h
  refine ⟨fun x hx y hy => List.all_eq_true.mp (List.all_eq_true.mp h.1 x hx) y hy, fun x hx e => ?_⟩
  have := List.all_eq_true.mp h.2 x hx
  rw [e] at this
  cases this
def bestD (lt : PyData → PyData → Bool) (ds : List PyData) : Nat := PySem.argBest (fun i j => lt (ds.getD i .none) (ds.getD j .none)) (ds.length - 1)
theorem min_ix {prog : Program} {w : World} {A : Around} {E : Value → Shared → Prop} {s : Shared} {l : Addr} {vs : Array Value} {xs : List PyData} {as : List Addr} {Q : Value → Shared → Prop} (hh : A.handled = none) (hl : s.heap.IsList l vs) (hr : ReadsAll s.heap vs.toList xs as) (h0 : 0 < xs.length) (ha : PySem.W.AlikeAll xs) (hu : A.units + 1 + PyData.depthAll xs < cLine)
    (h : ∀ v h' tk, vs[bestD PySem.W.dataLt xs]? = some v → (∀ b o, s.heap.get? b = some o → h'.get? b = some o) → Q v { s with heap := h', toks := tk }) : wpAny (model prog w) A (call (.builtin "min") [.ref l]) Q E s := by
  have hn : vs.size = xs.length := PySem.W.readsAll_len hr
  refine call_min_walkH (PySem.W.iter_listW (A := A.in1) hh hl fun s₂ e W st hfp hw hk => ?_)
  refine ⟨_, _, _, _, _, _, _, s.heap, _, rfl, W, st, hfp, by omega, hw, hk, PySem.W.cmpIn_lt (A := A.in1) hr ha (by show A.units + 1 + _ < _; exact hu), fun v s' hP m => ?_⟩
  obtain ⟨h', tk, rfl, hk'⟩ := PySem.W.moved_old e rfl m
  rw [hn] at hP
  exact h v h' tk hP hk'
theorem max_ix {prog : Program} {w : World} {A : Around} {E : Value → Shared → Prop} {s : Shared} {l : Addr} {vs : Array Value} {xs : List PyData} {as : List Addr} {Q : Value → Shared → Prop} (hh : A.handled = none) (hl : s.heap.IsList l vs) (hr : ReadsAll s.heap vs.toList xs as) (h0 : 0 < xs.length) (ha : PySem.W.AlikeAll xs) (hu : A.units + 1 + PyData.depthAll xs < cLine)
    (h : ∀ v h' tk, vs[bestD (fun x y => PySem.W.dataLt y x) xs]? = some v → (∀ b o, s.heap.get? b = some o → h'.get? b = some o) → Q v { s with heap := h', toks := tk }) : wpAny (model prog w) A (call (.builtin "max") [.ref l]) Q E s := by
  have hn : vs.size = xs.length := PySem.W.readsAll_len hr
  refine call_max_walkH (PySem.W.iter_listW (A := A.in1) hh hl fun s₂ e W st hfp hw hk => ?_)
  refine ⟨_, _, _, _, _, _, _, s.heap, _, rfl, W, st, hfp, by omega, hw, hk, PySem.W.cmpIn_gt (A := A.in1) hr ha (by show A.units + 1 + _ < _; exact hu), fun v s' hP m => ?_⟩
  obtain ⟨h', tk, rfl, hk'⟩ := PySem.W.moved_old e rfl m
  rw [hn] at hP
  exact h v h' tk hP hk'
def rBest (K : PySem.W.Frag) (lt : PyData → PyData → Bool) : List V → Hp → VK → Prop := fun xs H Q => ∃ (a : Addr) (vs : List V) (ds : List PyData) (v : V), xs = [.ref a] ∧ SqL K H a vs ∧ DpAll K H vs ds ∧ ds ≠ [] ∧ alikeB ds = true ∧ PyData.depthAll ds ≤ 64 ∧ vs[bestD lt ds]? = some v ∧ Q v H
theorem cr_minQ (ok : Ok X C) : CallR X (.builtin "min") (rBest X.K PySem.W.dataLt) := by
  intro pins s σ H xs us Q I r h
  obtain ⟨a, vs, ds, v, rfl, hq, hd, hne, ha, hdep, hv, q⟩ := h
  obtain ⟨its, rv, hl, _⟩ := I.list hq
  rw [Vals.ref1 r]
  obtain ⟨as, hr⟩ := Dp.readsAll I ds vs its hd rv
  have hu := ok.hu
  refine min_ix (xs := ds) (I.ok.hd ok.calm) hl.isList (by simpa using hr) (List.length_pos_iff.mpr hne) (alikeB_ok ha) (by omega) fun u h' tk hu' hk => ?_
  obtain ⟨u2, e2, r2⟩ := rv.get hv
  have : u = u2 := by
    have e1 : its[bestD PySem.W.dataLt ds]? = some u := by simpa using hu'
    rw [e1] at e2; exact Option.some.inj e2
  subst this
  exact ⟨v, H, I.kept hk, r2, q⟩
theorem cr_maxQ (ok : Ok X C) : CallR X (.builtin "max") (rBest X.K fun x y => PySem.W.dataLt y x) := by
  intro pins s σ H xs us Q I r h
  obtain ⟨a, vs, ds, v, rfl, hq, hd, hne, ha, hdep, hv, q⟩ := h
  obtain ⟨its, rv, hl, _⟩ := I.list hq
  rw [Vals.ref1 r]
  obtain ⟨as, hr⟩ := Dp.readsAll I ds vs its hd rv
  have hu := ok.hu
  refine max_ix (xs := ds) (I.ok.hd ok.calm) hl.isList (by simpa using hr) (List.length_pos_iff.mpr hne) (alikeB_ok ha) (by omega) fun u h' tk hu' hk => ?_
  obtain ⟨u2, e2, r2⟩ := rv.get hv
  have : u = u2 := by
    have e1 : its[bestD (fun x y => PySem.W.dataLt y x) ds]? = some u := by simpa using hu'
    rw [e1] at e2; exact Option.some.inj e2
  subst this
  exact ⟨v, H, I.kept hk, r2, q⟩
def gBest (lt : PyData → PyData → Bool) : GCall := fun us st => match us with
  | [u] => match lookP st u with
    | some (.lst ps) => match toDs ps with
      | some ds => if (!ds.isEmpty && (alikeB ds && decide (PyData.depthAll ds ≤ 64))) = true then match ps[bestD lt ds]? with
          | some p => .ok (.p p) st
          | none => .stuck
        else .stuck
      | none => .stuck
    | _ => .stuck
  | _ => .stuck
theorem rq_best (ok : Ok X C) (lt : PyData → PyData → Bool) : RqCall C E (rBest X.K lt) (gBest lt) := by
  intro W st H us xs Q r rs h
  unfold gBest at h
  split at h
  · rename_i u
    cases rs with
    | cons ru t =>
      cases t
      split at h
      · rename_i ps ep
        obtain ⟨a, vs, ey, hq, rr⟩ := look_lst r ru ep
        subst ey
        split at h
        · rename_i ds ed
          split at h
          · rename_i hc
            rw [Bool.and_eq_true, Bool.and_eq_true] at hc
            obtain ⟨c1, c2, c3⟩ := hc
            split at h
            · rename_i p ei
              obtain ⟨v, ev, rv⟩ := rr.get ei
              rw [← ok.hC]
              refine ⟨a, vs, ds, v, rfl, SqL.of hq, Reps.dp r.sub rr ed, fun z => ?_, c2, of_decide_eq_true c3, ev, h W H W.le_refl r _ rv⟩
              rw [z] at c1; cases c1
            · exact h.elim
          · exact h.elim
        · exact h.elim
      · exact h.elim
  · exact h.elim
def gOr (g g' : GCall) : GCall := fun us st => match us with
    | [_] => g us st
    | us => g' us st
/-- either of two calls -/
theorem RqCall.or {r r' : List V → Hp → VK → Prop} {g g' : GCall} (h : RqCall C E r g) (h' : RqCall C E r' g') : RqCall C E (fun xs H Q => r xs H Q ∨ r' xs H Q) (gOr g g') := by
  intro W st H us xs Q rl rs k
  unfold gOr at k
  split at k
  · exact .inl (h W st H _ xs Q rl rs k)
  · exact .inr (h' W st H _ xs Q rl rs k)
/-! ### sorted of a list of data -/
def encP (p : P) : PyData := (toD p).getD .none
def sortP (ps : List P) : List P := ps.mergeSort (PySem.W.dataLe false encP)
def sortableB (ds : List PyData) : Bool := (ds.all fun d => ds.all fun e => PySem.W.alike d e) && (ds.all fun d => match d with
  | .tuple (_ :: _) => true
  | _ => false) || ((ds.all fun d => ds.all fun e => PySem.W.alike d e) && ds.all fun d => match d with
  | .none => false
  | .tuple _ => false
  | _ => true)
theorem sortableB_ok {ds : List PyData} (h : sortableB ds = true) : PySem.W.AllAlike ds ∧ PySem.W.Sortable ds := by
  unfold sortableB at h
  rw [Bool.or_eq_true, Bool.and_eq_true, Bool.and_eq_true] at h
  rcases h with ⟨h1, h2⟩ | ⟨h1, h2⟩
  · refine ⟨fun d hd d' hd' => List.all_eq_true.mp (List.all_eq_true.mp h1 d hd) d' hd', .inl fun d hd => ?_⟩
    have := List.all_eq_true.mp h2 d hd
    split at this
    · exact ⟨_, _, rfl⟩
    · cases this
  · refine ⟨fun d hd d' hd' => List.all_eq_true.mp (List.all_eq_true.mp h1 d hd) d' hd', .inr fun d hd => ?_⟩
    have := List.all_eq_true.mp h2 d hd
    split at this
    · cases this
    · cases this
    · rename_i n1 n2
      exact ⟨n1, fun xs => n2 xs⟩
theorem toDs_enc : ∀ {ps : List P} {ds : List PyData}, toDs ps = some ds → ds = ps.map encP
  | [], ds, h => by simp [toDs] at h; subst h; rfl
  | p :: ps, ds, h => by
    unfold toDs at h
    cases e : toD p with
    | none => rw [e] at h; cases h
    | some d =>
      cases e2 : toDs ps with
      | none => rw [e, e2] at h; cases h
      | some es => rw [e, e2] at h; cases h; simp [encP, e, toDs_enc e2]
theorem depth_all {d : PyData} : ∀ {ds : List PyData}, d ∈ ds → d.depth ≤ PyData.depthAll ds
  | x :: xs, h => by
    unfold PyData.depthAll
    rcases List.mem_cons.mp h with rfl | h
    · exact Nat.le_max_left _ _
    · exact Nat.le_trans (depth_all h) (Nat.le_max_right _ _)
def rSortQ (C : QC) : List V → Hp → VK → Prop := fun xs H Q => ∃ (a : Addr) (vs : List V) (F : Hp) (ps : List P) (ds : List PyData), xs = [.ref a] ∧ H a = some (.lst vs) ∧ (∀ b o, F b = some o → H b = some o) ∧ Reps C F ps vs ∧ toDs ps = some ds ∧ sortableB ds = true ∧ PyData.depthAll ds ≤ 64 ∧
  ∀ p vs', H p = none → Reps C F (sortP ps) vs' → Q (.ref p) (upd H p (.lst vs'))
theorem each_of {F : Hp} : ∀ {ps : List P} {vs : List V} {us : List Value}, Reps C F ps vs → Vals vs us → PySem.W.EachIs (fun (u : Value) (p : P) => ∃ v, RelV v u ∧ Rep C F p v) us ps
  | _, _, _, .nil, .nil => .nil
  | _, _, _, .cons r t, .cons q k => .cons ⟨_, q, r⟩ (each_of t k)
theorem of_each {F : Hp} : ∀ {us : List Value} {ps : List P}, PySem.W.EachIs (fun (u : Value) (p : P) => ∃ v, RelV v u ∧ Rep C F p v) us ps → ∃ vs, Reps C F ps vs ∧ Vals vs us
  | _, _, .nil => ⟨[], .nil, .nil⟩
  | _, _, .cons ⟨v, q, r⟩ t => by
    obtain ⟨vs, a, b⟩ := of_each t
    exact ⟨v :: vs, .cons r a, .cons q b⟩
theorem cr_sortedQ (ok : Ok X C) : CallR X (.builtin "sorted") (rSortQ C) := by
  intro pins s σ H xs us Q I r h
  obtain ⟨a, vs, F, ps, ds, rfl, hq, hsub, rr, ed, hs, hdep, q⟩ := h
  obtain ⟨its, rv, hl, hz⟩ := I.list (SqL.of hq)
  rw [Vals.ref1 r]
  have hall : DpAll X.K H vs ds := by rw [← ok.hC]; exact Reps.dp hsub rr ed
  obtain ⟨as, hr⟩ := Dp.readsAll I ds vs its hall rv
  have ee := toDs_enc ed
  subst ee
  obtain ⟨hal, hso⟩ := sortableB_ok hs
  have hu := ok.hu
  refine PySem.W.sorted_data (bs := ps) (enc := encP) (R := fun (u : Value) (p : P) => ∃ v, RelV v u ∧ Rep C F p v) hl.isList (each_of rr rv) (PySem.W.readsAll_each encP hr) hal hso (by rw [rr.length]; exact hz)
    (fun b hb => by have := depth_all (List.mem_map_of_mem (f := encP) hb); omega) fun out ho eo => ?_
  obtain ⟨vs', r', rv'⟩ := of_each eo
  obtain ⟨ep, he'⟩ := PyProof.Rows.sortedAll_at s.heap its out.toArray
  have hlen : vs'.length ≤ sizeLine := by
    rw [rv'.length, ho, rr.length]; exact hz
  exact ⟨.ref _, upd H (s.heap.objs.size + 1) (.lst vs'), I.laid (t' := s.toks) (fun _ _ => PyProof.Rows.sortedAll_old) (Nat.le_succ _) ⟨hlen, out, ep, rv', he'⟩, rfl, q _ _ (I.hok.fresh (Nat.le_succ _)) r'⟩
def gSorted : GCall := fun us st => match us with
  | [u] => match lookP st u with
    | some (.lst ps) => match toDs ps with
      | some ds => if (sortableB ds && decide (PyData.depthAll ds ≤ 64)) = true then .ok (.p (.lst (sortP ps))) st else .stuck
      | none => .stuck
    | _ => .stuck
  | _ => .stuck
theorem rq_sorted (ok : Ok X C) : RqCall C E (rSortQ C) gSorted := by
  intro W st H us xs Q r rs h
  unfold gSorted at h
  split at h
  · rename_i u
    cases rs with
    | cons ru t =>
      cases t
      split at h
      · rename_i ps ep
        obtain ⟨a, vs, ey, hq, rr⟩ := look_lst r ru ep
        subst ey
        split at h
        · rename_i ds ed
          split at h
          · rename_i hc
            rw [Bool.and_eq_true] at hc
            refine ⟨a, vs, W.F, ps, ds, rfl, hq, r.sub, rr, ed, hc.1, of_decide_eq_true hc.2, fun p vs' hp r' => ?_⟩
            have le := (r.laidF hp (.lst vs')).1
            exact aft_laid r hp h _ (.lst upd_same (r'.mono le.f))
          · exact h.elim
        · exact h.elim
      · exact h.elim
  · exact h.elim
/-! ### int -/
def gIntOf : GCall := fun us st => match us with
  | [.p (.int i)] => .ok (.p (.int i)) st
  | [.p (.bl k)] => .ok (.p (.int (if k then 1 else 0))) st
  | [.p (.str a)] => match PySem.intText? a with
    | some n => if decide (a.length ≤ 640) = true then .ok (.p (.int n)) st else .stuck
    | none => .stuck
  | _ => .stuck
def rIntOf : List V → Hp → VK → Prop := fun xs H Q => ((∃ i, xs = [.int i] ∧ Q (.int i) H) ∨ ∃ k, xs = [.bl k] ∧ Q (.int (if k then 1 else 0)) H) ∨ ∃ a n, xs = [.str a] ∧ PySem.intText? a = some n ∧ a.length ≤ 640 ∧ Q (.int n) H
theorem cr_intQ : CallR X (.type "int") rIntOf := call_int1.or call_int_str
theorem rq_int1 : RqCall C E rIntOf gIntOf := by
  intro W st H us xs Q r rs h
  unfold gIntOf at h
  split at h
  · cases rs with
    | cons r1 t => cases t; cases r1; exact .inl (.inl ⟨_, rfl, h W H W.le_refl r _ (.int _)⟩)
  · cases rs with
    | cons r1 t => cases t; cases r1; exact .inl (.inr ⟨_, rfl, h W H W.le_refl r _ (.int _)⟩)
  · cases rs with
    | cons r1 t =>
      cases t; cases r1
      split at h
      · rename_i n en
        split at h
        · rename_i hl
          exact .inr ⟨_, n, rfl, en, of_decide_eq_true hl, h W H W.le_refl r _ (.int _)⟩
        · exact h.elim
      · exact h.elim
  · exact h.elim
/-! ### isinstance with a built-in type -/
def tyP : P → Option String
  | .non => some "NoneType"
  | .bl _ => some "bool"
  | .int _ => some "int"
  | .str _ => some "str"
  | .tup _ => some "tuple"
  | .lst _ => some "list"
  | _ => none
def tyS (st : Store) : S → Option String
  | .p (.dk _) => some "dict"
  | .p x => tyP x
  | .c n => match st[n]? with
    | some (.lst _) => some "list"
    | some (.dk _) => some "dict"
    | _ => none
theorem tyS_ok (r : RelSt C W st H) {u : S} {x : V} {T : String} (rx : RepS C W u x) (e : tyS st u = some T) : TyX C.K H x (.type T) := by
  cases u with
  | c n =>
    unfold tyS at e
    simp only at e
    split at e
    · rename_i xs es
      cases e
      obtain ⟨a, ea, ex⟩ := rx
      obtain ⟨hF, vs, eH, rv⟩ := r.cell n _ a es ea
      subst ex
      exact .base (.lst eH)
    · rename_i kvs es
      cases e
      obtain ⟨a, ea, ex⟩ := rx
      obtain ⟨hF, vs, eH, rv⟩ := r.cell n _ a es ea
      subst ex
      exact .base (.dK eH)
    · cases e
  | p q =>
    cases q <;> simp only [tyS, tyP] at e <;> cases e
    · cases rx; exact .base .non
    · cases rx; exact .base (.bl _)
    · cases rx; exact .base (.int _)
    · cases rx; exact .base (.str _)
    · cases rx with
      | tup q rr => exact .base (.tup (r.sub _ _ q))
    · cases rx with
      | lst q rr => exact .base (.lst (r.sub _ _ q))
    · cases rx with
      | dk q rr =>
        exact .fDict (r.sub _ _ q)
/-- isinstance(a, T) -/
def eIsT (T : String) (a : XE) : XE := fun env st => (a env st).bind fun u st => match tyS st u with
  | some S => match kitB S T with
    | some b => .ok (.p (.bl b)) st
    | none => .stuck
  | none => .stuck
variable {e a b c : Expr} {es rest : List Expr} {fa fb fc : XE} {pos p p2 : Pos} {x m : Str} {f : XA}
theorem qe_isT {Ty : String} (ok : Ok X C) (gl : Gl X "isinstance") (hm : X.mg "isinstance" = none) (gl2 : Gl X x) (hm2 : X.mg x = none) (hv : bootBuiltins x = some (.type Ty)) (ha : QE X C E a fa) (hn : x ≠ "__name__" := by decide) (hdb : (x == ("__debug__" : Str)) = false := by decide)
    (he : starEach [a, .Name x p2] X.env = (false, eval a X.env) :: starEach [.Name x p2] X.env := by rfl) (he2 : starEach [.Name x p2] X.env = (false, eval (.Name x p2) X.env) :: starEach [] X.env := by rfl) (hpl : (backTo pos (starEach [.Name x p2] X.env)).any (·.1) = false := by rfl) :
    QE X C E (.Call (.Name "isinstance" p) [a, .Name x p2] [] pos) (eIsT Ty fa) := by
  refine (pe_callB call_isi gl hm (by decide +kernel) (pa_cons ha (pa_cons (pe_bltn gl2 hm2 hv (v := .ty Ty) rfl hn hdb) pa_nil he2) he) (he := he) (hpl := hpl)).imp fun σ H Q h => ?_
  obtain ⟨W, env, st, rs, n, h⟩ := h
  refine T.of rs n h fun W1 u st1 H1 y _ r1 n1 rx h1 => ?_
  split at h1
  · rename_i S eS
    split at h1
    · rename_i b eb
      have ty := tyS_ok r1 rx eS
      rw [ok.hC] at ty
      exact ⟨y, _, _, _, b, rfl, .ty Ty, ty, kit_ty eb, h1 W1 H1 W1.le_refl r1 _ (.bl _)⟩
    · exact h1.elim
  · exact h1.elim
/-! ### methods of lists -/
abbrev GMt := S → List S → Store → R S
def RqMt (C : QC) (E : XK) (K : PySem.W.Frag) (T : String) (r : V → List V → Hp → VK → Prop) (ty : Store → S → Bool) (g : GMt) : Prop :=
  (∀ (W : Wd) (st : Store) (H : Hp) (u : S) (x : V), RelSt C W st H → RepS C W u x → ty st u = true → tyV K T x H) ∧
  ∀ (W : Wd) (st : Store) (H : Hp) (u : S) (us : List S) (x : V) (xs : List V) (Q : VK), RelSt C W st H → RepS C W u x → RepSs C W us xs → Aft C E W (g u us st) (fun W' z _ H' => ∀ w, RepS C W' z w → Q w H') → r x xs H Q
def eMt (ty : Store → S → Bool) (g : GMt) (o : XE) (a : XA) : XE := fun env st => (o env st).bind fun u st => if ty st u = true then (a env st).bind fun us st => g u us st else .stuck
theorem qe_mt {Ty id : String} {r : V → List V → Hp → VK → Prop} {ty : Store → S → Bool} {g : GMt} {o : Expr} {fo : XE} {name : Str} {apos cpos : Pos} (pa : PlainAttrs Ty) (slot : Slot Ty name id) (hty : typeOf (.builtin id) = pure (.type "method_descriptor")) (hm : MtR X id r) (hg : RqMt C E X.K Ty r ty g)
    (ho : QE X C E o fo) (ha : QA X C E (e :: es) f) (hbase : attributeBase o name X.env (eval o X.env) = eval o X.env := by rfl)
    (hfew : ((backTo cpos (starEach (e :: es) X.env)).all (fun x => !x.1) && (backToKw cpos (keywordEach [] X.env)).all (fun x => x.1.isSome)
      && decide ((e :: es).length + ([] : List Keyword).length + (if ([] : List Keyword).isEmpty then 0 else 1) < 30)) = true := by rfl)
    (hline : (apos.endLine == cpos.line) = true := by rfl) (hs : starEach (e :: es) X.env = (false, eval e X.env) :: starEach es X.env := by rfl) (hplain : (backTo cpos (starEach es X.env)).any (·.1) = false := by rfl) :
    QE X C E (.Call (.Attribute o name apos) (e :: es) [] cpos) (eMt ty g fo f) := by
  refine (pe_bm pa slot hty hm ho ha hbase hfew hline hs hplain).imp fun σ H Q h => ?_
  obtain ⟨W, env, st, rs, n, h⟩ := h
  refine T.of rs n h fun W1 u st1 H1 y _ r1 n1 ry h1 => ?_
  split at h1
  · rename_i ht
    refine ⟨hg.1 W1 st1 H1 u y r1 ry ht, TAr.of r1 n1 h1 fun W2 us st2 H2 ys le2 r2 n2 rys h2 => ?_⟩
    exact hg.2 W2 st2 H2 u us y ys Q r2 (ry.mono le2) rys h2
  · exact h1.elim
theorem qe_mt0 {Ty id : String} {r : V → List V → Hp → VK → Prop} {ty : Store → S → Bool} {g : GMt} {o : Expr} {fo : XE} {name : Str} {apos cpos : Pos} (pa : PlainAttrs Ty) (slot : Slot Ty name id) (hty : typeOf (.builtin id) = pure (.type "method_descriptor")) (hm : MtR X id r) (hg : RqMt C E X.K Ty r ty g)
    (ho : QE X C E o fo) (hbase : attributeBase o name X.env (eval o X.env) = eval o X.env := by rfl) (hline : (apos.endLine == cpos.line) = true := by rfl) :
    QE X C E (.Call (.Attribute o name apos) [] [] cpos) (eMt ty g fo aNil) := by
  refine (pe_bm0 pa slot hty hm ho hbase hline).imp fun σ H Q h => ?_
  obtain ⟨W, env, st, rs, n, h⟩ := h
  refine T.of rs n h fun W1 u st1 H1 y _ r1 n1 ry h1 => ?_
  split at h1
  · rename_i ht
    have h2 : Aft C E W1 (g u [] st1) (fun W' z _ H' => ∀ w, RepS C W' z w → Q w H') := h1
    exact ⟨hg.1 W1 st1 H1 u y r1 ry ht, hg.2 W1 st1 H1 u [] y [] Q r1 ry .nil h2⟩
  · exact h1.elim
/-- it is a list -/
def isLst (st : Store) : S → Bool
  | .p (.lst _) => true
  | .p (.scr _) => true
  | .c n => match st[n]? with
    | some (.lst _) => true
    | _ => false
  | _ => false
theorem isLst_ok (ok : Ok X C) (W : Wd) (st : Store) (H : Hp) (u : S) (x : V) (r : RelSt C W st H) (rx : RepS C W u x) (h : isLst st u = true) : tyV X.K "list" x H := by
  cases u with
  | c n =>
    unfold isLst at h
    simp only at h
    split at h
    · rename_i xs es
      obtain ⟨a, ea, ex⟩ := rx
      obtain ⟨hF, vs, eH, rv⟩ := r.cell n _ a es ea
      subst ex
      exact .inl ⟨rfl, vs, SqL.of eH⟩
    · cases h
  | p q =>
    cases q <;> simp only [isLst] at h <;> try cases h
    · cases rx with
      | lst q rr => exact .inl ⟨rfl, _, SqL.of (r.sub _ _ q)⟩
    · cases rx with
      | scr q => exact .inl ⟨rfl, _, by rw [← ok.hC]; exact sqL_le r.sub q⟩
def gAppend : GMt := fun u us st => match u, us with
  | .c n, [v] => match st[n]? with
    | some (.lst xs) => if decide (xs.length < 16777216) = true then .ok (.p .non) (st.set n (.lst (xs ++ [v]))) else .stuck
    | _ => .stuck
  | _, _ => .stuck
theorem rq_append (ok : Ok X C) : RqMt C E X.K "list" rAppend isLst gAppend := by
  refine ⟨isLst_ok ok, fun W st H u us x xs Q r ru rs h => ?_⟩
  unfold gAppend at h
  split at h
  · rename_i n v
    cases rs with
    | cons rv t =>
      cases t
      rename_i y
      split at h
      · rename_i zs es
        split at h
        · rename_i hl
          obtain ⟨a, ea, ex⟩ := ru
          obtain ⟨hF, vs, eH, rr⟩ := r.cell n _ a es ea
          refine ⟨a, vs, y, ex, rfl, eH, by rw [sizeLine_is, ← rr.length]; exact of_decide_eq_true hl, ?_⟩
          refine h W _ W.le_refl (r.write es ea hF ⟨hF, vs ++ [y], upd_same, RepSs.append rr (.cons rv .nil)⟩) _ .non
        · exact h.elim
      · exact h.elim
  · exact h.elim
/-- extend by a list -/
def gExtend : GMt := fun u us st => match u, us with
  | .c n, [v] => match st[n]?, v with
    | some (.lst xs), .p (.lst ys) => if decide (xs.length + ys.length ≤ 16777216) = true then .ok (.p .non) (st.set n (.lst (xs ++ ys.map S.p))) else .stuck
    | some (.lst xs), .c k => match st[k]? with
      | some (.lst ys) => if decide (xs.length + ys.length ≤ 16777216) = true then .ok (.p .non) (st.set n (.lst (xs ++ ys))) else .stuck
      | _ => .stuck
    | _, _ => .stuck
  | _, _ => .stuck
theorem rq_extend (ok : Ok X C) : RqMt C E X.K "list" rExtend isLst gExtend := by
  refine ⟨isLst_ok ok, fun W st H u us x xs Q r ru rs h => ?_⟩
  unfold gExtend at h
  split at h
  · rename_i n v
    cases rs with
    | cons rv t =>
      cases t
      rename_i y
      obtain ⟨a, ea, ex⟩ := ru
      split at h
      · rename_i zs ys es
        obtain ⟨hF, vs, eH, rr⟩ := r.cell n _ a es ea
        split at h
        · rename_i hl
          cases rv with
          | lst q rr2 =>
            rename_i b ws
            refine ⟨a, b, vs, ws, ex, rfl, eH, r.sub _ _ q, by rw [sizeLine_is, ← rr.length, ← rr2.length]; exact of_decide_eq_true hl, ?_⟩
            exact h W _ W.le_refl (r.write es ea hF ⟨hF, vs ++ ws, upd_same, RepSs.append rr (RepSs.of rr2)⟩) _ .non
        · exact h.elim
      · rename_i zs k es
        obtain ⟨hF, vs, eH, rr⟩ := r.cell n _ a es ea
        split at h
        · rename_i ys ek
          split at h
          · rename_i hl
            obtain ⟨b, eb, ey⟩ := rv
            obtain ⟨hF2, ws, eH2, rr2⟩ := r.cell k _ b ek eb
            refine ⟨a, b, vs, ws, ex, by rw [ey], eH, eH2, by rw [sizeLine_is, ← rr.length, ← rr2.length]; exact of_decide_eq_true hl, ?_⟩
            exact h W _ W.le_refl (r.write es ea hF ⟨hF, vs ++ ws, upd_same, RepSs.append rr rr2⟩) _ .non
          · exact h.elim
        · exact h.elim
      · exact h.elim
  · exact h.elim
def gPop : GMt := fun u us st => match u, us with
  | .c n, [] => match st[n]? with
    | some (.lst xs) => match xs[xs.length - 1]? with
      | some y => .ok y (st.set n (.lst xs.dropLast))
      | none => .stuck
    | _ => .stuck
  | _, _ => .stuck
theorem RepSs.dropLast {ss : List S} {vs : List V} (h : RepSs C W ss vs) : RepSs C W ss.dropLast vs.dropLast := by
  induction h with
  | nil => exact .nil
  | cons a t ih =>
    cases t with
    | nil => exact .nil
    | cons b t => exact .cons a ih
theorem rq_pop (ok : Ok X C) : RqMt C E X.K "list" rPop isLst gPop := by
  refine ⟨isLst_ok ok, fun W st H u us x xs Q r ru rs h => ?_⟩
  unfold gPop at h
  split at h
  · rename_i n
    cases rs
    split at h
    · rename_i zs es
      split at h
      · rename_i y ey
        obtain ⟨a, ea, ex⟩ := ru
        obtain ⟨hF, vs, eH, rr⟩ := r.cell n _ a es ea
        obtain ⟨v, ev, rv⟩ := rr.get ey
        refine ⟨a, vs, v, ex, rfl, eH, by rw [← rr.length]; exact ev, ?_⟩
        exact h W _ W.le_refl (r.write es ea hF ⟨hF, vs.dropLast, upd_same, rr.dropLast⟩) _ rv
      · exact h.elim
    · exact h.elim
  · exact h.elim
end
end Q

set_option Elab.async false
set_option linter.all false
set_option maxRecDepth 100000
set_option maxHeartbeats 2000000
/-! Q11: objects: attributes, slots, methods, properties, constructors -/
namespace Q
open PySem L2 PySem.Spec PyProof.Rows
section
variable {X : Cx} {C : QC} {E : XK} {W : Wd} {st : Store} {H : Hp}
def putFS {α : Type} (f : Str) (v : α) : List (Str × α) → List (Str × α)
  | [] => [(f, v)]
  | (g, x) :: r => if g = f then (g, v) :: r else (g, x) :: putFS f v r
theorem lookup_cons' {α : Type} (f g : Str) (y : α) (fs : List (Str × α)) : ((f, y) :: fs).lookup g = if g = f then some y else fs.lookup g := by
  by_cases h : g = f
  · subst h; simp [List.lookup]
  · have e : (g == f) = false := by simpa using h
    rw [if_neg h]
    simp [List.lookup, e]
theorem lookup_zip {f : Str} : ∀ {fs : List (Str × S)} {vs : List V} {s : S}, RepSs C W (fs.map (·.2)) vs → fs.lookup f = some s → ∃ v, (zipV fs vs).lookup f = some v ∧ RepS C W s v
  | [], _, _, .nil, e => by simp at e
  | (g, x) :: r, v :: vs, s, .cons rx rt, e => by
    rw [lookup_cons'] at e
    show ∃ u, ((g, v) :: zipV r vs).lookup f = some u ∧ _
    rw [lookup_cons']
    by_cases h : f = g
    · rw [if_pos h] at e ⊢; cases e; exact ⟨v, rfl, rx⟩
    · rw [if_neg h] at e ⊢; exact lookup_zip rt e
theorem lookup_zip_none {f : Str} : ∀ {fs : List (Str × S)} {vs : List V}, fs.lookup f = none → (zipV fs vs).lookup f = none
  | [], _, _ => by simp [zipV]
  | _ :: _, [], _ => by simp [zipV]
  | (g, x) :: r, v :: vs, e => by
    rw [lookup_cons'] at e
    show ((g, v) :: zipV r vs).lookup f = none
    rw [lookup_cons']
    by_cases h : f = g
    · rw [if_pos h] at e; cases e
    · rw [if_neg h] at e ⊢; exact lookup_zip_none e
theorem put_zip {f : Str} {s : S} {y : V} (ry : RepS C W s y) : ∀ {fs : List (Str × S)} {vs : List V}, RepSs C W (fs.map (·.2)) vs → ∃ vs', putF f y (zipV fs vs) = zipV (putFS f s fs) vs' ∧ RepSs C W ((putFS f s fs).map (·.2)) vs'
  | [], _, .nil => ⟨[y], rfl, .cons ry .nil⟩
  | (g, x) :: r, v :: vs, .cons rx rt => by
    show ∃ vs', putF f y ((g, v) :: zipV r vs) = zipV (if g = f then (g, s) :: r else (g, x) :: putFS f s r) vs' ∧ RepSs C W ((if g = f then (g, s) :: r else (g, x) :: putFS f s r).map (·.2)) vs'
    unfold putF
    by_cases h : g = f
    · rw [if_pos h, if_pos h]; exact ⟨y :: vs, rfl, .cons ry rt⟩
    · rw [if_neg h, if_neg h]
      obtain ⟨vs', e, rr⟩ := put_zip ry rt
      exact ⟨v :: vs', by rw [e]; rfl, .cons rx rr⟩
theorem zipV_len {κ α : Type} : ∀ {kvs : List (κ × α)} {vs : List V}, (zipV kvs vs).length ≤ kvs.length
  | [], _ => by simp [zipV]
  | _ :: _, [] => by simp [zipV]
  | p :: r, v :: vs => by simp [zipV, zipV_len (kvs := r) (vs := vs)]

/-- the fields of an object -/
def fldS (st : Store) : S → Option (Nat × List (Str × S))
  | .p (.obj c fs) => some (c, fs.map fun p => (p.1, S.p p.2))
  | .c n => match st[n]? with
    | some (.obj c fs) => some (c, fs)
    | _ => none
  | _ => none
theorem fldS_ok (r : RelSt C W st H) {u : S} {x : V} {c : Nat} {fs : List (Str × S)} (rx : RepS C W u x) (e : fldS st u = some (c, fs)) : ∃ a dx vs, x = .ref a ∧ H a = some (.ins (C.ca c) dx (zipV fs vs)) ∧ RepSs C W (fs.map (·.2)) vs := by
  cases u with
  | c n =>
    unfold fldS at e
    simp only at e
    split at e
    · rename_i c' fs' es
      cases e
      obtain ⟨a, ea, ex⟩ := rx
      obtain ⟨hF, dx, vs, eH, _, rr⟩ := r.cell n _ a es ea
      exact ⟨a, dx, vs, ex, eH, rr⟩
    · cases e
  | p q =>
    cases q <;> simp only [fldS] at e <;> cases e
    cases rx with
    | obj q d rr =>
      have e : ∀ l : List (Str × P), (l.map fun p => (p.1, S.p p.2)).map (·.2) = (l.map (·.2)).map S.p := by
        intro l; induction l with
        | nil => rfl
        | cons a t ih => simp
      have q2 := r.sub _ _ q
      rw [← zipV_p] at q2
      exact ⟨_, _, _, rfl, q2, by rw [e]; exact RepSs.of rr⟩
/-- what the text says of a field's name in the classes -/
def FldOk (K : PySem.W.Frag) (C : QC) (cs : List Nat) (f : Str) : Prop := ∀ c ∈ cs, Cls K (C.ca c) ∧ NoAttr K (C.ca c) f
def eFld (cs : List Nat) (f : Str) (a : XE) : XE := fun env st => (a env st).bind fun u st => match fldS st u with
  | some (c, fs) => if cs.contains c = true then match fs.lookup f with
      | some s => .ok s st
      | none => .stuck
    else .stuck
  | none => .stuck
variable {e a b c o value : Expr} {es rest : List Expr} {fa fb fc fo fv : XE} {pos p p2 pos' apos cpos : Pos} {x m f : Str} {t : XA}
theorem qe_fld {cs : List Nat} (ok : Ok X C) (hc : FldOk X.K C cs f) (ha : QE X C E e fa) (hb : attributeBase e f X.env (eval e X.env) = eval e X.env := by rfl) : QE X C E (.Attribute e f pos) (eFld cs f fa) := by
  refine (pe_fld ha hb).imp fun σ H Q h => ?_
  obtain ⟨W, env, st, rs, n, h⟩ := h
  refine T.of rs n h fun W1 u st1 H1 y _ r1 n1 ry h1 => ?_
  split at h1
  · rename_i c fs ef
    split at h1
    · rename_i hcs
      split at h1
      · rename_i s es
        obtain ⟨a, dx, vs, ex, eH, rr⟩ := fldS_ok r1 ry ef
        obtain ⟨v, ev, rv⟩ := lookup_zip rr es
        have := hc c (by simpa using hcs)
        exact ⟨a, _, dx, _, v, ex, eH, this.1, this.2, ev, h1 W1 H1 W1.le_refl r1 v rv⟩
      · exact h1.elim
    · exact h1.elim
  · exact h1.elim
/-- the slots of an object -/
def sltS (st : Store) : S → Option (Nat × List S)
  | .p (.sob c vs) => some (c, vs.map S.p)
  | .c n => match st[n]? with
    | some (.slt c xs) => some (c, xs)
    | _ => none
  | _ => none
theorem sltS_ok (r : RelSt C W st H) {u : S} {x : V} {c : Nat} {xs : List S} (rx : RepS C W u x) (e : sltS st u = some (c, xs)) : ∃ a dx vs, x = .ref a ∧ SlX.Slt H a (C.ca c) dx (permO vs) ∧ RepSs C W xs vs := by
  cases u with
  | c n =>
    unfold sltS at e
    simp only at e
    split at e
    · rename_i c' fs' es
      cases e
      obtain ⟨a, ea, ex⟩ := rx
      obtain ⟨hF, dx, vs, eH, ed, rr⟩ := r.cell n _ a es ea
      exact ⟨a, dx, vs, ex, .inr ⟨eH, r.sub _ _ ed⟩, rr⟩
    · cases e
  | p q =>
    cases q <;> simp only [sltS] at e <;> cases e
    cases rx with
    | sob q d rr => exact ⟨_, _, _, rfl, .inr ⟨r.sub _ _ q, r.sub _ _ d⟩, RepSs.of rr⟩
def eSlt (c i : Nat) (a : XE) : XE := fun env st => (a env st).bind fun u st => match sltS st u with
  | some (c', xs) => if c' = c then match xs[i]? with
      | some s => .ok s st
      | none => .stuck
    else .stuck
  | none => .stuck
theorem qe_slt {c i : Nat} {q : Addr} (hc : SlX.SCls X.K (C.ca c)) (ht : SlX.Slot1 X.K (C.ca c) f q (slPerm i)) (hi : slPerm i < 16) (ha : QE X C E e fa) (hb : attributeBase e f X.env (eval e X.env) = eval e X.env := by rfl) : QE X C E (.Attribute e f pos) (eSlt c i fa) := by
  refine (SlX.pe_sl ha hb).imp fun σ H Q h => ?_
  obtain ⟨W, env, st, rs, n, h⟩ := h
  refine T.of rs n h fun W1 u st1 H1 y _ r1 n1 ry h1 => ?_
  split at h1
  · rename_i c' xs ef
    split at h1
    · rename_i hcs
      subst hcs
      split at h1
      · rename_i s es
        obtain ⟨a, dx, vs, ex, hs, rr⟩ := sltS_ok r1 ry ef
        obtain ⟨v, ev, rv⟩ := rr.get es
        exact ⟨a, _, dx, q, _, slPerm i, v, ex, hs, hc, ht, permO_get ev hi, h1 W1 H1 W1.le_refl r1 v rv⟩
      · exact h1.elim
    · exact h1.elim
  · exact h1.elim
/-! ### stores -/
def sFldSet (cs : List Nat) (f : Str) (o v : XE) : XS := fun env st => (v env st).bind fun y st => (o env st).bind fun u st => match u with
  | .c n => match st[n]? with
    | some (.obj c fs) => if (cs.contains c && decide (fs.length < 1000)) = true then .ok (.nx env) (st.set n (.obj c (putFS f y fs))) else .stuck
    | _ => .stuck
  | _ => .stuck
theorem qs_fld {cs : List Nat} (ok : Ok X C) (hc : FldOk X.K C cs f) (ho : QE X C E o fo) (hv : QE X C E value fv) (hs : swapsWith value (some (.Attribute o f pos')) pos.line X.env = pure false := by rfl) : QS X C E (.Assign [.Attribute o f pos'] value pos) (sFldSet cs f fo fv) := by
  refine (ps_fld ho hv hs).imp fun D σ H h => ?_
  obtain ⟨W, env, st, rs, n, h⟩ := h
  refine T.of rs n h fun W1 y st1 H1 yv _ r1 n1 ry h1 => T.of r1 n1 h1 fun W2 u st2 H2 uv le2 r2 n2 ru h2 => ?_
  split at h2
  · rename_i k
    split at h2
    · rename_i c fs es
      split at h2
      · rename_i hcs
        rw [Bool.and_eq_true] at hcs
        obtain ⟨a, ea, ex⟩ := ru
        obtain ⟨hF, dx, vs, eH, ed, rr⟩ := r2.cell k _ a es ea
        obtain ⟨vs', ep, rr'⟩ := put_zip (f := f) (ry.mono le2) rr
        have := hc c (by simpa using hcs.1)
        refine ⟨a, _, dx, _, ex, eH, this.1, this.2, Nat.lt_of_le_of_lt zipV_len (of_decide_eq_true hcs.2), ?_⟩
        rw [ep]
        exact h2 W2 _ W2.le_refl (r2.write es ea hF ⟨hF, dx, vs', upd_same, ed, rr'⟩) _ n2
      · exact h2.elim
    · exact h2.elim
  · exact h2.elim
def sSltSet (c i : Nat) (o v : XE) : XS := fun env st => (v env st).bind fun y st => (o env st).bind fun u st => match u with
  | .c n => match st[n]? with
    | some (.slt c' xs) => if (decide (c' = c) && decide (xs.length = i)) = true then .ok (.nx env) (st.set n (.slt c (xs ++ [y]))) else .stuck
    | _ => .stuck
  | _ => .stuck
theorem upd_self {H : Hp} {a : Addr} {o : HO} (h : H a = some o) : upd H a o = H := by
  funext b
  by_cases hb : b = a
  · rw [hb, upd_same, h]
  · rw [upd_ne hb]
theorem qs_slt {c i : Nat} {q : Addr} (hc : SlX.SCls X.K (C.ca c)) (ht : SlX.Slot1 X.K (C.ca c) f q (slPerm i)) (hi : slPerm i < 16) (ho : QE X C E o fo) (hv : QE X C E value fv) (hs : swapsWith value (some (.Attribute o f pos')) pos.line X.env = pure false := by rfl) : QS X C E (.Assign [.Attribute o f pos'] value pos) (sSltSet c i fo fv) := by
  refine (SlX.ps_sl ho hv hs).imp fun D σ H h => ?_
  obtain ⟨W, env, st, rs, n, h⟩ := h
  refine T.of rs n h fun W1 y st1 H1 yv _ r1 n1 ry h1 => T.of r1 n1 h1 fun W2 u st2 H2 uv le2 r2 n2 ru h2 => ?_
  split at h2
  · rename_i k
    split at h2
    · rename_i c' xs es
      split at h2
      · rename_i hcs
        rw [Bool.and_eq_true] at hcs
        have e1 := of_decide_eq_true hcs.1
        subst e1
        obtain ⟨a, ea, ex⟩ := ru
        obtain ⟨hF, dx, vs, eH, ed, rr⟩ := r2.cell k _ a es ea
        refine ⟨a, _, dx, q, _, slPerm i, ex, .inr ⟨eH, r2.sub _ _ ed⟩, hc, ht, ?_⟩
        have e2 : i = vs.length := by rw [← rr.length]; exact (of_decide_eq_true hcs.2).symm
        subst e2
        have e3 : SlX.slH H2 a (C.ca c') dx (SlX.putS (slPerm vs.length) yv (permO vs)) = upd H2 a (SlX.SlO a (C.ca c') dx (permO (vs ++ [yv]))) := by
          unfold SlX.slH
          rw [upd_self (r2.sub _ _ ed), permO_put hi]
        rw [e3]
        exact h2 W2 _ W2.le_refl (r2.write es ea hF ⟨hF, dx, vs ++ [yv], upd_same, ed, RepSs.append rr (.cons (ry.mono le2) .nil)⟩) _ n2
      · exact h2.elim
    · exact h2.elim
  · exact h2.elim
end
/-! ### a def at an address -/
structure FD (P : Program) (w : World) (K : PySem.W.Frag) (mg : Str → Option Value) (base : Heap) (C : QC) (k : Nat) (f : Addr) (n : Nat) (g : GCall) : Prop where
  ex : ∃ (fd : FuncData) (ps : List Str), ps.length = n ∧ FnOk P w K mg base CX0 k f fd ps (sp0 n C g) ∧ Binds K fd ps []
section
variable {P : Program} {w : World} {K : PySem.W.Frag} {mg : Str → Option Value} {base : Heap} {C : QC}
theorem fd0 {x qual : Str} {st0 : Stmt} {f0 : Addr} {fd : FuncData} {N ps : List Str} {k : Nat} {fb : XS} {g : GCall} (F : Fun K x qual st0 f0 fd) (S : FnScope N ps (defScope st0)) (hb : Binds K fd ps [])
    (body : ∀ (cdv : Value) (A : Around) (outer : List PySem.Env) (s : Shared) (H : Hp) (E : XK), Room k (A.deeper (envOfC qual (defScope st0) s.heap.objs.size f0 cdv)) → QSs (cxOf CX0 P w K mg base N qual (defScope st0) f0 cdv A outer s H E).nox C E0 (defBody st0) fb)
    (sim : Sim ps.length N.length g fb) : FD P w K mg base C (k + 1) f0 ps.length g := by
  refine ⟨fd, ps, rfl, ?_, hb⟩
  refine F.ok S (fun vs H Q E h => ?_) (fun cdv A outer s H vs Q E hr h => ?_)
  · obtain ⟨W, st, us, r, rx, hl, _⟩ := h
    rw [← rx.length, hl]
  · obtain ⟨W, st, us, r, rx, hl, h⟩ := h
    exact ⟨_, body cdv A outer s H E hr, body_reads sim r rx hl h⟩
theorem FD.fs {k n : Nat} {f : Addr} {x : Str} {g : GCall} (F : FD P w K mg base C k f n g) (hm : mg x = some (.ref f)) (hk : PySem.W.keepIn K (.ref f) = true) : FS P w K mg base C k x n g := by
  obtain ⟨fd, ps, hl, G, b⟩ := F.ex
  exact ⟨f, fd, ps, hl, G, hm, hk, b⟩
theorem FD.raw {k n : Nat} {f : Addr} {g : GCall} (F : FD P w K mg base C k f n g) : FnR P w K mg base CX0 k f (sp0 n C g) := by
  obtain ⟨fd, ps, hl, G, b⟩ := F.ex
  have := G.raw b .nil
  exact this.imp fun vs H Q E h => by rw [List.append_nil]; exact h
end
/-! ### methods and properties -/
/-- o.m(..): c the class, g what the def says (the object first) -/
def eMet (c n : Nat) (m : Str) (g : GCall) (o : XE) (a : XA) : XE := fun env st => (o env st).bind fun u st => match fldS st u with
  | some (c', fs) => if (decide (c' = c) && (fs.lookup m).isNone) = true then (a env st).bind fun us st => if us.length + 1 = n then (g (u :: us) st).nox else .stuck else .stuck
  | none => .stuck
def eMetS (c n : Nat) (g : GCall) (o : XE) (a : XA) : XE := fun env st => (o env st).bind fun u st => match sltS st u with
  | some (c', _) => if c' = c then (a env st).bind fun us st => if us.length + 1 = n then (g (u :: us) st).nox else .stuck else .stuck
  | none => .stuck
section
variable {X : Cx} {C : QC} {E : XK} {e o : Expr} {es : List Expr} {fo : XE} {t : XA} {pos p apos : Pos} {m : Str} {k j n c : Nat} {q : Addr} {g : GCall}
theorem fld_same {st : Store} {u : S} {c c' : Nat} {fs : List (Str × S)} (h : fldS st u = some (c', fs)) (e : (decide (c' = c) && (fs.lookup m).isNone) = true) : c' = c ∧ fs.lookup m = none := by
  rw [Bool.and_eq_true] at e
  exact ⟨of_decide_eq_true e.1, by simpa using e.2⟩
theorem qe_met {pl : Sem Bool} (F : FD X.prog X.w X.K X.mg X.base C k q n g) (hc : Cls X.K (C.ca c)) (hm : Meth X.K (C.ca c) m q) (hr : Room j X.A) (hk : k ≤ j) (ho : QE X C E o fo) (ha : QA X C E (e :: es) t)
    (hst : starEach (e :: es) X.env = (false, eval e X.env) :: starEach es X.env := by rfl) (hpl : (backTo pos (starEach es X.env)).any (·.1) = false := by rfl)
    (ht : eval (.Call (.Attribute o m apos) (e :: es) [] pos) X.env = (do
      let ov ← eval o X.env
      standAt apos.atName
      let (f, first) ← holding [ov] (getMethod ov m pl)
      callWith pos f first (backTo pos (starEach (e :: es) X.env)) (backToKw pos (keywordEach [] X.env))) := by rfl) : QE X C E (.Call (.Attribute o m apos) (e :: es) [] pos) (eMet c n m g fo t) := by
  obtain ⟨fd, ps, _, G, b⟩ := F.ex
  refine (pe_meth (pl := pl) ho hc hm G (hr.mono hk) b .nil pass0 ha hst hpl ht).imp fun σ H Q h => ?_
  obtain ⟨W, env, st, r, nv, h⟩ := h
  refine T.of r nv h fun W1 u st1 H1 x le1 r1 n1 rx h1 => ?_
  split at h1
  · rename_i c' fs ef
    split at h1
    · rename_i hcs
      obtain ⟨e1, e2⟩ := fld_same ef hcs
      subst e1
      obtain ⟨a, dx, vs, ex, eH, rr⟩ := fldS_ok r1 rx ef
      refine ⟨a, dx, _, ex, eH, lookup_zip_none e2, TAr.of r1 n1 h1 fun W2 us st2 H2 xs le2 r2 n2 rxs h2 => ?_⟩
      split at h2
      · rename_i hl
        rw [List.append_nil]
        exact ⟨W2, st2, u :: us, r2, .cons (rx.mono le2) rxs, hl, h2.nox⟩
      · exact h2.elim
    · exact h1.elim
  · exact h1.elim
theorem qe_met0 {pl : Sem Bool} (F : FD X.prog X.w X.K X.mg X.base C k q n g) (hc : Cls X.K (C.ca c)) (hm : Meth X.K (C.ca c) m q) (hr : Room j X.A) (hk : k ≤ j) (ho : QE X C E o fo)
    (ht : eval (.Call (.Attribute o m apos) [] [] pos) X.env = (do
      let ov ← eval o X.env
      standAt apos.atName
      let (f, first) ← holding [ov] (getMethod ov m pl)
      callWith pos f first (backTo pos (starEach [] X.env)) (backToKw pos (keywordEach [] X.env))) := by rfl) : QE X C E (.Call (.Attribute o m apos) [] [] pos) (eMet c n m g fo aNil) := by
  obtain ⟨fd, ps, _, G, b⟩ := F.ex
  refine (pe_meth0 (pl := pl) ho hc hm G (hr.mono hk) b .nil pass0 ht).imp fun σ H Q h => ?_
  obtain ⟨W, env, st, r, nv, h⟩ := h
  refine T.of r nv h fun W1 u st1 H1 x le1 r1 n1 rx h1 => ?_
  split at h1
  · rename_i c' fs ef
    split at h1
    · rename_i hcs
      obtain ⟨e1, e2⟩ := fld_same ef hcs
      subst e1
      obtain ⟨a, dx, vs, ex, eH, rr⟩ := fldS_ok r1 rx ef
      have h2 : Aft C E W1 (if ([] : List S).length + 1 = n then (g (u :: []) st1).nox else .stuck) (fun W' v _ H' => ∀ x, RepS C W' v x → Q x H') := h1
      refine ⟨a, dx, _, ex, eH, lookup_zip_none e2, ?_⟩
      show sp0 n C g (x :: ([] ++ [])) H1 Q E0
      split at h2
      · rename_i hl
        exact ⟨W1, st1, [u], r1, .cons rx .nil, hl, h2.nox⟩
      · exact h2.elim
    · exact h1.elim
  · exact h1.elim
theorem qe_metS {pl : Sem Bool} (F : FD X.prog X.w X.K X.mg X.base C k q n g) (hc : SlX.SCls X.K (C.ca c)) (hm : Meth X.K (C.ca c) m q) (hr : Room j X.A) (hk : k ≤ j) (ho : QE X C E o fo) (ha : QA X C E (e :: es) t)
    (hst : starEach (e :: es) X.env = (false, eval e X.env) :: starEach es X.env := by rfl) (hpl : (backTo pos (starEach es X.env)).any (·.1) = false := by rfl)
    (ht : eval (.Call (.Attribute o m apos) (e :: es) [] pos) X.env = (do
      let ov ← eval o X.env
      standAt apos.atName
      let (f, first) ← holding [ov] (getMethod ov m pl)
      callWith pos f first (backTo pos (starEach (e :: es) X.env)) (backToKw pos (keywordEach [] X.env))) := by rfl) : QE X C E (.Call (.Attribute o m apos) (e :: es) [] pos) (eMetS c n g fo t) := by
  refine (SlX.pe_methSl (pl := pl) ho hc hm F.raw (hr.mono hk) pass0 ha hst hpl ht).imp fun σ H Q h => ?_
  obtain ⟨W, env, st, r, nv, h⟩ := h
  refine T.of r nv h fun W1 u st1 H1 x le1 r1 n1 rx h1 => ?_
  split at h1
  · rename_i c' xs ef
    split at h1
    · rename_i hcs
      subst hcs
      obtain ⟨a, dx, vs, ex, hs, rr⟩ := sltS_ok r1 rx ef
      refine ⟨a, dx, _, ex, hs, TAr.of r1 n1 h1 fun W2 us st2 H2 xs le2 r2 n2 rxs h2 => ?_⟩
      split at h2
      · rename_i hl
        exact ⟨W2, st2, u :: us, r2, .cons (rx.mono le2) rxs, hl, h2.nox⟩
      · exact h2.elim
    · exact h1.elim
  · exact h1.elim
theorem qe_metS0 {pl : Sem Bool} (F : FD X.prog X.w X.K X.mg X.base C k q n g) (hc : SlX.SCls X.K (C.ca c)) (hm : Meth X.K (C.ca c) m q) (hr : Room j X.A) (hk : k ≤ j) (ho : QE X C E o fo)
    (ht : eval (.Call (.Attribute o m apos) [] [] pos) X.env = (do
      let ov ← eval o X.env
      standAt apos.atName
      let (f, first) ← holding [ov] (getMethod ov m pl)
      callWith pos f first (backTo pos (starEach [] X.env)) (backToKw pos (keywordEach [] X.env))) := by rfl) : QE X C E (.Call (.Attribute o m apos) [] [] pos) (eMetS c n g fo aNil) := by
  refine (SlX.pe_methSl0 (pl := pl) ho hc hm F.raw (hr.mono hk) pass0 ht).imp fun σ H Q h => ?_
  obtain ⟨W, env, st, r, nv, h⟩ := h
  refine T.of r nv h fun W1 u st1 H1 x le1 r1 n1 rx h1 => ?_
  split at h1
  · rename_i c' xs ef
    split at h1
    · rename_i hcs
      subst hcs
      obtain ⟨a, dx, vs, ex, hs, rr⟩ := sltS_ok r1 rx ef
      have h2 : Aft C E W1 (if ([] : List S).length + 1 = n then (g (u :: []) st1).nox else .stuck) (fun W' v _ H' => ∀ x, RepS C W' v x → Q x H') := h1
      refine ⟨a, dx, _, ex, hs, ?_⟩
      show sp0 n C g (x :: []) H1 Q E0
      split at h2
      · rename_i hl
        exact ⟨W1, st1, [u], r1, .cons rx .nil, hl, h2.nox⟩
      · exact h2.elim
    · exact h1.elim
  · exact h1.elim
/-- a property of an object with slots -/
def ePropS (c : Nat) (g : GCall) (o : XE) : XE := fun env st => (o env st).bind fun u st => match sltS st u with
  | some (c', _) => if c' = c then (g [u] st).nox else .stuck
  | none => .stuck
def eProp (c : Nat) (g : GCall) (o : XE) : XE := fun env st => (o env st).bind fun u st => match fldS st u with
  | some (c', _) => if c' = c then (g [u] st).nox else .stuck
  | none => .stuck
structure PropAt (K : PySem.W.Frag) (D : Addr) (f : Str) (q : Addr) : Prop where
  ex : ∃ d : Addr, PropOf K D f d q
theorem qe_propS (F : FD X.prog X.w X.K X.mg X.base C k q 1 g) (hc : SlX.SCls X.K (C.ca c)) (hp : PropAt X.K (C.ca c) m q) (hr : Room j X.A) (hk : k + 1 ≤ j) (ho : QE X C E o fo) (hb : attributeBase o m X.env (eval o X.env) = eval o X.env := by rfl) : QE X C E (.Attribute o m pos) (ePropS c g fo) := by
  obtain ⟨d, hd⟩ := hp.ex
  refine (SlX.pe_propSl (E := E0) ho hc hd.at_ hd.get hd.tak hd.rec_ F.raw (hr.mono hk) (fun _ _ _ _ z => z.elim) hb).imp fun σ H Q h => ?_
  obtain ⟨W, env, st, r, nv, h⟩ := h
  refine T.of r nv h fun W1 u st1 H1 x le1 r1 n1 rx h1 => ?_
  split at h1
  · rename_i c' xs ef
    split at h1
    · rename_i hcs
      subst hcs
      obtain ⟨a, dx, vs, ex, hs, rr⟩ := sltS_ok r1 rx ef
      subst ex
      exact ⟨a, dx, _, rfl, hs, W1, st1, [u], r1, .cons rx .nil, rfl, h1.nox⟩
    · exact h1.elim
  · exact h1.elim
theorem qe_prop (F : FD X.prog X.w X.K X.mg X.base C k q 1 g) (hc : Cls X.K (C.ca c)) (hp : PropAt X.K (C.ca c) m q) (hr : Room j X.A) (hk : k + 1 ≤ j) (ho : QE X C E o fo) (hb : attributeBase o m X.env (eval o X.env) = eval o X.env := by rfl) : QE X C E (.Attribute o m pos) (eProp c g fo) := by
  obtain ⟨d, hd⟩ := hp.ex
  obtain ⟨fd, ps, _, G, b⟩ := F.ex
  refine (pe_prop (E := E0) ho hc hd G (hr.mono hk) b .nil pass0 hb).imp fun σ H Q h => ?_
  obtain ⟨W, env, st, r, nv, h⟩ := h
  refine T.of r nv h fun W1 u st1 H1 x le1 r1 n1 rx h1 => ?_
  split at h1
  · rename_i c' xs ef
    split at h1
    · rename_i hcs
      subst hcs
      obtain ⟨a, dx, vs, ex, eH, rr⟩ := fldS_ok r1 rx ef
      subst ex
      exact ⟨a, dx, _, rfl, eH, W1, st1, [u], r1, .cons rx .nil, rfl, h1.nox⟩
    · exact h1.elim
  · exact h1.elim
end
end Q

set_option Elab.async false
set_option linter.all false
set_option maxRecDepth 100000
set_option maxHeartbeats 2000000
/-! Q12: objects are made -/
namespace Q
open PySem L2 PySem.Spec PyProof.Rows

def mkRun (c0 : Cell) (gi : GCall) : GCall := fun us st => (gi (.c st.length :: us) (st ++ [c0])).bind fun v st' => match v with
  | .p .non => .ok (.c st.length) st'
  | _ => .stuck
/-- g says nothing, or what the constructor does, or the object that is made is frozen at once -/
def SimM (c0 : Cell) (n : Nat) (gi g : GCall) : Prop := ∀ us st, us.length = n → g us st = .stuck ∨ g us st = mkRun c0 gi us st ∨
  ∃ p new cl, g us st = .ok (.p p) st ∧ gi (.c st.length :: us) (st ++ [c0]) = .ok (.p .non) (st ++ new) ∧ new[0]? = some cl ∧ frzO cl = some p
section
variable {C : QC} {W : Wd} {st : Store} {H : Hp}
theorem sim_make {c0 : Cell} {n : Nat} {gi g : GCall} {us : List S} {W1 : Wd} {H1 : Hp} {x : Addr} {Q : VK} (sim : SimM c0 n gi g) (hl : us.length = n) (r : RelSt C W st H) (le : W.le W1) (r1 : RelSt C W1 (st ++ [c0]) H1) (hx : W1.rho[st.length]? = some x)
    (h : Aft C E0 W (g us st) fun W' v _ H' => ∀ y, RepS C W' v y → Q y H') : Aft C E0 W1 (gi (.c st.length :: us) (st ++ [c0])) fun W' v _ H' => ∀ y, RepS C W' v y → y = .non ∧ Q (.ref x) H' := by
  rcases sim us st hl with e | e | ⟨p, new, cl, e1, e2, e3, e4⟩
  · rw [e] at h; exact h.elim
  · rw [e] at h
    unfold mkRun at h
    refine (h.later le).bind.imp fun W2 v st2 H2 le2 r2 h2 y ry => ?_
    split at h2
    · cases ry
      exact ⟨rfl, h2 W2 H2 W2.le_refl r2 _ ⟨x, le2.r _ _ hx, rfl⟩⟩
    · exact h2.elim
  · rw [e1] at h
    rw [e2]
    intro W2 H2 le2 r2 y ry
    cases ry
    refine ⟨rfl, ?_⟩
    have es : (st ++ new)[st.length]? = some cl := by
      rw [List.getElem?_append_right (Nat.le_refl _), Nat.sub_self]; exact e3
    obtain ⟨W3, a, le3, r3, ea, hr⟩ := frz_ok r2 es e4
    have := le2.r _ _ hx
    rw [this] at ea
    cases ea
    have e5 : (st ++ new).set st.length .dead = st ++ new.set 0 .dead := by
      rw [List.set_append_right _ _ (Nat.le_refl _), Nat.sub_self]
    rw [e5] at r3
    obtain ⟨le4, r4⟩ := r.trunc (le.trans (le2.trans le3)) r3
    exact h _ _ le4 r4 _ hr
end
/-- a class that may be made by its name -/
structure FM (P : Program) (w : World) (K : PySem.W.Frag) (mg : Str → Option Value) (base : Heap) (C : QC) (k : Nat) (x : Str) (c n : Nat) (g : GCall) : Prop where
  ex : ∃ (f : Addr) (gi : GCall), Mk K (C.ca c) f ∧ FD P w K mg base C k f (n + 1) gi ∧ mg x = some (.ref (C.ca c)) ∧ SimM (.obj c []) n gi g
structure FMS (P : Program) (w : World) (K : PySem.W.Frag) (mg : Str → Option Value) (base : Heap) (C : QC) (k : Nat) (x : Str) (c n : Nat) (g : GCall) : Prop where
  ex : ∃ (f : Addr) (gi : GCall), Mk K (C.ca c) f ∧ FD P w K mg base C k f (n + 1) gi ∧ mg x = some (.ref (C.ca c)) ∧ SimM (.slt c []) n gi g
section
variable {X : Cx} {C : QC} {E : XK} {e : Expr} {es : List Expr} {f : XA} {pos p : Pos} {x : Str} {k j n c : Nat} {g : GCall}
theorem make_sp {W : Wd} {st : Store} {us : List S} {vs : List V} {H : Hp} {gi : GCall} {Q : VK} (sim : SimM (.obj c []) n gi g) (r : RelSt C W st H) (rx : RepSs C W us vs) (hl : us.length = n)
    (h : Aft C E0 W (g us st) fun W' v _ H' => ∀ y, RepS C W' v y → Q y H') (a dx : Addr) (ha : H a = none) (hd : H dx = none) (ne : dx ≠ a) :
    sp0 (n + 1) C gi (.ref a :: vs) (upd (upd H dx (.own a)) a (.ins (C.ca c) dx [])) (fun v H2 => v = .non ∧ Q (.ref a) H2) E0 := by
  obtain ⟨le1, r1⟩ := r.laidF hd (.own a)
  have ha' : upd H dx (.own a) a = none := by rw [upd_ne (Ne.symm ne)]; exact ha
  have fa : W.F a = none := by
    cases z : W.F a with
    | none => rfl
    | some o => have := r.sub _ _ z; rw [ha] at this; cases this
  obtain ⟨le2, r2, hx⟩ := r1.laidC (o := .ins (C.ca c) dx []) (c := .obj c []) ha' ⟨by show upd W.F dx (.own a) a = none; rw [upd_ne (Ne.symm ne)]; exact fa, dx, [], upd_same, upd_same, .nil⟩
  exact ⟨_, _, .c st.length :: us, r2, .cons ⟨a, hx, rfl⟩ (rx.mono (le1.trans le2)), by simp [hl], sim_make sim hl r (le1.trans le2) r2 hx h⟩
theorem qe_make (F : FM X.prog X.w X.K X.mg X.base C k x c n g) (hr : Room j X.A) (hk : k + 1 ≤ j) (hg : Gl X x) (ha : QA X C E (e :: es) f) (hdb : (x == ("__debug__" : Str)) = false := by decide)
    (he : starEach (e :: es) X.env = (false, eval e X.env) :: starEach es X.env := by rfl) (hpl : (backTo pos (starEach es X.env)).any (·.1) = false := by rfl) : QE X C E (.Call (.Name x p) (e :: es) [] pos) (eCall n g f) := by
  obtain ⟨fa, gi, M, D, hm, sim⟩ := F.ex
  obtain ⟨fd, ps, _, G, b⟩ := D.ex
  refine (pe_make M G (hr.mono hk) hg hm b .nil pass0 ha hdb he hpl).imp fun σ H Q h => ?_
  obtain ⟨W, env, st, r, nv, h⟩ := h
  refine TAr.of r nv h fun W1 us st1 H1 xs le1 r1 n1 rx h1 => ?_
  split at h1
  · rename_i hl
    intro a dx na nd ne
    rw [List.append_nil]
    exact make_sp sim r1 rx hl h1.nox a dx na nd ne
  · exact h1.elim
theorem qe_make0 (F : FM X.prog X.w X.K X.mg X.base C k x c 0 g) (hr : Room j X.A) (hk : k + 1 ≤ j) (hg : Gl X x) (hdb : (x == ("__debug__" : Str)) = false := by decide) : QE X C E (.Call (.Name x p) [] [] pos) (eCall 0 g aNil) := by
  obtain ⟨fa, gi, M, D, hm, sim⟩ := F.ex
  obtain ⟨fd, ps, _, G, b⟩ := D.ex
  refine (pe_make0 M G (hr.mono hk) hg hm b .nil pass0 hdb).imp fun σ H Q h => ?_
  obtain ⟨W, env, st, r, nv, h⟩ := h
  have h1 : Aft C E W (if ([] : List S).length = 0 then (g [] st).nox else .stuck) (fun W' v _ H' => ∀ x, RepS C W' v x → Q x H') := h
  rw [if_pos (show ([] : List S).length = 0 from rfl)] at h1
  intro a dx na nd ne
  exact make_sp sim r .nil rfl h1.nox a dx na nd ne
/-! ### classes with slots -/
theorem run_makeSl {pins : List (Addr × Obj)} {σ : L2.St} {H : Hp} {s : Shared} {Q : VK} {us : List Value} {vs : List V} {D q : Addr} {sp : Sp} (M : Mk X.K D q) (F : FnR X.prog X.w X.K X.mg X.base CX0 k q sp) (hr : Room (k + 1) X.A) (I : Inv X pins σ H s) (r : Vals vs us)
    (h : ∀ a dx, H a = none → H dx = none → dx ≠ a → sp (.ref a :: vs) (upd (upd H dx (.xd [])) a (SlX.SlO a D dx [])) (fun v H2 => v = .non ∧ Q (.ref a) H2) E0) :
    wpAny (model X.prog X.w) X.A (call (.ref D) us) (EP X pins σ Q) X.xe s := by
  have hq := h (s.heap.objs.size + 1) s.heap.objs.size (I.hok.fresh (Nat.le_succ _)) (I.hok.fresh (Nat.le_refl _)) (Nat.ne_of_lt (Nat.lt_succ_self _))
  have I2 := Inv.made (C := D) I
  have e0 : ((s.heap.push PySem.W.emptyDict).push (PySem.W.instObj D s.heap.objs.size)).get? (s.heap.objs.size + 1) = some { PySem.W.instObj D s.heap.objs.size with slots := #[] } := by
    have := Heap.get?_push_size (s.heap.push PySem.W.emptyDict) (o := PySem.W.instObj D s.heap.objs.size) rfl
    rwa [Heap.size_push] at this
  have I3 := SlX.inv_slot (vs := []) (vs' := []) (sl' := #[]) (t' := s.toks) I2 (.inl ⟨upd_same, rfl⟩) (fun b o _ _ e => e) (fun m h => h) e0 (SlX.SlR.nil _)
  have eH : SlX.slH (upd (upd H s.heap.objs.size (.own (s.heap.objs.size + 1))) (s.heap.objs.size + 1) (.ins D s.heap.objs.size [])) (s.heap.objs.size + 1) D s.heap.objs.size [] = upd (upd H s.heap.objs.size (.xd [])) (s.heap.objs.size + 1) (SlX.SlO (s.heap.objs.size + 1) D s.heap.objs.size []) := by
    funext b
    unfold SlX.slH
    by_cases h1 : b = s.heap.objs.size + 1
    · rw [h1, upd_same, upd_same]
    · by_cases h2 : b = s.heap.objs.size
      · subst h2
        rw [upd_ne h1, upd_same, upd_ne h1, upd_same]
      · rw [upd_ne h1, upd_ne h2, upd_ne h1, upd_ne h2, upd_ne h1, upd_ne h2]
  rw [eH] at I3
  have r2 : Vals (V.ref (s.heap.objs.size + 1) :: vs) (Value.ref (s.heap.objs.size + 1) :: us) := .cons rfl r
  refine wpAny_call (make_map (f := q) I.kIn M.makes M.init (beq_iff_eq.mp M.fn) (codeAny_mono (F _ X.stack _ _ _ _ _ E0 (hr.make D us []) (I3.env0.make D us []) r2 hq) fun r s' hq' => ?_))
  cases r with
  | error e => exact hq'.elim
  | ok fl =>
    cases fl with
    | ret u =>
      obtain ⟨v, H', I4, rv, ev, q3⟩ := I3.after hq'
      subst ev
      exact ⟨rv, ⟨V.ref (s.heap.objs.size + 1), H', I4, rfl, q3⟩⟩
    | next => exact False.elim hq'
    | brk => exact False.elim hq'
    | cont => exact False.elim hq'
def tMakeSl (D : Addr) (sp : Sp) (t : TA) : TE := fun σ H Q => t σ H fun vs H1 => ∀ a dx, H1 a = none → H1 dx = none → dx ≠ a →
  sp (.ref a :: vs) (upd (upd H1 dx (.xd [])) a (SlX.SlO a D dx [])) (fun v H2 => v = .non ∧ Q (.ref a) H2) E0
theorem pe_makeSl {D q : Addr} {sp : Sp} {t : TA} (M : Mk X.K D q) (F : FnR X.prog X.w X.K X.mg X.base CX0 k q sp) (hr : Room (k + 1) X.A) (hg : Gl X x) (hm : X.mg x = some (.ref D)) (ha : PA X (e :: es) t) (hdb : (x == ("__debug__" : Str)) = false := by decide)
    (he : starEach (e :: es) X.env = (false, eval e X.env) :: starEach es X.env := by rfl) (hpl : (backTo pos (starEach es X.env)).any (·.1) = false := by rfl) : PE X (.Call (.Name x p) (e :: es) [] pos) (tMakeSl D sp t) := by
  refine ⟨fun pins s σ H Q I h => ?_⟩
  refine wpAny_Call_Name_kw (ld_glob I hg hm ?_ hdb)
  refine PySem.W.callWith_K (h₀ := X.base) I.ok.mod.kin M.kp (thn (ha.run pos pins s σ H _ I h) fun us s1 ⟨vs, H1, I1, r, q⟩ => ⟨I1.kIn, ?_⟩) he hpl
  exact run_makeSl M F hr I1 r q
theorem make_spS {W : Wd} {st : Store} {us : List S} {vs : List V} {H : Hp} {gi : GCall} {Q : VK} (sim : SimM (.slt c []) n gi g) (r : RelSt C W st H) (rx : RepSs C W us vs) (hl : us.length = n)
    (h : Aft C E0 W (g us st) fun W' v _ H' => ∀ y, RepS C W' v y → Q y H') (a dx : Addr) (ha : H a = none) (hd : H dx = none) (ne : dx ≠ a) :
    sp0 (n + 1) C gi (.ref a :: vs) (upd (upd H dx (.xd [])) a (SlX.SlO a (C.ca c) dx [])) (fun v H2 => v = .non ∧ Q (.ref a) H2) E0 := by
  obtain ⟨le1, r1⟩ := r.laidF hd (.xd [])
  have ha' : upd H dx (.xd []) a = none := by rw [upd_ne (Ne.symm ne)]; exact ha
  have fa : W.F a = none := by
    cases z : W.F a with
    | none => rfl
    | some o => have := r.sub _ _ z; rw [ha] at this; cases this
  rw [slO_nil]
  obtain ⟨le2, r2, hx⟩ := r1.laidC (o := SlX.SlO a (C.ca c) dx (permO [])) (c := .slt c []) ha' ⟨by show upd W.F dx (.xd []) a = none; rw [upd_ne (Ne.symm ne)]; exact fa, dx, [], upd_same, upd_same, .nil⟩
  exact ⟨_, _, .c st.length :: us, r2, .cons ⟨a, hx, rfl⟩ (rx.mono (le1.trans le2)), by simp [hl], sim_make sim hl r (le1.trans le2) r2 hx h⟩
theorem qe_makeS (F : FMS X.prog X.w X.K X.mg X.base C k x c n g) (hr : Room j X.A) (hk : k + 1 ≤ j) (hg : Gl X x) (ha : QA X C E (e :: es) f) (hdb : (x == ("__debug__" : Str)) = false := by decide)
    (he : starEach (e :: es) X.env = (false, eval e X.env) :: starEach es X.env := by rfl) (hpl : (backTo pos (starEach es X.env)).any (·.1) = false := by rfl) : QE X C E (.Call (.Name x p) (e :: es) [] pos) (eCall n g f) := by
  obtain ⟨fa, gi, M, D, hm, sim⟩ := F.ex
  refine (pe_makeSl M D.raw (hr.mono hk) hg hm ha hdb he hpl).imp fun σ H Q h => ?_
  obtain ⟨W, env, st, r, nv, h⟩ := h
  refine TAr.of r nv h fun W1 us st1 H1 xs le1 r1 n1 rx h1 => ?_
  split at h1
  · rename_i hl
    intro a dx na nd ne
    exact make_spS sim r1 rx hl h1.nox a dx na nd ne
  · exact h1.elim
end
end Q

set_option Elab.async false
set_option linter.all false
set_option maxRecDepth 100000
set_option maxHeartbeats 2000000
/-! Q13: stores into lists and dicts, dicts that are made, read, walked -/
namespace Q
open PySem L2 PySem.Spec PyProof.Rows
section
variable {X : Cx} {C : QC} {E : XK} {W W1 W2 : Wd} {st : Store} {H : Hp} {D : Addr}
/-- what is made becomes a cell -/
theorem RelSt.cellG (r : RelSt C W st H) {o : HO} (g : W.G D = some o) {cl : Cell} (hc : CellOk C ⟨W.F, W.rho ++ [D], (W.setG D none).G⟩ H D cl) :
    RelSt C ⟨W.F, W.rho ++ [D], (W.setG D none).G⟩ (st ++ [cl]) H ∧ (W.rho ++ [D])[st.length]? = some D ∧ W.le0 ⟨W.F, W.rho ++ [D], (W.setG D none).G⟩ := by
  obtain ⟨hH, hF⟩ := r.gsub D _ g
  have hrho : ∀ (n : Nat), W.rho[n]? ≠ some D := fun n e => by have := r.grho n D e; rw [g] at this; cases this
  have le0 : W.le0 ⟨W.F, W.rho ++ [D], (W.setG D none).G⟩ := ⟨fun _ _ e => e, fun n a e => by
    show (W.rho ++ [D])[n]? = some a
    rw [List.getElem?_append_left (List.getElem?_eq_some_iff.mp e).1]; exact e⟩
  have split : ∀ (n : Nat) a, (W.rho ++ [D])[n]? = some a → (W.rho[n]? = some a ∧ n < st.length) ∨ (a = D ∧ n = st.length) := fun n a e => by
    by_cases h : n < W.rho.length
    · rw [List.getElem?_append_left h] at e
      exact .inl ⟨e, by rw [← r.len]; exact h⟩
    · rw [List.getElem?_append_right (by omega)] at e
      have hz : n - W.rho.length = 0 := by
        have := (List.getElem?_eq_some_iff.mp e).1
        simp at this; omega
      rw [hz] at e
      simp at e
      exact .inr ⟨e.symm, by rw [← r.len]; omega⟩
  have last : (W.rho ++ [D])[st.length]? = some D := by rw [← r.len]; simp
  refine ⟨⟨r.sub, fun a u e => ?_, fun n a e => ?_, by simp [r.len], fun n c a e e' => ?_, fun m n a e e' => ?_⟩, last, le0⟩
  · have e : (W.setG D none).G a = some u := e
    by_cases h : a = D
    · subst h; rw [Wd.setG_same] at e; cases e
    · rw [Wd.setG_ne h] at e; exact r.gsub a u e
  · show (W.setG D none).G a = none
    rcases split n a e with ⟨q, _⟩ | ⟨rfl, _⟩
    · by_cases h : a = D
      · subst h; exact Wd.setG_same
      · rw [Wd.setG_ne h]; exact r.grho n a q
    · exact Wd.setG_same
  · rcases split n a e' with ⟨q, hn⟩ | ⟨rfl, rfl⟩
    · rw [List.getElem?_append_left hn] at e
      have h := r.cell n c a e q
      cases c with
      | lst xs => obtain ⟨n, vs, e, r⟩ := h; exact ⟨n, vs, e, r.mono0 le0⟩
      | dk kvs => obtain ⟨n, vs, e, r⟩ := h; exact ⟨n, vs, e, r.mono0 le0⟩
      | dt kvs => obtain ⟨n, vs, e, r⟩ := h; exact ⟨n, vs, e, r.mono0 le0⟩
      | obj c fs => obtain ⟨n, dx, vs, e, d, r⟩ := h; exact ⟨n, dx, vs, e, d, r.mono0 le0⟩
      | slt c fs => obtain ⟨n, dx, vs, e, d, r⟩ := h; exact ⟨n, dx, vs, e, d, r.mono0 le0⟩
      | dead => exact h
    · have : (st ++ [cl])[st.length]? = some cl := by simp
      rw [this] at e; cases e
      exact hc
  · rcases split m a e with ⟨q, hm⟩ | ⟨rfl, rfl⟩ <;> rcases split n _ e' with ⟨q', hn⟩ | ⟨z, rfl⟩
    · exact r.dist m n a q q'
    · subst z; exact absurd q (hrho m)
    · exact absurd q' (hrho n)
    · rfl
/-- .. seen from before it was begun -/
theorem le_cellG (le : W1.le0 W2) (hG : ∀ a o, a ≠ D → W1.G a = some o → W2.G a = some o) (hn : W1.G D = none) : W1.le ⟨W2.F, W2.rho ++ [D], (W2.setG D none).G⟩ := by
  refine ⟨le.f, fun n a e => ?_, fun a o e => ?_⟩
  · show (W2.rho ++ [D])[n]? = some a
    have e := le.r n a e
    rw [List.getElem?_append_left (List.getElem?_eq_some_iff.mp e).1]; exact e
  · have : a ≠ D := fun z => by rw [z, hn] at e; cases e
    show (W2.setG D none).G a = some o
    rw [Wd.setG_ne this]; exact hG a o this e
/-! ### a key's value is stored -/
section
variable {κ : Type} [DecidableEq κ]
theorem any_zip (k : κ) : ∀ {kvs : List (κ × S)} {vs : List V}, kvs.length = vs.length → ((zipV kvs vs).any fun kv => decide (kv.1 = k)) = kvs.any fun kv => decide (kv.1 = k)
  | [], vs, _ => by cases vs <;> rfl
  | p :: r, v :: vs, h => by
    simp only [zipV, List.any_cons]
    rw [any_zip k (by simpa using h)]
theorem map_zip (k : κ) {s : S} {y : V} (ry : RepS C W s y) : ∀ {kvs : List (κ × S)} {vs : List V}, RepSs C W (kvs.map (·.2)) vs →
    ∃ vs', (zipV kvs vs).map (fun kv => if kv.1 = k then (kv.1, y) else kv) = zipV (kvs.map fun p => if p.1 = k then (p.1, s) else p) vs' ∧ RepSs C W ((kvs.map fun p => if p.1 = k then (p.1, s) else p).map (·.2)) vs'
  | [], _, .nil => ⟨[], rfl, .nil⟩
  | (g, x) :: r, v :: vs, .cons rx rt => by
    obtain ⟨vs', e, rr⟩ := map_zip k ry rt
    by_cases h : g = k
    · refine ⟨y :: vs', ?_, ?_⟩
      · simp only [zipV, List.map_cons, h, if_true]
        rw [e]
      · simp only [List.map_cons, h, if_true]
        exact .cons ry rr
    · refine ⟨v :: vs', ?_, ?_⟩
      · simp only [zipV, List.map_cons, h, if_false]
        rw [e]
      · simp only [List.map_cons, h, if_false]
        exact .cons rx rr
theorem snoc_zip {k : κ} {y : V} {s : S} : ∀ {kvs : List (κ × S)} {vs : List V}, kvs.length = vs.length → zipV kvs vs ++ [(k, y)] = zipV (kvs ++ [(k, s)]) (vs ++ [y])
  | [], [], _ => rfl
  | p :: r, v :: vs, h => by simp only [zipV, List.cons_append]; rw [snoc_zip (by simpa using h)]
theorem put_zipK (k : κ) {s : S} {y : V} (ry : RepS C W s y) {kvs : List (κ × S)} {vs : List V} (rr : RepSs C W (kvs.map (·.2)) vs) : ∃ vs', putK (zipV kvs vs) k y = zipV (putS kvs k s) vs' ∧ RepSs C W ((putS kvs k s).map (·.2)) vs' := by
  have hl : kvs.length = vs.length := by have := rr.length; simpa using this
  unfold putK putS
  rw [any_zip k hl]
  by_cases h : (kvs.any fun kv => decide (kv.1 = k)) = true
  · rw [if_pos h, if_pos h]; exact map_zip k ry rr
  · rw [if_neg h, if_neg h]
    refine ⟨vs ++ [y], snoc_zip hl, ?_⟩
    rw [List.map_append]
    exact RepSs.append rr (.cons ry .nil)
def mergeS (kvs more : List (κ × S)) : List (κ × S) := more.foldl (fun acc kv => putS acc kv.1 kv.2) kvs
def mergeV (kvs more : List (κ × V)) : List (κ × V) := more.foldl (fun acc kv => putK acc kv.1 kv.2) kvs
theorem merge_zip : ∀ {more : List (κ × S)} {us : List V} {kvs : List (κ × S)} {vs : List V}, RepSs C W (more.map (·.2)) us → RepSs C W (kvs.map (·.2)) vs →
    ∃ vs', mergeV (zipV kvs vs) (zipV more us) = zipV (mergeS kvs more) vs' ∧ RepSs C W ((mergeS kvs more).map (·.2)) vs'
  | [], _, kvs, vs, .nil, r => ⟨vs, rfl, r⟩
  | (k, s) :: more, u :: us, kvs, vs, .cons ru rt, r => by
    obtain ⟨vs', e, rr⟩ := put_zipK k ru r
    obtain ⟨vs2, e2, r2⟩ := merge_zip rt rr
    refine ⟨vs2, ?_, r2⟩
    show mergeV (putK (zipV kvs vs) k u) (zipV more us) = _
    rw [e]
    exact e2
theorem length_mergeV : ∀ (more kvs : List (κ × V)), (mergeV kvs more).length ≤ kvs.length + more.length
  | [], kvs => by show kvs.length ≤ kvs.length + 0; omega
  | p :: r, kvs => by
    have h1 := length_mergeV r (putK kvs p.1 p.2)
    have h2 := length_putK kvs p.1 p.2
    show (mergeV (putK kvs p.1 p.2) r).length ≤ _
    rw [List.length_cons]; omega
theorem mergeV_append (a b c : List (κ × V)) : mergeV a (b ++ c) = mergeV (mergeV a b) c := by unfold mergeV; rw [List.foldl_append]
theorem zipV_append {α : Type} : ∀ {a : List (κ × α)} {x : List V} {b : List (κ × α)} {y : List V}, a.length = x.length → zipV a x ++ zipV b y = zipV (a ++ b) (x ++ y)
  | [], [], b, y, _ => rfl
  | p :: r, v :: vs, b, y, h => by simp only [zipV, List.cons_append]; rw [zipV_append (by simpa using h)]
/-- the accumulator of a dict comprehension -/
def accD (ho : List (κ × V) → HO) : AccK (κ × S) (List (κ × V)) where
  ho := ho
  size := List.length
  rel := fun C W a ys b => ∃ zs, b = mergeV a (zipV ys zs) ∧ RepSs C W (ys.map (·.2)) zs
  nil := fun C W b => ⟨[], rfl, .nil⟩
  app := fun C W a xs b ys c ⟨z1, e1, r1⟩ ⟨z2, e2, r2⟩ => ⟨z1 ++ z2, by
    rw [e2, e1, ← mergeV_append, zipV_append]
    have := r1.length; simpa using this, by rw [List.map_append]; exact RepSs.append r1 r2⟩
  mono := fun C W W' a xs b le ⟨z, e, r⟩ => ⟨z, e, r.mono0 le⟩
  sz := fun C W a xs b ⟨z, e, r⟩ => by
    rw [e]
    have := length_mergeV (zipV xs z) a
    have := zipV_len (kvs := xs) (vs := z)
    omega
end
def accDK : AccK (Key × S) (List (Key × V)) := accD .dK
def accDT : AccK (List Key × S) (List (List Key × V)) := accD .dT
def clDK (ys : List (Key × S)) (st : Store) : R S := if decide (ys.length ≤ 16777216) = true then .ok (.c st.length) (st ++ [.dk (mergeS [] ys)]) else .stuck
def clDT (ys : List (List Key × S)) (st : Store) : R S := if decide (ys.length ≤ 16777216) = true then .ok (.c st.length) (st ++ [.dt (mergeS [] ys)]) else .stuck
theorem finL_dk : FinL C E accDK [] clDK := by
  intro W1 W2 ys st H D b Q le hG hn r g rel h
  obtain ⟨zs, e, rz⟩ := rel
  unfold clDK at h
  split at h
  · obtain ⟨hH, hF⟩ := r.gsub D _ g
    obtain ⟨vs', e2, r2⟩ := merge_zip (kvs := ([] : List (Key × S))) (vs := []) rz .nil
    have e3 : b = zipV (mergeS [] ys) vs' := e.trans e2
    have le0 : W2.le0 ⟨W2.F, W2.rho ++ [D], (W2.setG D none).G⟩ := ⟨fun _ _ e => e, fun n a e => by
      show (W2.rho ++ [D])[n]? = some a
      rw [List.getElem?_append_left (List.getElem?_eq_some_iff.mp e).1]; exact e⟩
    obtain ⟨rC, last, _⟩ := r.cellG g (cl := .dk (mergeS [] ys)) ⟨hF, vs', by rw [hH, e3]; rfl, r2.mono0 le0⟩
    exact h _ _ (le_cellG le hG hn) rC _ ⟨D, last, rfl⟩
  · exact h.elim
theorem finL_dt : FinL C E accDT [] clDT := by
  intro W1 W2 ys st H D b Q le hG hn r g rel h
  obtain ⟨zs, e, rz⟩ := rel
  unfold clDT at h
  split at h
  · obtain ⟨hH, hF⟩ := r.gsub D _ g
    obtain ⟨vs', e2, r2⟩ := merge_zip (kvs := ([] : List (List Key × S))) (vs := []) rz .nil
    have e3 : b = zipV (mergeS [] ys) vs' := e.trans e2
    have le0 : W2.le0 ⟨W2.F, W2.rho ++ [D], (W2.setG D none).G⟩ := ⟨fun _ _ e => e, fun n a e => by
      show (W2.rho ++ [D])[n]? = some a
      rw [List.getElem?_append_left (List.getElem?_eq_some_iff.mp e).1]; exact e⟩
    obtain ⟨rC, last, _⟩ := r.cellG g (cl := .dt (mergeS [] ys)) ⟨hF, vs', by rw [hH, e3]; rfl, r2.mono0 le0⟩
    exact h _ _ (le_cellG le hG hn) rC _ ⟨D, last, rfl⟩
  · exact h.elim
theorem clDK_size {ys : List (Key × S)} {st : Store} {W : Wd} {k : Wd → S → Store → Hp → Prop} (h : Aft C E W (clDK ys st) k) : ys.length ≤ sizeLine := by
  unfold clDK at h
  split at h
  · rename_i hl; rw [sizeLine_is]; exact of_decide_eq_true hl
  · exact h.elim
theorem clDT_size {ys : List (List Key × S)} {st : Store} {W : Wd} {k : Wd → S → Store → Hp → Prop} (h : Aft C E W (clDT ys st) k) : ys.length ≤ sizeLine := by
  unfold clDT at h
  split at h
  · rename_i hl; rw [sizeLine_is]; exact of_decide_eq_true hl
  · exact h.elim
def pk (f : S → Option α) (s : S) : Option α := f s
def asKeyS : S → Option Key
  | .p x => asKey x
  | .c _ => none
def asTupS : S → Option (List Key)
  | .p x => asTup x
  | .c _ => none
def nEmitK (fk fv : XE) : XN (Key × S) := fun env st => match fk env st with
  | .ok u st => match fv env st with
    | .ok y st => match asKeyS u with
      | some k => some ([(k, y)], st)
      | none => none
    | _ => none
  | _ => none
def nEmitT (fk fv : XE) : XN (List Key × S) := fun env st => match fk env st with
  | .ok u st => match fv env st with
    | .ok y st => match asTupS u with
      | some k => some ([(k, y)], st)
      | none => none
    | _ => none
  | _ => none
theorem qn_emitK {kx vx : Expr} {fk fv : XE} (hu : X.A.units + 1 < cLine) (hx : X.xe = fun _ _ => False) (hk : QE X C E0 kx fk) (hv : QE X C E0 vx fv) : PTail X (emitD kx vx D X.env) [] (TNA C accDK D (nEmitK fk fv)) := by
  refine PTail.imp (tail_emitD hu hx hk hv) fun σ H Nx h => ?_
  obtain ⟨W, env, st, ys, st', b, r, n, g, hf, hb, hN⟩ := h
  unfold nEmitK at hf
  refine ⟨W, env, st, r, n, ?_⟩
  cases ei : fk env st with
  | stuck => rw [ei] at hf; cases hf
  | exc c fs st4 => rw [ei] at hf; cases hf
  | ok u st1 =>
    simp only [ei] at hf
    intro W1 H1 le1 r1 uv ru
    refine ⟨W1, env, st1, r1, n.mono le1, ?_⟩
    cases ej : fv env st1 with
    | stuck => rw [ej] at hf; cases hf
    | exc c fs st4 => rw [ej] at hf; cases hf
    | ok y st2 =>
      simp only [ej] at hf
      cases ek : asKeyS u with
      | none => rw [ek] at hf; cases hf
      | some k =>
        simp only [ek, Option.some.injEq, Prod.mk.injEq] at hf
        obtain ⟨e1, e2⟩ := hf
        subst e1 e2
        intro W2 H2 le2 r2 yv ry
        have g2 := le2.g _ _ (le1.g _ _ g)
        have hb' : b.length + 1 ≤ sizeLine := hb
        cases u with
        | c m => cases ek
        | p p0 =>
          have ey := asKey_rep ru ek
          subst ey
          refine ⟨_, DPut.k (r2.gsub _ _ g2).1 (by omega), ?_⟩
          refine hN (W2.setG D (some (.dK (putK b k yv)))) _ _ ((le1.trans le2).toD D |>.trans Wd.leD_set) (r2.setG g2) Wd.setG_same ⟨[yv], rfl, .cons (ry.mono0 (Wd.leD_set (D := D) (o := some (.dK (putK b k yv)))).1) .nil⟩
theorem qn_emitT {kx vx : Expr} {fk fv : XE} (hu : X.A.units + 1 < cLine) (hx : X.xe = fun _ _ => False) (hk : QE X C E0 kx fk) (hv : QE X C E0 vx fv) : PTail X (emitD kx vx D X.env) [] (TNA C accDT D (nEmitT fk fv)) := by
  refine PTail.imp (tail_emitD hu hx hk hv) fun σ H Nx h => ?_
  obtain ⟨W, env, st, ys, st', b, r, n, g, hf, hb, hN⟩ := h
  unfold nEmitT at hf
  refine ⟨W, env, st, r, n, ?_⟩
  cases ei : fk env st with
  | stuck => rw [ei] at hf; cases hf
  | exc c fs st4 => rw [ei] at hf; cases hf
  | ok u st1 =>
    simp only [ei] at hf
    intro W1 H1 le1 r1 uv ru
    refine ⟨W1, env, st1, r1, n.mono le1, ?_⟩
    cases ej : fv env st1 with
    | stuck => rw [ej] at hf; cases hf
    | exc c fs st4 => rw [ej] at hf; cases hf
    | ok y st2 =>
      simp only [ej] at hf
      cases ek : asTupS u with
      | none => rw [ek] at hf; cases hf
      | some k =>
        simp only [ek, Option.some.injEq, Prod.mk.injEq] at hf
        obtain ⟨e1, e2⟩ := hf
        subst e1 e2
        intro W2 H2 le2 r2 yv ry
        have g2 := le2.g _ _ (le1.g _ _ g)
        have hb' : b.length + 1 ≤ sizeLine := hb
        cases u with
        | c m => cases ek
        | p p0 =>
          obtain ⟨a, ey, ha⟩ := asTup_rep r2 (Rep.mono le2.f ru) ek
          subst ey
          refine ⟨_, DPut.t (r2.gsub _ _ g2).1 ha (by omega), ?_⟩
          refine hN (W2.setG D (some (.dT (putK b k yv)))) _ _ ((le1.trans le2).toD D |>.trans Wd.leD_set) (r2.setG g2) Wd.setG_same ⟨[yv], rfl, .cons (ry.mono0 (Wd.leD_set (D := D) (o := some (.dT (putK b k yv)))).1) .nil⟩
/-! ### o[i] = v -/
def setAt (st : Store) (u i v : S) : Option Store := match u, i with
  | .c n, .p k => match st[n]? with
    | some (.lst xs) => match k with
      | .int z => match ixN xs.length z with
        | some j => some (st.set n (.lst (xs.set j v)))
        | none => none
      | _ => none
    | some (.dk kvs) => match asKey k with
      | some k => if decide (kvs.length < 16777216) = true then some (st.set n (.dk (putS kvs k v))) else none
      | none => none
    | some (.dt kvs) => match asTup k with
      | some k => if decide (kvs.length < 16777216) = true then some (st.set n (.dt (putS kvs k v))) else none
      | none => none
    | _ => none
  | _, _ => none
def rSetQ : TSet := fun o i v H Q => rSetL o i v H Q ∨ rSetD o i v H Q
theorem set_Q (ok : Ok X C) : PSet X rSetQ := by
  intro pins s σ H o i v ov iv u Q I ro ri rv h
  have hu := ok.hu
  rcases h with h | h
  · exact set_list pins s σ H o i v ov iv u Q I ro ri rv h
  · exact set_dict (by omega) pins s σ H o i v ov iv u Q I ro ri rv h
theorem RepSs.set {ss : List S} {vs : List V} {s : S} {v : V} (h : RepSs C W ss vs) (q : RepS C W s v) : ∀ j : Nat, RepSs C W (ss.set j s) (vs.set j v) := by
  induction h with
  | nil => intro j; exact .nil
  | cons a t ih =>
    intro j
    cases j with
    | zero => exact .cons q t
    | succ j => exact .cons a (ih j)
theorem setAt_ok (r : RelSt C W st H) {u i v : S} {x y z : V} {st' : Store} (ru : RepS C W u x) (ri : RepS C W i y) (rv : RepS C W v z) (e : setAt st u i v = some st') {Q : Hp → Prop} (k : ∀ H', RelSt C W st' H' → Q H') : rSetQ x y z H Q := by
  unfold setAt at e
  split at e
  · rename_i n kx
    obtain ⟨a, ea, ex⟩ := ru
    split at e
    · rename_i xs es
      obtain ⟨hF, vs, eH, rr⟩ := r.cell n _ a es ea
      split at e
      · rename_i w
        cases ri
        split at e
        · rename_i j ej
          cases e
          refine .inl ⟨a, vs, _, j, ex, rfl, eH, by rw [← rr.length]; exact ej, k _ ?_⟩
          exact r.write es ea hF ⟨hF, vs.set j z, upd_same, rr.set rv j⟩
        · cases e
      · cases e
    · rename_i kvs es
      obtain ⟨hF, vs, eH, rr⟩ := r.cell n _ a es ea
      split at e
      · rename_i k' ek
        split at e
        · rename_i hl
          cases e
          have ey := asKey_rep ri ek
          subst ey
          obtain ⟨vs', e1, r1⟩ := put_zipK k' rv rr
          refine .inr ⟨a, _, ex, DPut.k eH (Nat.lt_of_le_of_lt zipV_len (by rw [sizeLine_is]; exact of_decide_eq_true hl)), k _ ?_⟩
          exact r.write es ea hF ⟨hF, vs', by rw [upd_same, e1], r1⟩
        · cases e
      · cases e
    · rename_i kvs es
      obtain ⟨hF, vs, eH, rr⟩ := r.cell n _ a es ea
      split at e
      · rename_i k' ek
        split at e
        · rename_i hl
          cases e
          obtain ⟨b, ey, hb⟩ := asTup_rep r ri ek
          subst ey
          obtain ⟨vs', e1, r1⟩ := put_zipK k' rv rr
          refine .inr ⟨a, _, ex, DPut.t eH hb (Nat.lt_of_le_of_lt zipV_len (by rw [sizeLine_is]; exact of_decide_eq_true hl)), k _ ?_⟩
          exact r.write es ea hF ⟨hF, vs', by rw [upd_same, e1], r1⟩
        · cases e
      · cases e
    · cases e
  · cases e
def sSub (o i v : XE) : XS := fun env st => (v env st).bind fun y st => (o env st).bind fun u st => (i env st).bind fun k st => match setAt st u k y with
  | some st' => .ok (.nx env) st'
  | none => .stuck
variable {e a b c o i value : Expr} {fa fb fc fo fi fv : XE} {pos p p2 pos' tpos : Pos} {x m f : Str}
theorem qs_sub (ok : Ok X C) (ho : QE X C E o fo) (hi : QE X C E i fi) (hv : QE X C E value fv) (hs : swapsWithSole [.Subscript o i tpos] value pos.line X.env = pure false := by rfl) (hw : swappedStores [.Subscript o i tpos] value X.env = pure none := by rfl)
    (h1 : (assignEach [.Subscript o i tpos] X.env).map (·.2) = [assign (.Subscript o i tpos) X.env] := by rfl)
    (ha : ∀ v, assign (.Subscript o i tpos) X.env v = (do
      let ov ← holding [v] (eval o X.env)
      let iv ← holding [v, ov] (eval i X.env)
      standAt tpos
      holding [v, ov, iv] (setItem ov iv v)
      release [v, ov, iv] []) := by intro _; rfl) : QS X C E (.Assign [.Subscript o i tpos] value pos) (sSub fo fi fv) := by
  refine (ps_asg hv (pg_sub ho hi (set_Q ok) ha) hs hw h1).imp fun D σ H h => ?_
  obtain ⟨W, env, st, r, n, h⟩ := h
  refine T.of r n h fun W1 y st1 H1 yv le1 r1 n1 ry h1 => T.of r1 n1 h1 fun W2 u st2 H2 uv le2 r2 n2 ru h2 => T.of r2 n2 h2 fun W3 k st3 H3 kv le3 r3 n3 rk h3 => ?_
  cases et : setAt st3 u k y with
  | none => rw [et] at h3; exact h3.elim
  | some st' =>
    simp only [et] at h3
    exact setAt_ok r3 (ru.mono le3) rk (ry.mono (le2.trans le3)) et fun H' r' => h3 W3 H' W3.le_refl r' _ n3
/-! ### a, b = x, y -/
def sPar (i j : Nat) (a b : XE) : XS := fun env st => (a env st).bind fun u st => (b env st).bind fun v st => if (decide (i < env.length) && decide (j < env.length)) = true then .ok (.nx ((env.set i (some u)).set j (some v))) st else .stuck
theorem qs_par {i j : Nat} {y : Str} {px py pt : Pos} {kt k2 pt2} (ok : Ok X C) (hN : X.N.Nodup) (hi : X.N[i]? = some x) (hj : X.N[j]? = some y) (hij : i ≠ j)
    (hx : X.env.scope.names.lookup x = some .local) (hy : X.env.scope.names.lookup y = some .local) (ha : QE X C E a fa) (hb : QE X C E b fb) (hs1 : starEach [a, b] X.env = (false, eval a X.env) :: starEach [b] X.env) (hs2 : starEach [b] X.env = (false, eval b X.env) :: starEach [] X.env)
    (hw : swappedStores [.Tuple [.Name x px, .Name y py] kt pt] (.Tuple [a, b] k2 pt2) X.env = pure (some [x, y]))
    (hs : swapsWithSole [.Tuple [.Name x px, .Name y py] kt pt] (.Tuple [a, b] k2 pt2) pos.line X.env = pure false := by rfl) : QS X C E (.Assign [.Tuple [.Name x px, .Name y py] kt pt] (.Tuple [a, b] k2 pt2) pos) (sPar i j fa fb) := by
  refine (ps_par ok.calm hN hi hj hij hx hy (pa_cons ha (pa_cons hb pa_nil hs2) hs1) hw hs).imp fun D σ H h => ?_
  obtain ⟨W, env, st, r, n, h⟩ := h
  refine T.of r n h fun W1 u st1 H1 uv le1 r1 n1 ru h1 => T.of r1 n1 h1 fun W2 v st2 H2 vv le2 r2 n2 rv h2 => ?_
  split at h2
  · exact ⟨uv, vv, rfl, h2 W2 H2 W2.le_refl r2 _ ((n2.set (ru.mono le2)).set rv)⟩
  · exact h2.elim
end
end Q

set_option Elab.async false
set_option linter.all false
set_option maxRecDepth 100000
set_option maxHeartbeats 2000000
/-! Q14: dict displays, methods of dicts, len of objects, lists of ranges, what is walked -/
namespace Q
open PySem L2 PySem.Spec PyProof.Rows
section
variable {X : Cx} {C : QC} {E : XK} {W W1 W2 : Wd} {st : Store} {H : Hp} {D : Addr}
theorem Aft.bindW {α β : Type} {r : R α} {f : α → Store → R β} {k : Wd → β → Store → Hp → Prop} (h : Aft C E W (r.bind f) k) : Aft C E W r fun _ a st _ => Aft C E W (f a st) k := by
  cases r with
  | ok a st => exact fun W1 H1 le _ => h
  | exc c fs st => exact h
  | stuck => exact h
/-! ### displays -/
def evPairs : List (XE × XE) → Env → Store → R (List (Key × S))
  | [], _, st => .ok [] st
  | (fk, fv) :: r, env, st => (fk env st).bind fun u st => (fv env st).bind fun y st => match asKeyS u with
    | some k => (evPairs r env st).bind fun kvs st => .ok ((k, y) :: kvs) st
    | none => .stuck
def eDisp (fs : List (XE × XE)) : XE := fun env st => (evPairs fs env st).bind fun kvs st => if decide (kvs.length ≤ 15) = true then .ok (.c st.length) (st ++ [.dk (mergeS [] kvs)]) else .stuck
abbrev trsOf (C : QC) (E : XK) (fs : List (XE × XE)) : List (TE × TE) := fs.map fun p => (T C E p.1, T C E p.2)
theorem pairs_ok : ∀ {fs : List (XE × XE)} {W : Wd} {env : Env} {st : Store} {σ : L2.St} {H : Hp} {Q : List (V × V) → Hp → Prop}, RelSt C W st H → RelEnv C W env σ →
    Aft C E W (evPairs fs env st) (fun W' kvs _ H' => ∀ us, RepSs C W' (kvs.map (·.2)) us → Q ((zipV kvs us).map fun kv => (kV kv.1, kv.2)) H') → tPairs (trsOf C E fs) σ H Q
  | [], W, env, st, σ, H, Q, r, n, h => h W H W.le_refl r [] .nil
  | (fk, fv) :: fs, W, env, st, σ, H, Q, r, n, h => by
    refine T.of r n h fun W1 u st1 H1 x le1 r1 n1 rx h1 => T.of r1 n1 h1 fun W2 y st2 H2 z le2 r2 n2 rz h2 => ?_
    cases ek : asKeyS u with
    | none => rw [ek] at h2; exact h2.elim
    | some k =>
      simp only [ek] at h2
      refine pairs_ok (fs := fs) r2 n2 (h2.bind.imp fun W3 kvs st3 H3 le3 r3 h3 us rus => ?_)
      have := h3 W3 H3 W3.le_refl r3 (z :: us) (.cons (rz.mono le3) rus)
      cases u with
      | c m => cases ek
      | p p0 =>
        have ey := asKey_rep rx ek
        rw [ey]
        exact this
variable {e a b c o i value : Expr} {es : List Expr} {fa fb fc fo fi fv : XE} {pos p p2 pos' tpos apos cpos : Pos} {x m f : Str} {t : XA}
/-- the pairs of a display -/
abbrev QPs (X : Cx) (C : QC) (E : XK) (pos : Pos) (keys : List (Option Expr)) (values : List Expr) (fs : List (XE × XE)) : Prop := PPs X pos keys values (trsOf C E fs)
theorem qps_nil : QPs X C E pos [] [] [] := pps_nil
theorem qps_cons {k v : Expr} {ks : List (Option Expr)} {vs : List Expr} {fs : List (XE × XE)} (hk : QE X C E k fa) (hv : QE X C E v fb) (hr : QPs X C E pos ks vs fs) : QPs X C E pos (some k :: ks) (v :: vs) ((fa, fb) :: fs) := pps_cons hk hv hr
theorem qe_disp {keys : List (Option Expr)} {values : List Expr} {fs : List (XE × XE)} (h : QPs X C E pos keys values fs) (hall : keys.all (·.isSome) = true := by rfl) (hl : keys.length = values.length := by rfl) (h0 : keys ≠ [] := by exact List.cons_ne_nil _ _)
    (h15 : keys.length ≤ 15 := by decide) : QE X C E (.Dict keys values pos) (eDisp fs) := by
  refine (pe_disp h hall hl h0 h15).imp fun σ H Q hh => ?_
  obtain ⟨W, env, st, r, n, hh⟩ := hh
  intro D hD
  obtain ⟨leG, rG⟩ := r.newG (o := .dK []) hD
  have hn : W.G D = none := by
    cases z : W.G D with
    | none => rfl
    | some u => have := (r.gsub D u z).1; rw [hD] at this; cases this
  refine pairs_ok rG (n.mono leG) ((Aft.later hh.bindW leG).imp fun W1 kvs st1 H1 le1 r1 h1 us rus => ?_)
  split at h1
  · rename_i hlen
    have g1 := le1.g _ _ (Wd.setG_same (W := W) (D := D) (o := some (.dK [])))
    obtain ⟨hH, hF⟩ := r1.gsub D _ g1
    refine ⟨hH, zipV kvs us, rfl, Nat.le_trans zipV_len (of_decide_eq_true hlen), ?_⟩
    obtain ⟨vs', e2, r2⟩ := merge_zip (kvs := ([] : List (Key × S))) (vs := []) rus .nil
    have e3 : mergeK [] (zipV kvs us) = zipV (mergeS [] kvs) vs' := e2
    have r3 := r1.setG (o' := .dK (zipV (mergeS [] kvs) vs')) g1
    have le0 : (W1.setG D (some (.dK (zipV (mergeS [] kvs) vs')))).le0 ⟨(W1.setG D (some (.dK (zipV (mergeS [] kvs) vs')))).F, (W1.setG D (some (.dK (zipV (mergeS [] kvs) vs')))).rho ++ [D], ((W1.setG D (some (.dK (zipV (mergeS [] kvs) vs')))).setG D none).G⟩ := ⟨fun _ _ e => e, fun n a e => by
      show (W1.rho ++ [D])[n]? = some a
      have e : W1.rho[n]? = some a := e
      rw [List.getElem?_append_left (List.getElem?_eq_some_iff.mp e).1]; exact e⟩
    obtain ⟨rC, last, _⟩ := r3.cellG Wd.setG_same (cl := .dk (mergeS [] kvs)) ⟨hF, vs', upd_same, (r2.mono0 (Wd.leD_set (D := D) (o := some (.dK (zipV (mergeS [] kvs) vs')))).1).mono0 le0⟩
    rw [e3]
    refine h1 _ _ ?_ rC _ ⟨D, last, rfl⟩
    have leW := leG.trans le1
    refine ⟨leW.f, fun n a e => ?_, fun a o e => ?_⟩
    · show (W1.rho ++ [D])[n]? = some a
      have e := leW.r n a e
      rw [List.getElem?_append_left (List.getElem?_eq_some_iff.mp e).1]; exact e
    · show ((W1.setG D (some (.dK (zipV (mergeS [] kvs) vs')))).setG D none).G a = some o
      have hne : a ≠ D := fun z => by rw [z, hn] at e; cases e
      rw [Wd.setG_ne hne, Wd.setG_ne hne]
      exact leW.g a o e
  · exact h1.elim
end
end Q

set_option Elab.async false
set_option linter.all false
set_option maxRecDepth 100000
set_option maxHeartbeats 2000000
/-! Q15: methods of dicts, len of objects, lists of ranges, what is walked -/
namespace Q
open PySem L2 PySem.Spec PyProof.Rows
section
variable {X : Cx} {C : QC} {E : XK} {W W1 W2 : Wd} {st : Store} {H : Hp} {D : Addr}
/-! ### methods by what the heap says of the type -/
def TyR (X : Cx) (T : String) (x : V) (H : Hp) : Prop := ∀ (pins : List (Addr × Obj)) (σ : L2.St) (s : Shared) (v : Value), Inv X pins σ H s → RelV x v → s.TypeIs v T ∧ ∀ a, v = .ref a → ∃ ob, s.heap.get? a = some ob ∧ ob.dict = none
theorem TyR.of {T : String} {x : V} (h : tyV X.K T x H) : TyR X T x H := fun _ _ _ _ I r => tyV_is I r h
def tBMx (X : Cx) (T : String) (r : V → List V → Hp → VK → Prop) (to : TE) (ta : TA) : TE := fun σ H Q => to σ H fun x H1 => TyR X T x H1 ∧ ta σ H1 fun vs H2 => r x vs H2 Q
variable {e a b c o i value : Expr} {es : List Expr} {fa fb fc fo fi fv : XE} {pos p p2 pos' tpos apos cpos : Pos} {x m f name : Str} {t : XA} {Ty id : String} {r : V → List V → Hp → VK → Prop}
theorem pe_bmx {to : TE} {ta : TA} (pa : PlainAttrs Ty) (slot : Slot Ty name id) (hty : typeOf (.builtin id) = pure (.type "method_descriptor")) (hm : MtR X id r) (ho : PE X o to) (ha : PA X (e :: es) ta)
    (hbase : attributeBase o name X.env (eval o X.env) = eval o X.env := by rfl)
    (hfew : ((backTo cpos (starEach (e :: es) X.env)).all (fun x => !x.1) && (backToKw cpos (keywordEach [] X.env)).all (fun x => x.1.isSome)
      && decide ((e :: es).length + ([] : List Keyword).length + (if ([] : List Keyword).isEmpty then 0 else 1) < 30)) = true := by rfl)
    (hline : (apos.endLine == cpos.line) = true := by rfl) (hs : starEach (e :: es) X.env = (false, eval e X.env) :: starEach es X.env := by rfl) (hplain : (backTo cpos (starEach es X.env)).any (·.1) = false := by rfl) :
    PE X (.Call (.Attribute o name apos) (e :: es) [] cpos) (tBMx X Ty r to ta) := by
  refine ⟨fun pins s σ H Q I h => ?_⟩
  refine wpAny_Call_method_late hbase hfew hline rfl (thn (ho.run pins s σ H _ I h) fun v s1 ⟨x, H1, I1, r1, ty, q1⟩ => ?_)
  obtain ⟨h1, h2⟩ := ty _ _ _ _ I1 r1
  refine ⟨Ty, id, pa, slot, hty, h1, h2, ?_⟩
  have hA := ha.run cpos pins s1 σ H1 _ I1 q1
  rw [hs] at hA ⊢
  refine Calls.callWith_builtin (by show (false || (backTo cpos (starEach es X.env)).any (·.1)) = false; rw [hplain] <;> rfl) (Calls.evalArgs_plain ?_)
  exact thn hA fun us s2 ⟨vs, H2, I2, r2, q2⟩ => hm pins s2 σ H2 x vs v us Q I2 r1 r2 q2
def RqMx (X : Cx) (C : QC) (E : XK) (T : String) (r : V → List V → Hp → VK → Prop) (ty : Store → S → Bool) (g : GMt) : Prop :=
  (∀ (W : Wd) (st : Store) (H : Hp) (u : S) (x : V), RelSt C W st H → RepS C W u x → ty st u = true → TyR X T x H) ∧
  ∀ (W : Wd) (st : Store) (H : Hp) (u : S) (us : List S) (x : V) (xs : List V) (Q : VK), RelSt C W st H → RepS C W u x → RepSs C W us xs → Aft C E W (g u us st) (fun W' z _ H' => ∀ w, RepS C W' z w → Q w H') → r x xs H Q
theorem qe_mx {ty : Store → S → Bool} {g : GMt} (pa : PlainAttrs Ty) (slot : Slot Ty name id) (hty : typeOf (.builtin id) = pure (.type "method_descriptor")) (hm : MtR X id r) (hg : RqMx X C E Ty r ty g)
    (ho : QE X C E o fo) (ha : QA X C E (e :: es) t) (hbase : attributeBase o name X.env (eval o X.env) = eval o X.env := by rfl)
    (hfew : ((backTo cpos (starEach (e :: es) X.env)).all (fun x => !x.1) && (backToKw cpos (keywordEach [] X.env)).all (fun x => x.1.isSome)
      && decide ((e :: es).length + ([] : List Keyword).length + (if ([] : List Keyword).isEmpty then 0 else 1) < 30)) = true := by rfl)
    (hline : (apos.endLine == cpos.line) = true := by rfl) (hs : starEach (e :: es) X.env = (false, eval e X.env) :: starEach es X.env := by rfl) (hplain : (backTo cpos (starEach es X.env)).any (·.1) = false := by rfl) :
    QE X C E (.Call (.Attribute o name apos) (e :: es) [] cpos) (eMt ty g fo t) := by
  refine (pe_bmx pa slot hty hm ho ha hbase hfew hline hs hplain).imp fun σ H Q h => ?_
  obtain ⟨W, env, st, rs, n, h⟩ := h
  refine T.of rs n h fun W1 u st1 H1 y _ r1 n1 ry h1 => ?_
  split at h1
  · rename_i ht
    refine ⟨hg.1 W1 st1 H1 u y r1 ry ht, TAr.of r1 n1 h1 fun W2 us st2 H2 ys le2 r2 n2 rys h2 => ?_⟩
    exact hg.2 W2 st2 H2 u us y ys Q r2 (ry.mono le2) rys h2
  · exact h1.elim
/-! ### dicts -/
def kvOf (st : Store) : S → Option (List (Key × S))
  | .p (.dk kvs) => some (kvs.map fun p => (p.1, S.p p.2))
  | .c n => match st[n]? with
    | some (.dk kvs) => some kvs
    | _ => none
  | _ => none
theorem kvOf_ok (r : RelSt C W st H) {u : S} {x : V} {kvs : List (Key × S)} (rx : RepS C W u x) (e : kvOf st u = some kvs) : ∃ a vs, x = .ref a ∧ Rd H a (.dK (zipV kvs vs)) ∧ RepSs C W (kvs.map (·.2)) vs := by
  cases u with
  | c n =>
    unfold kvOf at e
    simp only at e
    split at e
    · rename_i kvs' es
      cases e
      obtain ⟨a, ea, ex⟩ := rx
      obtain ⟨hF, vs, eH, rr⟩ := r.cell n _ a es ea
      exact ⟨a, vs, ex, .inl eH, rr⟩
    · cases e
  | p q =>
    cases q <;> simp only [kvOf] at e <;> cases e
    cases rx with
    | dk q rr =>
      have q2 := r.sub _ _ q
      rw [← zipV_p] at q2
      exact ⟨_, _, rfl, .inr ⟨_, q2⟩, by rw [map_snd_p]; exact RepSs.of rr⟩
/-- dict(d) -/
def gDictC : GCall := fun us st => match us with
  | [u] => match kvOf st u with
    | some kvs => .ok (.c st.length) (st ++ [.dk kvs])
    | none => .stuck
  | _ => .stuck
def rDictD : List V → Hp → VK → Prop := fun xs H Q => ∃ (a : Addr) (kvs : List (Key × V)), xs = [.ref a] ∧ Rd H a (.dK kvs) ∧ ∀ p, H p = none → Q (.ref p) (upd H p (.dK kvs))
theorem rq_dictC : RqCall C E rDictD gDictC := by
  intro W st H us xs Q r rs h
  unfold gDictC at h
  split at h
  · rename_i u
    cases rs with
    | cons ru t =>
      cases t
      split at h
      · rename_i kvs ek
        obtain ⟨a, vs, ex, hq, rr⟩ := kvOf_ok r ru ek
        refine ⟨a, _, by rw [ex], hq, fun p hp => ?_⟩
        have fp : W.F p = none := by
          cases z : W.F p with
          | none => rfl
          | some o => have := r.sub _ _ z; rw [hp] at this; cases this
        have le0 : W.le0 ⟨W.F, W.rho ++ [p], W.G⟩ := ⟨fun _ _ e => e, fun n a e => by
          show (W.rho ++ [p])[n]? = some a
          rw [List.getElem?_append_left (List.getElem?_eq_some_iff.mp e).1]; exact e⟩
        obtain ⟨le, r2, hr⟩ := r.laidC (o := .dK (zipV kvs vs)) (c := .dk kvs) hp ⟨fp, vs, upd_same, rr.mono0 le0⟩
        exact h _ _ le r2 _ ⟨p, hr, rfl⟩
      · exact h.elim
  · exact h.elim
/-- it is a dict -/
def isDct (st : Store) : S → Bool
  | .p (.kdk _) => true
  | .p (.dk _) => true
  | .p (.dt _) => true
  | .c n => match st[n]? with
    | some (.dk _) => true
    | some (.dt _) => true
    | _ => false
  | _ => false
theorem isDct_ok (ok : Ok X C) (W : Wd) (st : Store) (H : Hp) (u : S) (x : V) (r : RelSt C W st H) (rx : RepS C W u x) (h : isDct st u = true) : TyR X "dict" x H := by
  intro pins σ s v I rv
  have key : ∀ a, x = .ref a → IsD H a → s.TypeIs v "dict" ∧ ∀ a, v = .ref a → ∃ ob, s.heap.get? a = some ob ∧ ob.dict = none := fun a ex d => by
    subst ex
    cases (show v = Value.ref a from rv)
    exact ⟨(isD_at I d).1, (isD_at I d).2.1⟩
  cases u with
  | c n =>
    unfold isDct at h
    simp only at h
    split at h
    · rename_i kvs es
      obtain ⟨a, ea, ex⟩ := rx
      obtain ⟨hF, vs, eH, rr⟩ := r.cell n _ a es ea
      exact key a ex (.inl ⟨_, .inl eH⟩)
    · rename_i kvs es
      obtain ⟨a, ea, ex⟩ := rx
      obtain ⟨hF, vs, eH, rr⟩ := r.cell n _ a es ea
      exact key a ex (.inr ⟨_, .inl eH⟩)
    · cases h
  | p q =>
    cases q <;> simp only [isDct] at h <;> try cases h
    · cases rx with
      | dk q rr => exact key _ rfl (.inl ⟨_, .inr ⟨_, r.sub _ _ q⟩⟩)
    · cases rx with
      | dt q rr => exact key _ rfl (.inr ⟨_, .inr ⟨_, r.sub _ _ q⟩⟩)
    · cases rx with
      | kdk g rr =>
        rename_i kvs a vs
        cases (show v = Value.ref a from rv)
        obtain ⟨hd, vs2, rel, dd⟩ := g.at ok I
        refine ⟨dd.typeIs, fun b q => ?_⟩
        cases q
        obtain ⟨ob, _, _, h1, h2, _⟩ := dd
        exact ⟨ob, h1, h2.2.1⟩
/-- d.get(k, x) -/
def gGet : GMt := fun u us st => match us with
  | [k, z] => match dictAtK st u k with
    | some (some v) => .ok v st
    | some none => .ok z st
    | none => .stuck
  | [k] => match dictAtK st u k with
    | some (some v) => .ok v st
    | some none => .ok (.p .non) st
    | none => .stuck
  | _ => .stuck
def rGet (C : QC) : V → List V → Hp → VK → Prop := fun x xs H Q => ∃ a y o, x = .ref a ∧ DAny C H a y o ∧ ((∃ d, xs = [y, d] ∧ Q (o.getD d) H) ∨ (xs = [y] ∧ Q (o.getD .non) H))
theorem mt_get (ok : Ok X C) : MtR X "dict.get" (rGet C) := by
  intro pins s σ H x xs v us Q I rx rxs h
  obtain ⟨a, y, o, ex, g, h⟩ := h
  subst ex
  cases (show v = Value.ref a from rx)
  have hu := ok.hu
  rcases h with ⟨d, ey, q⟩ | ⟨ey, q⟩
  · subst ey
    obtain ⟨u1, u2, rfl, r1, r2⟩ := rxs.two
    rcases g with g | ⟨kvs, k, g, e1, e2⟩
    · exact d_get2 (by omega) I g r1 r2 fun w' s' I' rw' => ⟨_, H, I', rw', q⟩
    · subst e1 e2
      obtain ⟨hd, vs, rel, dd⟩ := g.at ok I
      refine call_meetsIn PySem.F.slot_dict_get dd.typeIs PySem.F.entry_dict_get (PySem.F.args_dict_get_3 _ _ _) (meets_dict_get_default (mixKind X.prog X.w) a (kV_is r1) hd u2) ⟨_, dd.mapOf, _, H, I.tok _, ?_, q⟩
      exact (rel.val k).getD r2
  · subst ey
    obtain ⟨u1, rfl, r1⟩ := rxs.one
    rcases g with g | ⟨kvs, k, g, e1, e2⟩
    · exact d_get1 (by omega) I g r1 fun w' s' I' rw' => ⟨_, H, I', rw', q⟩
    · subst e1 e2
      obtain ⟨hd, vs, rel, dd⟩ := g.at ok I
      refine call_meetsIn PySem.F.slot_dict_get dd.typeIs PySem.F.entry_dict_get (PySem.F.args_dict_get_2 _ _) (meets_dict_get (mixKind X.prog X.w) a (kV_is r1) hd) ⟨_, dd.mapOf, _, H, I.tok _, ?_, q⟩
      exact (rel.val k).getD rfl
theorem rq_get (ok : Ok X C) : RqMx X C E "dict" (rGet C) isDct gGet := by
  refine ⟨isDct_ok ok, fun W st H u us x xs Q r ru rs h => ?_⟩
  unfold gGet at h
  split at h
  · rename_i k z
    cases rs with
    | cons r1 t => cases t with
      | cons r2 t =>
        cases t
        split at h
        · rename_i w ew
          obtain ⟨a, v, h1, h2, h3⟩ := dictAtK_get r ru r1 ew
          cases v with
          | none => exact h3.elim
          | some v => exact ⟨a, _, _, h1, h2, .inl ⟨_, rfl, h W H W.le_refl r _ h3⟩⟩
        · rename_i ew
          obtain ⟨a, v, h1, h2, h3⟩ := dictAtK_get r ru r1 ew
          cases v with
          | some v => exact h3.elim
          | none => exact ⟨a, _, _, h1, h2, .inl ⟨_, rfl, h W H W.le_refl r _ r2⟩⟩
        · exact h.elim
  · rename_i k
    cases rs with
    | cons r1 t =>
      cases t
      split at h
      · rename_i w ew
        obtain ⟨a, v, h1, h2, h3⟩ := dictAtK_get r ru r1 ew
        cases v with
        | none => exact h3.elim
        | some v => exact ⟨a, _, _, h1, h2, .inr ⟨rfl, h W H W.le_refl r _ h3⟩⟩
      · rename_i ew
        obtain ⟨a, v, h1, h2, h3⟩ := dictAtK_get r ru r1 ew
        cases v with
        | some v => exact h3.elim
        | none => exact ⟨a, _, _, h1, h2, .inr ⟨rfl, h W H W.le_refl r _ .non⟩⟩
      · exact h.elim
  · exact h.elim
/-- xs.clear(), xs.reverse() -/
def gClear : GMt := fun u us st => match u, us with
  | .c n, [] => match st[n]? with
    | some (.lst _) => .ok (.p .non) (st.set n (.lst []))
    | _ => .stuck
  | _, _ => .stuck
theorem rq_clear (ok : Ok X C) : RqMt C E X.K "list" rClear isLst gClear := by
  refine ⟨isLst_ok ok, fun W st H u us x xs Q r ru rs h => ?_⟩
  unfold gClear at h
  split at h
  · rename_i n
    cases rs
    split at h
    · rename_i zs es
      obtain ⟨a, ea, ex⟩ := ru
      obtain ⟨hF, vs, eH, rr⟩ := r.cell n _ a es ea
      exact ⟨a, vs, ex, rfl, eH, h W _ W.le_refl (r.write es ea hF ⟨hF, [], upd_same, .nil⟩) _ .non⟩
    · exact h.elim
  · exact h.elim
/-! ### len of an object -/
def eLenO (c : Nat) (g : GCall) (a : XE) : XE := fun env st => (a env st).bind fun u st => match fldS st u with
  | some (c', _) => if c' = c then match (g [u] st).nox with
      | .ok (.p (.int n)) st => if decide (0 ≤ n ∧ n < 2 ^ 62) = true then .ok (.p (.int n)) st else .stuck
      | _ => .stuck
    else .stuck
  | none => .stuck
/-- what the class says of len -/
structure LenAt (K : PySem.W.Frag) (D q : Addr) : Prop where
  fi : PySem.W.findIn K (.ref D) "__len__" = some (some (.ref q))
  fn : PySem.W.isFn K (.ref q) = true
theorem call_lenO {k c : Nat} {q : Addr} {g : GCall} (F : FD X.prog X.w X.K X.mg X.base C k q 1 g) (hl : LenAt X.K (C.ca c) q) (hr : Room (k + 1) X.A) : CallR X (.builtin "len") (fun xs H Q => ∃ a dx fs, xs = [.ref a] ∧ H a = some (.ins (C.ca c) dx fs) ∧ sp0 1 C g [.ref a] H (fun v H2 => ∃ n, v = .int n ∧ 0 ≤ n ∧ n < 2 ^ 62 ∧ Q (.int n) H2) E0) := by
  intro pins s σ H xs us Q I r h
  obtain ⟨a, dx, fs, rfl, ea, q1⟩ := h
  rw [Vals.ref1 r]
  obtain ⟨mA, O, _, _, _, _⟩ := ins_get I.hok ea
  obtain ⟨od, J, _⟩ := O.look
  obtain ⟨m, hF⟩ := I.fr
  refine PySem.W.len_K hF I.ok.mod.kin J hl.fi hl.fn (wpAny_mono (wpAny_call (SlX.run_at (us := [.ref a]) (ws := [.ref a]) F.raw hr.in1 I.env0.in1 pass0 I (.cons rfl .nil) q1)) (fun w s' z => ?_) fun _ _ x => x)
  obtain ⟨z', H', I', rz, n, ev, h0, h1, qz⟩ := z
  subst ev
  obtain ⟨t, e⟩ := (show ∃ t, w = Value.int n t from rz)
  cases e
  exact ⟨⟨h0, by omega⟩, .int n, H', I'.tok _, ⟨_, rfl⟩, qz⟩
theorem qe_lenO {k j c : Nat} {q : Addr} {g : GCall} (F : FD X.prog X.w X.K X.mg X.base C k q 1 g) (hl : LenAt X.K (C.ca c) q) (hr : Room j X.A) (hk : k + 1 ≤ j) (gl : Gl X "len") (hm : X.mg "len" = none) (ha : QE X C E e fa)
    (he : starEach [e] X.env = (false, eval e X.env) :: starEach [] X.env := by rfl) (hpl : (backTo pos (starEach [] X.env)).any (·.1) = false := by rfl) : QE X C E (.Call (.Name "len" p) [e] [] pos) (eLenO c g fa) := by
  refine (pe_callB (call_lenO F hl (hr.mono hk)) gl hm PySem.boot_len (pa_cons ha pa_nil he) (he := he) (hpl := hpl)).imp fun σ H Q h => ?_
  obtain ⟨W, env, st, rs, n, h⟩ := h
  refine T.of rs n h fun W1 u st1 H1 y _ r1 n1 ry h1 => ?_
  split at h1
  · rename_i c' fs ef
    split at h1
    · rename_i hc
      subst hc
      obtain ⟨a, dx, vs, ex, eH, rr⟩ := fldS_ok r1 ry ef
      refine ⟨a, dx, _, by rw [ex], eH, W1, st1, [u], r1, .cons (by rw [← ex]; exact ry) .nil, rfl, ?_⟩
      cases eg : g [u] st1 with
      | stuck => rw [eg] at h1; exact h1.elim
      | exc c fs st4 => rw [eg] at h1; exact h1.elim
      | ok v st2 =>
        rw [eg] at h1
        simp only [R.nox_ok] at h1
        intro W2 H2 le2 r2 y2 ry2
        split at h1
        · rename_i nn st3 e3
          cases e3
          split at h1
          · rename_i hb
            cases ry2
            obtain ⟨b1, b2⟩ := of_decide_eq_true hb
            exact ⟨_, rfl, b1, b2, h1 W2 H2 le2 r2 _ (.int _)⟩
          · exact h1.elim
        · exact h1.elim
    · exact h1.elim
  · exact h1.elim
/-! ### list(range(..)) -/
def rgP (a b : Int) : List P := (List.range (b - a).toNat).map fun (i : Nat) => P.int (a + ((i : Nat) : Int))
theorem rgP_rep {F : Hp} (a b : Int) : Reps C F (rgP a b) (rgV a b) := by
  unfold rgP rgV
  generalize List.range (b - a).toNat = l
  induction l with
  | nil => exact .nil
  | cons n t ih => exact .cons (.int _) ih
def eLstRg1 (a : XE) : XE := fun env st => (a env st).bind fun u st => match u with
  | .p (.int j) => if decide (-(2 ^ 62) ≤ j ∧ j ≤ 16777216) = true then .ok (.p (.lst (rgP 0 j))) st else .stuck
  | _ => .stuck
def eLstRg2 (a b : XE) : XE := fun env st => (a env st).bind fun u st => (b env st).bind fun v st => match u, v with
  | .p (.int i), .p (.int j) => if decide (-(2 ^ 60) ≤ i ∧ i < 2 ^ 60 ∧ -(2 ^ 60) ≤ j ∧ j < 2 ^ 60 ∧ j - i ≤ 16777216) = true then .ok (.p (.lst (rgP i j))) st else .stuck
  | _, _ => .stuck
theorem qe_lstRg1 {q : Pos} (ok : Ok X C) (hg : Gl X "list") (hm : X.mg "list" = none) (hg2 : Gl X "range") (hm2 : X.mg "range" = none) (ha : QE X C E a fa) (hs1 : starEach [a] X.env = (false, eval a X.env) :: starEach [] X.env := by rfl)
    (na : starEach [.Call (.Name "range" p2) [a] [] q] X.env = (false, eval (.Call (.Name "range" p2) [a] [] q) X.env) :: starEach [] X.env := by rfl) : QE X C E (.Call (.Name "list" p) [.Call (.Name "range" p2) [a] [] q] [] pos) (eLstRg1 fa) := by
  refine (pe_listRg ok.calm hg hm (prg_1 hg2 hm2 ha hs1) na).imp fun σ H Q h => ?_
  obtain ⟨W, env, st, rs, n, h⟩ := h
  refine T.of rs n h fun W1 u st1 H1 y _ r1 n1 ry h1 => ?_
  split at h1
  · rename_i j
    cases ry
    split at h1
    · rename_i hb
      obtain ⟨b1, b2⟩ := of_decide_eq_true hb
      refine ⟨j, rfl, ⟨by omega, by omega, b1, by omega, by omega⟩, fun q hq => ?_⟩
      have le := (r1.laidF hq (.lst (rgV 0 j))).1
      exact aft_laid r1 hq h1 _ (.lst upd_same ((rgP_rep 0 j).mono le.f))
    · exact h1.elim
  · exact h1.elim
theorem qe_lstRg2 {q : Pos} (ok : Ok X C) (hg : Gl X "list") (hm : X.mg "list" = none) (hg2 : Gl X "range") (hm2 : X.mg "range" = none) (ha : QE X C E a fa) (hb : QE X C E b fb) (hs1 : starEach [a, b] X.env = (false, eval a X.env) :: starEach [b] X.env := by rfl) (hs2 : starEach [b] X.env = (false, eval b X.env) :: starEach [] X.env := by rfl)
    (hp : (backTo q (starEach [b] X.env)).any (·.1) = false := by rfl) (na : starEach [.Call (.Name "range" p2) [a, b] [] q] X.env = (false, eval (.Call (.Name "range" p2) [a, b] [] q) X.env) :: starEach [] X.env := by rfl) : QE X C E (.Call (.Name "list" p) [.Call (.Name "range" p2) [a, b] [] q] [] pos) (eLstRg2 fa fb) := by
  refine (pe_listRg ok.calm hg hm (prg_2 hg2 hm2 ha hb hs1 hs2 hp) na).imp fun σ H Q h => ?_
  obtain ⟨W, env, st, rs, n, h⟩ := h
  refine T.of rs n h fun W1 u st1 H1 y _ r1 n1 ry h1 => T.of r1 n1 h1 fun W2 v st2 H2 z le2 r2 n2 rz h2 => ?_
  split at h2
  · rename_i i j
    cases ry; cases rz
    split at h2
    · rename_i hb
      obtain ⟨b1, b2, b3, b4, b5⟩ := of_decide_eq_true hb
      refine ⟨i, j, rfl, rfl, ⟨by omega, by omega, by omega, by omega, by omega⟩, fun q hq => ?_⟩
      have le := (r2.laidF hq (.lst (rgV i j))).1
      exact aft_laid r2 hq h2 _ (.lst upd_same ((rgP_rep i j).mono le.f))
    · exact h2.elim
  · exact h2.elim
end
end Q

set_option Elab.async false
set_option linter.all false
set_option maxRecDepth 100000
set_option maxHeartbeats 2000000
/-! Q15e: enumerate over a tuple, on the heap -/
namespace Q
open PySem PySem.Spec PyProof.Rows L2

/-- an enumerate object as it begins -/
def enObj (n : Nat) : Obj := { cls := .type "enumerate", data := .fields #[.none, .bool false, .ref n, rawInt 0, .none, .none] }
theorem en_new {v : Value} {o : Obj} {H : Heap → Prop} (B : Begins v o H) :
    Meets (Builtin.«enumerate.__new__» ⟨[.type "enumerate", v], []⟩) fun _ R s => H s.heap ∧ R (.ok (.ret (.ref (s.heap.push o).objs.size))) { s with heap := (s.heap.push o).push (enObj s.heap.objs.size) } :=
  .of_wp fun prog w A R s h => by
    obtain ⟨hp, g, d, tk, os⟩ := s
    obtain ⟨h1, h⟩ := h
    have hsub := sub_enumerate
    have it1 : ∀ {A' : Around} {E Q' : Value → Shared → Prop}, Q' (.ref hp.objs.size) ⟨hp.push o, g, d, tk, os⟩ → wpAny (model prog w) A' (pyIter v) Q' E ⟨hp, g, d, tk, os⟩ := fun q => B.iter prog w _ _ _ _ h1 q
    wp_walk using it1
    refine wpAny_stack_any fun st => wpAny_pure ?_
    split
    · rename_i c _ _ _ _ _
      cases (c == Value.type "enumerate") <;> (wp_walk using it1; exact ⟨_, rfl, h⟩)
    · wp_walk using it1; exact ⟨_, rfl, h⟩
section
variable {prog : Program} {w : World} {A : Around} {E : Value → Shared → Prop} {s : Shared}
theorem en_call {v : Value} {o : Obj} {H : Heap → Prop} {Q' : Value → Shared → Prop} (B : Begins v o H) (h1 : H s.heap)
    (h : ∀ h', IsEnum h' (s.heap.objs.size + 1) s.heap.objs.size 0 .none → h'.get? s.heap.objs.size = some o → (∀ b o', s.heap.get? b = some o' → h'.get? b = some o') → Q' (.ref (s.heap.objs.size + 1)) { s with heap := h' }) :
    wpAny (model prog w) A (call (.type "enumerate") [v]) Q' E s := by
  have z : (s.heap.push o).objs.size = s.heap.objs.size + 1 := Heap.size_push ..
  have g1 : ((s.heap.push o).push (enObj s.heap.objs.size)).get? (s.heap.objs.size + 1) = some (enObj s.heap.objs.size) := by
    rw [← z]; exact Heap.get?_push_size _ rfl
  refine callType_new F.called_enumerate (by decide) (F.typeCall_enumerate_1 _) (F.newCall_enumerate_1 _) (fun obj => F.args_object_init_2 obj _) F.entry_enumerate_new (en_new B) ⟨h1, ?_⟩
  show _ ∧ _
  rw [z]
  exact ⟨⟨_, g1, rfl⟩, h _ g1 (Heap.get?_push_of_some _ (Heap.get?_push_size _ B.free)) fun b o' x => Heap.get?_push_of_some _ (Heap.get?_push_of_some _ x)⟩
end
/-- the tuple at a, each item in a new pair with its number -/
def ItEn (K : PySem.W.Frag) (a : Addr) : It where
  go i H := ∃ (xs : List V) (x : V), SqT K H a xs ∧ xs[i]? = some x
  yld i H v H' := ∃ T x, v = .ref T ∧ H T = none ∧ H' = upd H T (.tup [.int (i : Nat), x]) ∧ ∀ xs, SqT K H a xs → xs[i]? = some x
  stop i H := ∃ xs : List V, SqT K H a xs ∧ xs.length ≤ i
theorem en_ne {h : Heap} {e it a : Addr} {i : Int} {old : Value} {its : Array Value} (he : IsEnum h e it i old) (p : h.IsTuple a its) : e ≠ a := by
  rintro rfl
  obtain ⟨o, ho, hc, _⟩ := p
  rw [he] at ho
  cases ho
  injection hc with z
  exact absurd z (by decide)
theorem ti_ne {h : Heap} {it a b : Addr} {i : Nat} {its : Array Value} (ht : h.IsTupleIter it b i) (p : h.IsTuple a its) : a ≠ it := by
  rintro rfl
  obtain ⟨o, ho, hc, _⟩ := p
  obtain ⟨o2, ho2, hc2, _⟩ := ht
  rw [ho] at ho2
  cases ho2
  rw [hc] at hc2
  injection hc2 with z
  exact absurd z (by decide)
theorem en_end {prog : Program} {w : World} {A : Around} (hh : A.handled = none) (it t : Addr) (items : Array Value) {i : Nat} (hi : items.size ≤ i) :
    Draws prog w A it [it, t] i (fun _ _ => True) fun j h => j = i ∧ h.IsTupleIter it t i ∧ h.IsTuple t items where
  live _ _ st := let ⟨o, ho, _⟩ := st.2.1; ⟨o, ho⟩
  frame _ _ _ st hk := ⟨st.1, st.2.1.at fun o e => hk it (by simp) o e, st.2.2.at fun o e => hk t (by simp) o e⟩
  item j _ _ _ hj st _ := absurd st.1 (Nat.ne_of_lt hj)
  done _ _ _ st hE := wpAny_nextOf_tuple_end hh st.2.1 st.2.2 (by simp [hi]) hE
theorem turn_en {P : Program} {w : World} {K : PySem.W.Frag} {elts : List Expr} {kk : Nat} {tpos : Pos} (a e it : Addr) :
    Turn P w K (.Tuple elts kk tpos) (ItEn K a) [e, it] e fun i h => (∃ old, IsEnum h e it ((i : Nat) : Int) old) ∧ h.IsTupleIter it a i ∧ e ≠ it where
  mem := List.mem_cons_self ..
  obj i h st b hb := by
    obtain ⟨⟨old, he⟩, ⟨o, ho, hc, hd⟩, _⟩ := st
    rcases List.mem_cons.mp hb with z | z
    · subst z; exact ⟨_, he, fun v q => nomatch q⟩
    · rw [List.mem_singleton.mp z]; exact ⟨o, ho, fun v q => nomatch hd.symm.trans q⟩
  keep i h h' st k := by
    obtain ⟨⟨old, he⟩, ti, ne⟩ := st
    exact ⟨⟨old, k e (List.mem_cons_self ..) _ he⟩, ti.at fun o q => k it (by simp) o q, ne⟩
  item := by
    intro X hP hw hK hc i pins s σ H E I hf ⟨⟨old, he⟩, ti, ne⟩ ⟨xs, x, hq, hx⟩
    subst hP hw hK
    obtain ⟨its, rv, p, _⟩ := I.tuple hq
    have p' : s.heap.IsTuple a its.toArray := p
    obtain ⟨u, hu, ru⟩ := rv.get hx
    have le : e < s.heap.objs.size := Heap.lt_size he
    have li : it < s.heap.objs.size := let ⟨_, q, _⟩ := ti; Heap.lt_size q
    have hi : i < its.toArray.size := by
      have : i < its.length := (List.getElem?_eq_some_iff.mp hu).1
      simpa using this
    have nm : e ∉ [it, a] := by
      have := en_ne he p'
      simp [ne, this]
    refine wpAny_pyNext_enum_itemD (Draws.tuple (A := X.A.in1) (show X.A.in1.handled = none from I.ok.hd hc) it a (ti_ne ti p') its.toArray) he ⟨ti, p'⟩ hi ne nm fun y h1 tk hy ho st1 hT _ hk => ?_
    have ey : y = u := by
      have : its.toArray[i]? = some u := by simpa using hu
      rw [this] at hy; cases hy; rfl
    subst ey
    refine ⟨_, rfl, wpAny_letOwnedTupleGo_enum (s := { s with heap := h1, toks := tk + 1 }) ho fun h2 he2 sb => ?_⟩
    have hT2 := (sb.2 _ (Nat.ne_of_gt le)).trans hT
    have new : ObjOk X.prog X.w (upd H s.heap.objs.size (.tup [.int (i : Nat), x])) h2 s.heap.objs.size (.tup [.int (i : Nat), x]) := by
      refine ⟨by show 2 ≤ sizeLine; decide, [.int i tk, y], .cons ⟨_, rfl⟩ (.cons ru .nil), _, hT2, rfl, _, rfl⟩
    have I1 : Inv X pins σ (upd H s.heap.objs.size (.tup [.int (i : Nat), x])) { s with heap := h2, toks := tk + 1 } := by
      refine I.turnedNew (ch := [e, it]) (fun b ob hb q => ?_) hf (Nat.le_refl _) new
      simp only [List.mem_cons, List.not_mem_nil, or_false, not_or] at hb
      exact (sb.2 b hb.1).trans (hk b ob hb.1 hb.2 q)
    refine ⟨.ref s.heap.objs.size, _, I1, rfl, ⟨_, x, rfl, I.hok.fresh (Nat.le_refl _), rfl, fun ys hy2 => ?_⟩, ⟨⟨y, ?_⟩, st1.1.at fun o q => (sb.2 it ne.symm).trans q, ne⟩, fun b hb => ?_⟩
    · rw [I.tuple_inj hy2 hq]; exact hx
    · rw [show ((i + 1 : Nat) : Int) = (i : Int) + 1 by omega]; exact he2
    · have lb : b < s.heap.objs.size := by
        rcases List.mem_cons.mp hb with z | z
        · exact z ▸ le
        · exact List.mem_singleton.mp z ▸ li
      rw [upd_ne (Nat.ne_of_lt lb)]
      exact (hf b hb).1
  done := by
    intro X hP hw hK hc i pins s σ H E I hf ⟨⟨old, he⟩, ti, ne⟩ ⟨xs, hq, hx⟩
    subst hP hw hK
    obtain ⟨its, rv, p, _⟩ := I.tuple hq
    have p' : s.heap.IsTuple a its.toArray := p
    obtain ⟨f0, f1, f2, f3, f4, f5⟩ := hf it (by simp)
    have hl := rv.length
    refine wpAny_pyNext_enum_endD (en_end (A := X.A.in1) (show X.A.in1.handled = none from I.ok.hd hc) it a its.toArray (by simp; omega)) he ⟨rfl, ti, p'⟩ fun h1 eb => ⟨rfl, ?_⟩
    exact I.turned (t' := s.toks) (fun b o hb q => eb b o hb q) f0 f1 f3 f4 f5
  self A i s Q' E st h := let ⟨⟨_, he⟩, _⟩ := st; wpAny_pyIter_enum he h
/-- enumerate of a list or a tuple -/
theorem pi_en {X : Cx} {e : Expr} {ta : TA} {p pos tpos : Pos} {elts : List Expr} {kk : Nat} (hg : Gl X "enumerate") (hm : X.mg "enumerate" = none) (ha : PA X [e] ta) (hs : starEach [e] X.env = [(false, eval e X.env)] := by rfl) :
    PI X (.Tuple elts kk tpos) (.Call (.Name "enumerate" p) [e] [] pos) fun σ H R => ta σ H fun vs H1 => ∃ a xs, vs = [.ref a] ∧ ((SqL X.K H1 a xs ∧ R (Ite X.K a) H1) ∨ (SqT X.K H1 a xs ∧ R (ItEn X.K a) H1)) := by
  refine ⟨fun pins s σ H R I h => Call_ (ld_blt I hg hm boot_enumerate (PyProof.Rows.callWith_type1 (thn (ha.run pos pins s σ H _ I h) fun us s1 q => ?_) hs rfl))⟩
  obtain ⟨vs, H1, I1, r1, a, xs, rfl, q⟩ := q
  cases r1 with
  | cons r rr =>
    cases rr
    cases r
    have ok2 : ∀ b ∈ [s1.heap.objs.size + 1, s1.heap.objs.size], FpOk X pins H1 b := fun b hb => by
      have lb : s1.heap.objs.size ≤ b := by
        rcases List.mem_cons.mp hb with z | z
        · exact z ▸ Nat.le_add_right ..
        · exact List.mem_singleton.mp z ▸ Nat.le_refl _
      exact I1.fpOk lb (I1.hok.fresh lb)
    rcases q with ⟨hq, q⟩ | ⟨hq, q⟩
    · obtain ⟨its, rv, p', _⟩ := I1.list hq
      refine en_call (begins_list a its.toArray) p'.isList fun h1 he hit hk => wpAny_pyIter_enum he ?_
      exact ⟨_, _, _, _, H1, rfl, I1.kept (t' := s1.toks) hk, turn_enum a _ s1.heap.objs.size, ⟨⟨.none, he⟩, ⟨_, hit, rfl, rfl⟩, Nat.succ_ne_self _⟩, ok2, q⟩
    · obtain ⟨its, rv, p', _⟩ := I1.tuple hq
      refine en_call (begins_tuple a its.toArray) p' fun h1 he hit hk => wpAny_pyIter_enum he ?_
      exact ⟨_, _, _, _, H1, rfl, I1.kept (t' := s1.toks) hk, turn_en a _ s1.heap.objs.size, ⟨⟨.none, he⟩, ⟨_, hit, rfl, rfl⟩, Nat.succ_ne_self _⟩, ok2, q⟩
end Q

set_option Elab.async false
set_option linter.all false
set_option maxRecDepth 100000
set_option maxHeartbeats 2000000
/-! Q16: dicts are walked, enumerate, data through cells -/
namespace Q
open PySem L2 PySem.Spec PyProof.Rows
section
variable {X : Cx} {C : QC} {E : XK} {W W1 W2 : Wd} {st : Store} {H : Hp} {d : Addr}
/-! ### a written dict -/
def Itw (kvs : List (Key × V)) : It :=
  ⟨fun i _ => i < kvs.length, fun i H x H' => H' = H ∧ ∃ k v, kvs[i]? = some (k, v) ∧ x = kV k, fun i _ => kvs.length ≤ i⟩
/-- what the written dict is in every state -/
structure KdAt (K : PySem.W.Frag) (P : Program) (w : World) (d : Addr) (kvs : List (Key × V)) (o : Obj) (es : Array DictEntry) (ep : Nat) (vs : List (Key × Value)) : Prop where
  sm : (d == sysModules) = false
  at_ : K.lookup d = some o
  ex : o.ExactDict
  dat : o.data = .dict es ep
  sz : es.size = kvs.length
  kv : KV kvs vs
  all : ∀ h : Heap, K.In h → h.DictAt (mixKind P w) d vs ep
theorem kdAt_of (ok : Ok X C) {kvs : List (Key × V)} (g : KDict C d kvs) {h0 : Heap} (hin : X.K.In h0) : ∃ o es ep vs, KdAt X.K X.prog X.w d kvs o es ep vs := by
  obtain ⟨hd, z, vs, o, rel, hk, hdn, dd⟩ := g
  rw [ok.hC] at hk dd
  rw [ok.hP, ok.hw] at dd
  obtain ⟨o', es, ep, h1, h2, h3, h4⟩ := dd h0 hin
  have e0 := hin _ _ hk
  rw [e0] at h1
  cases h1
  refine ⟨o, es, ep, vs, hd, hk, h2, h3, ?_, rel, fun h hh => ?_⟩
  · have l1 := h4.2.1.length
    have l2 : kvs.length = vs.length := Paired.length rel
    rw [Array.length_toList] at l1
    omega
  · obtain ⟨o2, es2, ep2, q1, q2, q3, q4⟩ := dd h hh
    have e1 := hh _ _ hk
    rw [e1] at q1
    cases q1
    rw [h3] at q3
    cases q3
    exact ⟨o, es, e1, h2, h3, q4⟩
theorem turn_kd {P : Program} {w : World} {K : PySem.W.Frag} {tg : Expr} {kvs : List (Key × V)} {o : Obj} {es : Array DictEntry} {ep : Nat} {vs : List (Key × Value)} (it : Addr) (hK0 : KdAt K P w d kvs o es ep vs) : Turn P w K tg (Itw kvs) [it] it (fun i h => h.IsKeyIter it d i kvs.length ep) where
  mem := by simp
  obj := fun i h st b hb => by
    have e : b = it := by simpa using hb
    subst e
    obtain ⟨oi, e, c, dd⟩ := st
    exact ⟨oi, e, fun v z => by rw [dd] at z; cases z⟩
  keep := fun i h h' st k => st.at fun oi e => k it (by simp) oi e
  item := by
    intro X hP hw hK hc i pins s σ H E I hf st hg
    subst hP hw hK
    have hi : i < kvs.length := hg
    obtain ⟨f0, f1, f2, f3, f4, f5⟩ := hf it (by simp)
    have hm := hK0.all s.heap I.kIn
    obtain ⟨⟨k, v⟩, hkv⟩ : ∃ p, kvs[i]? = some p := ⟨kvs[i], List.getElem?_eq_getElem hi⟩
    obtain ⟨u, hu, ru⟩ := kv_get hK0.kv hkv
    have hl : kvs.length = vs.length := Paired.length hK0.kv
    rw [hl] at st
    refine wpAny_pyNext_dict_item st hm hu fun key h' hkey st' sb => ?_
    have I1 : Inv X pins σ H { s with heap := h' } := I.turned (t' := s.toks) (fun b ob hb e => (sb.2 b hb).trans e) f0 f1 f3 f4 f5
    obtain ⟨oi, e, c, dd⟩ := id st'
    refine ⟨key, rfl, go_of (s := { s with heap := h' }) e c dd (by decide) ⟨kV k, H, I1, relV_key (show keyIs k key = true from hkey), ⟨rfl, k, v, hkv, rfl⟩, ?_, fun b hb => (hf b hb).1⟩⟩
    show h'.IsKeyIter it d (i + 1) kvs.length _
    rw [hl]
    exact st'
  done := by
    intro X hP hw hK hc i pins s σ H E I hf st hg
    subst hP hw hK
    have hi : kvs.length ≤ i := hg
    obtain ⟨f0, f1, f2, f3, f4, f5⟩ := hf it (by simp)
    exact next_key_end (I.ok.hd hc) st (I.kIn _ _ hK0.at_) hK0.dat hK0.sz hi fun h' eb => ⟨rfl, I.turned (t' := s.toks) (fun b ob hb e => eb b ob hb e) f0 f1 f3 f4 f5⟩
  self := fun A i s Q E st h => wpAny_pyIter_keyiter st h
def iKeysQ (C : QC) (td : TE) : TI := fun σ H R => td σ H fun x H1 => ∃ d, x = .ref d ∧ ((∃ o kvs, H1 d = some (.frz o (.dK kvs)) ∧ R (Itk d o kvs) H1) ∨ ∃ kvs, KDict C d kvs ∧ R (Itw kvs) H1)
variable {tg e a b : Expr} {td : TE} {fa : XE} {p pos tpos : Pos}
theorem pi_keysQ (ok : Ok X C) (he : PE X e td) : PI X tg e (iKeysQ C td) := by
  refine ⟨fun pins s σ H R I h => ?_⟩
  refine thn (he.run pins s σ H _ I h) fun u s1 ⟨x, H1, I1, rx, d, ex, q⟩ => ?_
  subst ex
  obtain rfl : u = Value.ref d := rx
  rcases q with ⟨o, kvs, hd, q⟩ | ⟨kvs, g, q⟩
  · obtain ⟨hs, hgd, hx, es, ep, vs, hdt, hsz, kv, hm⟩ := I1.frzK hd
    refine iter_keys hs hgd hx hdt (pi_one (tk := s1.toks) I1 _ (turn_keys _ hdt) ⟨_, Heap.get?_push_size _ rfl, rfl, ?_⟩ q)
    rw [hsz] <;> rfl
  · obtain ⟨o, es, ep, vs, hK0⟩ := kdAt_of ok g I1.kIn
    refine iter_keys hK0.sm (I1.kIn _ _ hK0.at_) hK0.ex hK0.dat (pi_one (tk := s1.toks) I1 _ (turn_kd _ hK0) ⟨_, Heap.get?_push_size _ rfl, rfl, ?_⟩ q)
    rw [hK0.sz] <;> rfl
/-- the keys of a frozen or written dict -/
def dkeys : S → Option (List S)
  | .p (.dk kvs) => some (kvs.map fun p => S.p (keyP p.1))
  | .p (.kdk kvs) => some (kvs.map fun p => S.p (keyP p.1))
  | _ => none
def iDict (a : XE) : XI := fun env st => (a env st).bind fun u st => match dkeys u with
  | some us => .ok us st
  | none => .stuck
theorem rep_key {F : Hp} (k : Key) : Rep C F (keyP k) (kV k) := by
  cases k with
  | inl i => exact .int i
  | inr x => exact .str x
theorem zip_at {κ : Type} : ∀ {kvs : List (κ × P)} {vs : List V} {i : Nat} {k : κ} {v : V}, (zipV kvs vs)[i]? = some (k, v) → ∃ p, kvs[i]? = some (k, p)
  | [], _, i, _, _, h => by simp [zipV] at h
  | _ :: _, [], i, _, _, h => by simp [zipV] at h
  | p :: r, v :: vs, 0, _, _, h => by
    simp only [zipV, List.getElem?_cons_zero, Option.some.injEq, Prod.mk.injEq] at h
    exact ⟨p.2, by rw [← h.1]; rfl⟩
  | p :: r, v :: vs, i + 1, _, _, h => by
    simp only [zipV, List.getElem?_cons_succ] at h ⊢
    exact zip_at h
theorem qi_dict (ok : Ok X C) (h : QE X C E e fa) : QI X C E tg e (iDict fa) := by
  refine (pi_keysQ ok h).imp fun σ H R hR => ?_
  obtain ⟨W, env, st, rs, n, h⟩ := hR
  refine T.of rs n h fun W1 u st1 H1 x _ r1 n1 rx h1 => ?_
  cases eu : dkeys u with
  | none => rw [eu] at h1; exact h1.elim
  | some us =>
    simp only [eu] at h1
    have k := h1 W1 H1 W1.le_refl r1
    cases u with
    | c m => cases eu
    | p q =>
      cases q <;> simp only [dkeys] at eu <;> cases eu
      · cases rx with
        | dk q rr =>
          rename_i kvs a o vs
          refine ⟨a, rfl, .inl ⟨o, _, r1.sub _ _ q, k _ fun W2 st2 H2 le r2 i => ?_⟩⟩
          have hq := r2.sub _ _ (le.f _ _ q)
          have hl : (zipV kvs vs).length = kvs.length := zipV_length (by have := rr.length; simpa using this)
          refine ⟨fun hi => ⟨⟨hq, by rw [hl]; simpa using hi⟩, fun y H3 ⟨e3, k2, v2, ek, ey⟩ => ⟨W2, W2.le_refl, by rw [e3]; exact r2, S.p (keyP k2), ?_, by rw [ey]; exact rep_key k2⟩⟩, fun hi => ⟨hq, by rw [hl]; simpa using hi⟩⟩
          obtain ⟨p, ep⟩ := zip_at ek
          rw [List.getElem?_map, ep]; rfl
      · cases rx with
        | kdk g rr =>
          rename_i kvs a vs
          refine ⟨a, rfl, .inr ⟨_, g, k _ fun W2 st2 H2 le r2 i => ?_⟩⟩
          have hl : (zipV kvs vs).length = kvs.length := zipV_length (by have := rr.length; simpa using this)
          refine ⟨fun hi => ⟨by show i < (zipV kvs vs).length; rw [hl]; simpa using hi, fun y H3 ⟨e3, k2, v2, ek, ey⟩ => ⟨W2, W2.le_refl, by rw [e3]; exact r2, S.p (keyP k2), ?_, by rw [ey]; exact rep_key k2⟩⟩, fun hi => by show (zipV kvs vs).length ≤ i; rw [hl]; simpa using hi⟩
          obtain ⟨p, ep⟩ := zip_at ek
          rw [List.getElem?_map, ep]; rfl
/-! ### enumerate(list) -/
def enumP (ps : List P) : List S := ps.zipIdx.map fun p => S.p (.tup [.int (p.2 : Int), p.1])
def frzL : S → Option (List P)
  | .p (.lst l) => some l
  | .p (.tup l) => some l
  | .p (.scr ns) => some (ns.map P.int)
  | _ => none
def iEnumQ (a : XE) : XI := fun env st => (a env st).bind fun u st => match frzL u with
  | some ps => .ok (enumP ps) st
  | none => .stuck
theorem reps_ints {F : Hp} : ∀ ns : List Int, Reps C F (ns.map P.int) (ns.map V.int)
  | [] => .nil
  | n :: ns => .cons (.int n) (reps_ints ns)
theorem frzL_ok {s : S} {x : V} {ps : List P} (rx : RepS C W s x) (e : frzL s = some ps) : ∃ a xs, x = .ref a ∧ (SqL C.K W.F a xs ∨ SqT C.K W.F a xs) ∧ Reps C W.F ps xs := by
  cases s with
  | c n => cases e
  | p q =>
    cases q <;> simp only [frzL] at e <;> cases e
    · cases rx with
      | tup q rr => exact ⟨_, _, rfl, .inr (SqT.of q), rr⟩
    · cases rx with
      | lst q rr => exact ⟨_, _, rfl, .inl (SqL.of q), rr⟩
    · cases rx with
      | scr q => exact ⟨_, _, rfl, .inl q, reps_ints _⟩
theorem qi_enum {elts : List Expr} {kk : Nat} (ok : Ok X C) (hg : Gl X "enumerate") (hm : X.mg "enumerate" = none) (ha : QE X C E e fa) (hs1 : starEach [e] X.env = (false, eval e X.env) :: starEach [] X.env := by rfl) (hs : starEach [e] X.env = [(false, eval e X.env)] := by rfl) :
    QI X C E (.Tuple elts kk tpos) (.Call (.Name "enumerate" p) [e] [] pos) (iEnumQ fa) := by
  refine (pi_en hg hm (pa_cons ha pa_nil hs1) hs).imp fun σ H R hR => ?_
  obtain ⟨W, env, st, rs, n, h⟩ := hR
  refine T.of rs n h fun W1 u st1 H1 x _ r1 n1 rx h1 => ?_
  cases eu : frzL u with
  | none => rw [eu] at h1; exact h1.elim
  | some ps =>
    simp only [eu] at h1
    obtain ⟨a, xs, ex, hq, rr⟩ := frzL_ok rx eu
    have k := h1 W1 H1 W1.le_refl r1
    rw [← ok.hC]
    have hl : (enumP ps).length = ps.length := by simp [enumP]
    refine ⟨a, xs, by rw [ex], ?_⟩
    rcases hq with hq | hq
    · refine .inl ⟨sqL_le r1.sub hq, k _ fun W2 st2 H2 le r2 i => ?_⟩
      have hq2 : SqL C.K H2 a xs := sqL_le r2.sub (sqL_le le.f hq)
      rw [hl]
      refine ⟨fun hi => ?_, fun hi => ⟨xs, hq2, by rw [← rr.length]; exact hi⟩⟩
      obtain ⟨v, ev, rv⟩ := rr.get (List.getElem?_eq_getElem hi)
      refine ⟨⟨xs, v, hq2, ev⟩, fun y H3 ⟨Tt, w, ey, hT, eH, hw⟩ => ?_⟩
      have := hw xs hq2
      rw [ev] at this; cases this
      obtain ⟨le3, r3⟩ := r2.laidF hT (.tup [.int (i : Nat), v])
      refine ⟨_, le3, by rw [eH]; exact r3, S.p (.tup [.int (i : Int), ps[i]]), ?_, ?_⟩
      · unfold enumP
        rw [List.getElem?_map, List.getElem?_zipIdx, List.getElem?_eq_getElem hi]
        simp
      · rw [ey]
        exact .tup upd_same (.cons (.int _) (.cons ((rv.mono le.f).mono le3.f) .nil))
    · refine .inr ⟨sqT_le r1.sub hq, k _ fun W2 st2 H2 le r2 i => ?_⟩
      have hq2 : SqT C.K H2 a xs := sqT_le r2.sub (sqT_le le.f hq)
      rw [hl]
      refine ⟨fun hi => ?_, fun hi => ⟨xs, hq2, by rw [← rr.length]; exact hi⟩⟩
      obtain ⟨v, ev, rv⟩ := rr.get (List.getElem?_eq_getElem hi)
      refine ⟨⟨xs, v, hq2, ev⟩, fun y H3 ⟨Tt, w, ey, hT, eH, hw⟩ => ?_⟩
      have := hw xs hq2
      rw [ev] at this; cases this
      obtain ⟨le3, r3⟩ := r2.laidF hT (.tup [.int (i : Nat), v])
      refine ⟨_, le3, by rw [eH]; exact r3, S.p (.tup [.int (i : Int), ps[i]]), ?_, ?_⟩
      · unfold enumP
        rw [List.getElem?_map, List.getElem?_zipIdx, List.getElem?_eq_getElem hi]
        simp
      · rw [ey]
        exact .tup upd_same (.cons (.int _) (.cons ((rv.mono le.f).mono le3.f) .nil))
end
end Q

set_option Elab.async false
set_option linter.all false
set_option maxRecDepth 100000
set_option maxHeartbeats 2000000
/-! Q17: comprehensions of one, two and three clauses -/
namespace Q
open PySem L2 PySem.Spec PyProof.Rows
theorem Ok.blk {X : Cx} {C : QC} (ok : Ok X C) {s : Shared} {H : Hp} {scope : Scope} {cenv : PySem.Env} {fp : List Addr} : Ok (X.blk s H scope cenv fp) C := ⟨ok.hC, ok.hP, ok.hw, ok.calm, ok.hu⟩
/-- how the end of a list comprehension is taken: frozen, or as a cell -/
structure FinLs (C : QC) (fz : List S → Store → R S) : Prop where
  fin : ∀ E, FinL C E accL [] fz
  sz : ∀ E (ys : List S) st W k, Aft C E W (fz ys st) k → ys.length ≤ sizeLine
theorem finFz {C : QC} : FinLs C fzL := ⟨fun _ => finL_fz, fun _ _ _ _ _ h => fzL_size h⟩
theorem finCl {C : QC} : FinLs C clL := ⟨fun _ => finL_cl, fun _ _ _ _ _ h => clL_size h⟩
section
variable {tg iter tg1 iter1 elt kx vx : Expr} {ifs ifs1 : List Expr} {gens : List Comprehension} {scope : Scope} {pos : Pos} {d : Nat} {it acc : Value} {env : PySem.Env} {D : Addr}
theorem turnL_more (h0 : gens[d]? = some ⟨tg, iter, ifs, 0⟩) (h1 : gens[d + 1]? = some ⟨tg1, iter1, ifs1, 0⟩) :
    compTurn (.ListComp elt gens scope pos) d it acc env = turnG tg iter ifs it (tailC iter1 (.ListComp elt gens scope pos) (d + 1) acc env) (.ListComp elt gens scope pos) d acc env := by
  unfold compTurn turnG tailC
  simp only [h0, h1]
  have e0 : ((0 : Int) != 0) = false := rfl
  simp only [e0, Bool.false_eq_true, if_false, bind_assoc]
  refine congrArg _ (funext fun _ => congrArg _ (funext fun r => ?_))
  cases r with
  | none => rfl
  | some v =>
    simp only
    refine congrArg _ (funext fun _ => congrArg _ (funext fun _ => congrArg _ (funext fun ok => ?_)))
    cases ok with
    | false => rfl
    | true =>
      simp only [if_true, bind_assoc, pure_bind]
theorem turnD_more (h0 : gens[d]? = some ⟨tg, iter, ifs, 0⟩) (h1 : gens[d + 1]? = some ⟨tg1, iter1, ifs1, 0⟩) :
    compTurn (.DictComp kx vx gens scope pos) d it acc env = turnG tg iter ifs it (tailC iter1 (.DictComp kx vx gens scope pos) (d + 1) acc env) (.DictComp kx vx gens scope pos) d acc env := by
  unfold compTurn turnG tailC
  simp only [h0, h1]
  have e0 : ((0 : Int) != 0) = false := rfl
  simp only [e0, Bool.false_eq_true, if_false, bind_assoc]
  refine congrArg _ (funext fun _ => congrArg _ (funext fun r => ?_))
  cases r with
  | none => rfl
  | some v =>
    simp only
    refine congrArg _ (funext fun _ => congrArg _ (funext fun _ => congrArg _ (funext fun ok => ?_)))
    cases ok with
    | false => rfl
    | true =>
      simp only [if_true, bind_assoc, pure_bind]
end
section
variable {X : Cx} {C : QC} {E : XK} {D : Addr} {elt kx vx tg iter tg1 iter1 tg2 iter2 : Expr} {ifs ifs1 ifs2 : List Expr} {gens gs : List Comprehension} {scope : Scope} {own : List (Str × Nat)} {pos py spos : Pos} {fi fi1 fi2 : XI} {t t1 t2 : Tg} {ft ft1 ft2 : XT} {fe fk fv : XE} {fz : List S → Store → R S} {y : Str} {i : Nat} {inner : XN S}
theorem ceL {prog : Program} {w : World} {A : Around} {d : Nat} {acc : Value} {env : PySem.Env} : CompE prog w A (.ListComp elt gens scope pos) d acc env := ⟨fun _ => rfl, fun _ => rfl, fun _ => rfl, fun _ => rfl, fun _ => rfl⟩
theorem ceD {prog : Program} {w : World} {A : Around} {d : Nat} {acc : Value} {env : PySem.Env} : CompE prog w A (.DictComp kx vx gens scope pos) d acc env := ⟨fun _ => rfl, fun _ => rfl, fun _ => rfl, fun _ => rfl, fun _ => rfl⟩
/-- what is behind the tests of a clause: the element, or a further clause; V: the slots of the further clauses' targets -/
structure LTail (X : Cx) (C : QC) (e : Expr) (tail : Addr → PySem.Env → Sem Unit) (V : List Nat) (inner : XN S) : Prop where
  run : ∀ D, PTail X (tail D X.env) V (TNA C accL D inner)
/-- a list comprehension: its first clause, and the tail behind it -/
theorem qe_lcG {tail : Addr → PySem.Env → Sem Unit} {Vr : List Nat} (hT : ∀ D env it, compTurn (.ListComp elt (⟨tg, iter, ifs, 0⟩ :: gs) scope pos) 0 it (.ref D) env = turnG tg iter ifs it (tail D env) (.ListComp elt (⟨tg, iter, ifs, 0⟩ :: gs) scope pos) 0 (.ref D) env)
    (F : FinLs C fz) (ok : Ok X C) (hN : X.N.Nodup) (hi : QI X C E tg iter fi) (bk : BlkOk X.N X.env.scope scope own) (hV : ∀ i ∈ Vr, i ∈ own.map (·.2)) (hVt : ∀ i ∈ t.ixs, i ∈ own.map (·.2)) (hg : InBlk X scope fun Y => PG Y tg (t.g X.K)) (ht : InBlk X scope fun Y => QTs Y C E0 ifs ft)
    (hu : ∀ D, InBlk X scope fun Y => PTail Y (tail D Y.env) Vr (TNA C accL D inner)) (hs : ∀ x, foldedSetIterable iter X.env x = pure x) : QE X C E (.ListComp elt (⟨tg, iter, ifs, 0⟩ :: gs) scope pos) (eComp fz fi t (own.map (·.2)) ft inner) :=
  qe_comp (Vr := Vr) (tail := tail) newAcc_list rfl (F.fin E) (F.sz E) ok hN rfl hi bk hV hVt (fun _ _ => ceL) hT hg ht hu hs rfl
theorem qs_lcG {tail : Addr → PySem.Env → Sem Unit} {Vr : List Nat} (hT : ∀ D env it, compTurn (.ListComp elt (⟨tg, iter, ifs, 0⟩ :: gs) scope pos) 0 it (.ref D) env = turnG tg iter ifs it (tail D env) (.ListComp elt (⟨tg, iter, ifs, 0⟩ :: gs) scope pos) 0 (.ref D) env)
    (hy : X.N[i]? = some y) (hyl : X.env.scope.names.lookup y = some .local) (hsw : swapsWith (.ListComp elt (⟨tg, iter, ifs, 0⟩ :: gs) scope pos) (some (.Name y py)) spos.line X.env = pure true)
    (F : FinLs C fz) (ok : Ok X C) (hN : X.N.Nodup) (hi : QI X C E tg iter fi) (bk : BlkOk X.N X.env.scope scope own) (hV : ∀ i ∈ Vr, i ∈ own.map (·.2)) (hVt : ∀ i ∈ t.ixs, i ∈ own.map (·.2)) (hg : InBlk X scope fun Y => PG Y tg (t.g X.K)) (ht : InBlk X scope fun Y => QTs Y C E0 ifs ft)
    (hu : ∀ D, InBlk X scope fun Y => PTail Y (tail D Y.env) Vr (TNA C accL D inner)) (hs : ∀ x, foldedSetIterable iter X.env x = pure x) : QS X C E (.Assign [.Name y py] (.ListComp elt (⟨tg, iter, ifs, 0⟩ :: gs) scope pos) spos) (sSet i (eComp fz fi t (own.map (·.2)) ft inner)) :=
  qs_setC (qs_setComp (Vr := Vr) (tail := tail) newAcc_list rfl (F.fin E) (F.sz E) ok hN hy hyl hsw rfl hi bk hV hVt (fun _ _ => ceL) hT hg ht hu hs rfl)
/-- the last clause's tail -/
theorem ln_emit (hx : X.xe = fun _ _ => False) (he : QE X C E0 elt fe) : ∀ D, PTail X (emitL elt D X.env) [] (TNA C accL D (nEmit fe)) := fun D => qn_emit hx he
/-- one clause -/
theorem qe_lc1 (F : FinLs C fz) (ok : Ok X C) (hN : X.N.Nodup) (hi : QI X C E tg iter fi) (bk : BlkOk X.N X.env.scope scope own) (hVt : ∀ i ∈ t.ixs, i ∈ own.map (·.2)) (hg : InBlk X scope fun Y => PG Y tg (t.g X.K)) (ht : InBlk X scope fun Y => QTs Y C E0 ifs ft)
    (he : InBlk X scope fun Y => QE Y C E0 elt fe) (hs : ∀ x, foldedSetIterable iter X.env x = pure x := by intro _; rfl) : QE X C E (.ListComp elt [⟨tg, iter, ifs, 0⟩] scope pos) (eComp fz fi t (own.map (·.2)) ft (nEmit fe)) :=
  qe_lcG (Vr := []) (tail := fun D env => emitL elt D env) (fun _ _ _ => rfl) F ok hN hi bk (fun _ h => absurd h (by simp)) hVt hg ht (fun D s H c cl fp => qn_emit rfl (he s H c cl fp)) hs
theorem qs_lc1 (F : FinLs C fz) (ok : Ok X C) (hN : X.N.Nodup) (hy : X.N[i]? = some y) (hyl : X.env.scope.names.lookup y = some .local) (hsw : swapsWith (.ListComp elt [⟨tg, iter, ifs, 0⟩] scope pos) (some (.Name y py)) spos.line X.env = pure true)
    (hi : QI X C E tg iter fi) (bk : BlkOk X.N X.env.scope scope own) (hVt : ∀ i ∈ t.ixs, i ∈ own.map (·.2)) (hg : InBlk X scope fun Y => PG Y tg (t.g X.K)) (ht : InBlk X scope fun Y => QTs Y C E0 ifs ft)
    (he : InBlk X scope fun Y => QE Y C E0 elt fe) (hs : ∀ x, foldedSetIterable iter X.env x = pure x := by intro _; rfl) : QS X C E (.Assign [.Name y py] (.ListComp elt [⟨tg, iter, ifs, 0⟩] scope pos) spos) (sSet i (eComp fz fi t (own.map (·.2)) ft (nEmit fe))) :=
  qs_lcG (Vr := []) (tail := fun D env => emitL elt D env) (fun _ _ _ => rfl) hy hyl hsw F ok hN hi bk (fun _ h => absurd h (by simp)) hVt hg ht (fun D s H c cl fp => qn_emit rfl (he s H c cl fp)) hs
/-- two -/
theorem hu2 (ok : Ok X C) (hVt1 : ∀ i ∈ t1.ixs, i ∈ t1.ixs) (hi1 : InBlk X scope fun Y => QI Y C E0 tg1 iter1 fi1) (hg1 : InBlk X scope fun Y => PG Y tg1 (t1.g X.K)) (ht1 : InBlk X scope fun Y => QTs Y C E0 ifs1 ft1) (he : InBlk X scope fun Y => QE Y C E0 elt fe) (hs1 : InBlk X scope fun Y => ∀ x, foldedSetIterable iter1 Y.env x = pure x) :
    ∀ D, InBlk X scope fun Y => PTail Y (tailC iter1 (.ListComp elt [⟨tg, iter, ifs, 0⟩, ⟨tg1, iter1, ifs1, 0⟩] scope pos) 1 (.ref D) Y.env) t1.ixs (TNA C accL D (nCl fi1 t1 t1.ixs ft1 (nEmit fe))) :=
  fun D s H c cl fp => qn_clause (tail := emitL elt D (compEnvC scope cl c X.env)) (Vr := []) ok.blk rfl ceL (fun _ => rfl) rfl (hs1 s H c cl fp) (hi1 s H c cl fp) (hg1 s H c cl fp) (ht1 s H c cl fp) (qn_emit rfl (he s H c cl fp)) (fun _ h => absurd h (by simp)) hVt1
theorem qe_lc2 (F : FinLs C fz) (ok : Ok X C) (hN : X.N.Nodup) (hi : QI X C E tg iter fi) (bk : BlkOk X.N X.env.scope scope own) (hVt : ∀ i ∈ t.ixs, i ∈ own.map (·.2)) (hV1 : ∀ i ∈ t1.ixs, i ∈ own.map (·.2)) (hg : InBlk X scope fun Y => PG Y tg (t.g X.K)) (ht : InBlk X scope fun Y => QTs Y C E0 ifs ft)
    (hi1 : InBlk X scope fun Y => QI Y C E0 tg1 iter1 fi1) (hg1 : InBlk X scope fun Y => PG Y tg1 (t1.g X.K)) (ht1 : InBlk X scope fun Y => QTs Y C E0 ifs1 ft1)
    (he : InBlk X scope fun Y => QE Y C E0 elt fe) (hs : ∀ x, foldedSetIterable iter X.env x = pure x := by intro _; rfl) (hs1 : InBlk X scope fun Y => ∀ x, foldedSetIterable iter1 Y.env x = pure x := by intro _ _ _ _ _ _; rfl) :
    QE X C E (.ListComp elt [⟨tg, iter, ifs, 0⟩, ⟨tg1, iter1, ifs1, 0⟩] scope pos) (eComp fz fi t (own.map (·.2)) ft (nCl fi1 t1 t1.ixs ft1 (nEmit fe))) :=
  qe_lcG (Vr := t1.ixs) (tail := fun D env => tailC iter1 (.ListComp elt [⟨tg, iter, ifs, 0⟩, ⟨tg1, iter1, ifs1, 0⟩] scope pos) 1 (.ref D) env) (fun _ _ _ => turnL_more rfl rfl) F ok hN hi bk hV1 hVt hg ht (hu2 ok (fun _ h => h) hi1 hg1 ht1 he hs1) hs
theorem qs_lc2 (F : FinLs C fz) (ok : Ok X C) (hN : X.N.Nodup) (hy : X.N[i]? = some y) (hyl : X.env.scope.names.lookup y = some .local) (hsw : swapsWith (.ListComp elt [⟨tg, iter, ifs, 0⟩, ⟨tg1, iter1, ifs1, 0⟩] scope pos) (some (.Name y py)) spos.line X.env = pure true)
    (hi : QI X C E tg iter fi) (bk : BlkOk X.N X.env.scope scope own) (hVt : ∀ i ∈ t.ixs, i ∈ own.map (·.2)) (hV1 : ∀ i ∈ t1.ixs, i ∈ own.map (·.2)) (hg : InBlk X scope fun Y => PG Y tg (t.g X.K)) (ht : InBlk X scope fun Y => QTs Y C E0 ifs ft)
    (hi1 : InBlk X scope fun Y => QI Y C E0 tg1 iter1 fi1) (hg1 : InBlk X scope fun Y => PG Y tg1 (t1.g X.K)) (ht1 : InBlk X scope fun Y => QTs Y C E0 ifs1 ft1)
    (he : InBlk X scope fun Y => QE Y C E0 elt fe) (hs : ∀ x, foldedSetIterable iter X.env x = pure x := by intro _; rfl) (hs1 : InBlk X scope fun Y => ∀ x, foldedSetIterable iter1 Y.env x = pure x := by intro _ _ _ _ _ _; rfl) :
    QS X C E (.Assign [.Name y py] (.ListComp elt [⟨tg, iter, ifs, 0⟩, ⟨tg1, iter1, ifs1, 0⟩] scope pos) spos) (sSet i (eComp fz fi t (own.map (·.2)) ft (nCl fi1 t1 t1.ixs ft1 (nEmit fe)))) :=
  qs_lcG (Vr := t1.ixs) (tail := fun D env => tailC iter1 (.ListComp elt [⟨tg, iter, ifs, 0⟩, ⟨tg1, iter1, ifs1, 0⟩] scope pos) 1 (.ref D) env) (fun _ _ _ => turnL_more rfl rfl) hy hyl hsw F ok hN hi bk hV1 hVt hg ht (hu2 ok (fun _ h => h) hi1 hg1 ht1 he hs1) hs
/-! dicts -/
structure FinDs {κ : Type} [DecidableEq κ] (C : QC) (ho : List (κ × V) → HO) (fz : List (κ × S) → Store → R S) : Prop where
  fin : ∀ E, FinL C E (accD ho) [] fz
  sz : ∀ E (ys : List (κ × S)) st W k, Aft C E W (fz ys st) k → ys.length ≤ sizeLine
theorem finDK {C : QC} : FinDs C (.dK) clDK := ⟨fun _ => finL_dk, fun _ _ _ _ _ h => clDK_size h⟩
theorem finDT {C : QC} : FinDs C (.dT) clDT := ⟨fun _ => finL_dt, fun _ _ _ _ _ h => clDT_size h⟩
section
variable {κ : Type} [DecidableEq κ] {ho : List (κ × V) → HO} {fd : List (κ × S) → Store → R S} {innerD : XN (κ × S)}
theorem qe_dcG {tail : Addr → PySem.Env → Sem Unit} {Vr : List Nat} (na : NewAcc newDict { cls := .type "dict", data := .dict #[] } (ho [])) (hT : ∀ D env it, compTurn (.DictComp kx vx (⟨tg, iter, ifs, 0⟩ :: gs) scope pos) 0 it (.ref D) env = turnG tg iter ifs it (tail D env) (.DictComp kx vx (⟨tg, iter, ifs, 0⟩ :: gs) scope pos) 0 (.ref D) env)
    (F : FinDs C ho fd) (ok : Ok X C) (hN : X.N.Nodup) (hi : QI X C E tg iter fi) (bk : BlkOk X.N X.env.scope scope own) (hV : ∀ i ∈ Vr, i ∈ own.map (·.2)) (hVt : ∀ i ∈ t.ixs, i ∈ own.map (·.2)) (hg : InBlk X scope fun Y => PG Y tg (t.g X.K)) (ht : InBlk X scope fun Y => QTs Y C E0 ifs ft)
    (hu : ∀ D, InBlk X scope fun Y => PTail Y (tail D Y.env) Vr (TNA C (accD ho) D innerD)) (hs : ∀ x, foldedSetIterable iter X.env x = pure x) : QE X C E (.DictComp kx vx (⟨tg, iter, ifs, 0⟩ :: gs) scope pos) (eComp fd fi t (own.map (·.2)) ft innerD) :=
  qe_comp (A := accD ho) (b0 := []) (Vr := Vr) (tail := tail) na rfl (F.fin E) (F.sz E) ok hN rfl hi bk hV hVt (fun _ _ => ceD) hT hg ht hu hs rfl
theorem qs_dcG {tail : Addr → PySem.Env → Sem Unit} {Vr : List Nat} (na : NewAcc newDict { cls := .type "dict", data := .dict #[] } (ho [])) (hT : ∀ D env it, compTurn (.DictComp kx vx (⟨tg, iter, ifs, 0⟩ :: gs) scope pos) 0 it (.ref D) env = turnG tg iter ifs it (tail D env) (.DictComp kx vx (⟨tg, iter, ifs, 0⟩ :: gs) scope pos) 0 (.ref D) env)
    (hy : X.N[i]? = some y) (hyl : X.env.scope.names.lookup y = some .local) (hsw : swapsWith (.DictComp kx vx (⟨tg, iter, ifs, 0⟩ :: gs) scope pos) (some (.Name y py)) spos.line X.env = pure true)
    (F : FinDs C ho fd) (ok : Ok X C) (hN : X.N.Nodup) (hi : QI X C E tg iter fi) (bk : BlkOk X.N X.env.scope scope own) (hV : ∀ i ∈ Vr, i ∈ own.map (·.2)) (hVt : ∀ i ∈ t.ixs, i ∈ own.map (·.2)) (hg : InBlk X scope fun Y => PG Y tg (t.g X.K)) (ht : InBlk X scope fun Y => QTs Y C E0 ifs ft)
    (hu : ∀ D, InBlk X scope fun Y => PTail Y (tail D Y.env) Vr (TNA C (accD ho) D innerD)) (hs : ∀ x, foldedSetIterable iter X.env x = pure x) : QS X C E (.Assign [.Name y py] (.DictComp kx vx (⟨tg, iter, ifs, 0⟩ :: gs) scope pos) spos) (sSet i (eComp fd fi t (own.map (·.2)) ft innerD)) :=
  qs_setC (qs_setComp (A := accD ho) (b0 := []) (Vr := Vr) (tail := tail) na rfl (F.fin E) (F.sz E) ok hN hy hyl hsw rfl hi bk hV hVt (fun _ _ => ceD) hT hg ht hu hs rfl)
end
theorem hkd (ok : Ok X C) : X.A.units + 1 < cLine := by have := ok.hu; omega
theorem qe_dk1 (ok : Ok X C) (hN : X.N.Nodup) (hi : QI X C E tg iter fi) (bk : BlkOk X.N X.env.scope scope own) (hVt : ∀ i ∈ t.ixs, i ∈ own.map (·.2)) (hg : InBlk X scope fun Y => PG Y tg (t.g X.K)) (ht : InBlk X scope fun Y => QTs Y C E0 ifs ft)
    (hk : InBlk X scope fun Y => QE Y C E0 kx fk) (hv : InBlk X scope fun Y => QE Y C E0 vx fv) (hs : ∀ x, foldedSetIterable iter X.env x = pure x := by intro _; rfl) : QE X C E (.DictComp kx vx [⟨tg, iter, ifs, 0⟩] scope pos) (eComp clDK fi t (own.map (·.2)) ft (nEmitK fk fv)) :=
  qe_dcG (Vr := []) (tail := fun D env => emitD kx vx D env) newAcc_dk (fun _ _ _ => rfl) finDK ok hN hi bk (fun _ h => absurd h (by simp)) hVt hg ht (fun D s H c cl fp => qn_emitK (hkd ok.blk) rfl (hk s H c cl fp) (hv s H c cl fp)) hs
theorem qe_dt1 (ok : Ok X C) (hN : X.N.Nodup) (hi : QI X C E tg iter fi) (bk : BlkOk X.N X.env.scope scope own) (hVt : ∀ i ∈ t.ixs, i ∈ own.map (·.2)) (hg : InBlk X scope fun Y => PG Y tg (t.g X.K)) (ht : InBlk X scope fun Y => QTs Y C E0 ifs ft)
    (hk : InBlk X scope fun Y => QE Y C E0 kx fk) (hv : InBlk X scope fun Y => QE Y C E0 vx fv) (hs : ∀ x, foldedSetIterable iter X.env x = pure x := by intro _; rfl) : QE X C E (.DictComp kx vx [⟨tg, iter, ifs, 0⟩] scope pos) (eComp clDT fi t (own.map (·.2)) ft (nEmitT fk fv)) :=
  qe_dcG (Vr := []) (tail := fun D env => emitD kx vx D env) newAcc_dt (fun _ _ _ => rfl) finDT ok hN hi bk (fun _ h => absurd h (by simp)) hVt hg ht (fun D s H c cl fp => qn_emitT (hkd ok.blk) rfl (hk s H c cl fp) (hv s H c cl fp)) hs
theorem huT2 (ok : Ok X C) (hi1 : InBlk X scope fun Y => QI Y C E0 tg1 iter1 fi1) (hg1 : InBlk X scope fun Y => PG Y tg1 (t1.g X.K)) (ht1 : InBlk X scope fun Y => QTs Y C E0 ifs1 ft1) (hk : InBlk X scope fun Y => QE Y C E0 kx fk) (hv : InBlk X scope fun Y => QE Y C E0 vx fv) (hs1 : InBlk X scope fun Y => ∀ x, foldedSetIterable iter1 Y.env x = pure x) :
    ∀ D, InBlk X scope fun Y => PTail Y (tailC iter1 (.DictComp kx vx [⟨tg, iter, ifs, 0⟩, ⟨tg1, iter1, ifs1, 0⟩] scope pos) 1 (.ref D) Y.env) t1.ixs (TNA C accDT D (nCl fi1 t1 t1.ixs ft1 (nEmitT fk fv))) :=
  fun D s H c cl fp => qn_clause (tail := emitD kx vx D (compEnvC scope cl c X.env)) (Vr := []) ok.blk rfl ceD (fun _ => rfl) rfl (hs1 s H c cl fp) (hi1 s H c cl fp) (hg1 s H c cl fp) (ht1 s H c cl fp) (qn_emitT (hkd ok.blk) rfl (hk s H c cl fp) (hv s H c cl fp)) (fun _ h => absurd h (by simp)) (fun _ h => h)
theorem qe_dt2 (ok : Ok X C) (hN : X.N.Nodup) (hi : QI X C E tg iter fi) (bk : BlkOk X.N X.env.scope scope own) (hVt : ∀ i ∈ t.ixs, i ∈ own.map (·.2)) (hV1 : ∀ i ∈ t1.ixs, i ∈ own.map (·.2)) (hg : InBlk X scope fun Y => PG Y tg (t.g X.K)) (ht : InBlk X scope fun Y => QTs Y C E0 ifs ft)
    (hi1 : InBlk X scope fun Y => QI Y C E0 tg1 iter1 fi1) (hg1 : InBlk X scope fun Y => PG Y tg1 (t1.g X.K)) (ht1 : InBlk X scope fun Y => QTs Y C E0 ifs1 ft1)
    (hk : InBlk X scope fun Y => QE Y C E0 kx fk) (hv : InBlk X scope fun Y => QE Y C E0 vx fv) (hs : ∀ x, foldedSetIterable iter X.env x = pure x := by intro _; rfl) (hs1 : InBlk X scope fun Y => ∀ x, foldedSetIterable iter1 Y.env x = pure x := by intro _ _ _ _ _ _; rfl) :
    QE X C E (.DictComp kx vx [⟨tg, iter, ifs, 0⟩, ⟨tg1, iter1, ifs1, 0⟩] scope pos) (eComp clDT fi t (own.map (·.2)) ft (nCl fi1 t1 t1.ixs ft1 (nEmitT fk fv))) :=
  qe_dcG (Vr := t1.ixs) (tail := fun D env => tailC iter1 (.DictComp kx vx [⟨tg, iter, ifs, 0⟩, ⟨tg1, iter1, ifs1, 0⟩] scope pos) 1 (.ref D) env) newAcc_dt (fun _ _ _ => turnD_more rfl rfl) finDT ok hN hi bk hV1 hVt hg ht (huT2 ok hi1 hg1 ht1 hk hv hs1) hs
theorem qs_dt2 (ok : Ok X C) (hN : X.N.Nodup) (hy : X.N[i]? = some y) (hyl : X.env.scope.names.lookup y = some .local) (hsw : swapsWith (.DictComp kx vx [⟨tg, iter, ifs, 0⟩, ⟨tg1, iter1, ifs1, 0⟩] scope pos) (some (.Name y py)) spos.line X.env = pure true)
    (hi : QI X C E tg iter fi) (bk : BlkOk X.N X.env.scope scope own) (hVt : ∀ i ∈ t.ixs, i ∈ own.map (·.2)) (hV1 : ∀ i ∈ t1.ixs, i ∈ own.map (·.2)) (hg : InBlk X scope fun Y => PG Y tg (t.g X.K)) (ht : InBlk X scope fun Y => QTs Y C E0 ifs ft)
    (hi1 : InBlk X scope fun Y => QI Y C E0 tg1 iter1 fi1) (hg1 : InBlk X scope fun Y => PG Y tg1 (t1.g X.K)) (ht1 : InBlk X scope fun Y => QTs Y C E0 ifs1 ft1)
    (hk : InBlk X scope fun Y => QE Y C E0 kx fk) (hv : InBlk X scope fun Y => QE Y C E0 vx fv) (hs : ∀ x, foldedSetIterable iter X.env x = pure x := by intro _; rfl) (hs1 : InBlk X scope fun Y => ∀ x, foldedSetIterable iter1 Y.env x = pure x := by intro _ _ _ _ _ _; rfl) :
    QS X C E (.Assign [.Name y py] (.DictComp kx vx [⟨tg, iter, ifs, 0⟩, ⟨tg1, iter1, ifs1, 0⟩] scope pos) spos) (sSet i (eComp clDT fi t (own.map (·.2)) ft (nCl fi1 t1 t1.ixs ft1 (nEmitT fk fv)))) :=
  qs_dcG (Vr := t1.ixs) (tail := fun D env => tailC iter1 (.DictComp kx vx [⟨tg, iter, ifs, 0⟩, ⟨tg1, iter1, ifs1, 0⟩] scope pos) 1 (.ref D) env) newAcc_dt (fun _ _ _ => turnD_more rfl rfl) hy hyl hsw finDT ok hN hi bk hV1 hVt hg ht (huT2 ok hi1 hg1 ht1 hk hv hs1) hs
end
end Q

set_option Elab.async false
set_option linter.all false
set_option maxRecDepth 100000
set_option maxHeartbeats 2000000
/-! Q18: shortcuts; what a def leaves is swept -/
namespace Q
open PySem L2 PySem.Spec PyProof.Rows
/-! ### equality of stores, as a test -/
mutual
def eqP : P → P → Bool
  | .non, .non => true
  | .bl a, .bl b => a == b
  | .int a, .int b => decide (a = b)
  | .str a, .str b => decide (a = b)
  | .tup a, .tup b => eqPs a b
  | .lst a, .lst b => eqPs a b
  | .ktup a, .ktup b => eqPs a b
  | .dk a, .dk b => eqKs a b
  | .kdk a, .kdk b => eqKs a b
  | .dt a, .dt b => eqTs a b
  | .obj c a, .obj d b => decide (c = d) && eqFs a b
  | .xob c a, .xob d b => decide (c = d) && eqFs a b
  | .sob c a, .sob d b => decide (c = d) && eqPs a b
  | .fn a, .fn b => decide (a = b)
  | .scr a, .scr b => decide (a = b)
  | _, _ => false
def eqPs : List P → List P → Bool
  | [], [] => true
  | a :: r, b :: s => eqP a b && eqPs r s
  | _, _ => false
def eqKs : List (Key × P) → List (Key × P) → Bool
  | [], [] => true
  | (k, a) :: r, (l, b) :: s => decide (k = l) && (eqP a b && eqKs r s)
  | _, _ => false
def eqTs : List (List Key × P) → List (List Key × P) → Bool
  | [], [] => true
  | (k, a) :: r, (l, b) :: s => decide (k = l) && (eqP a b && eqTs r s)
  | _, _ => false
def eqFs : List (Str × P) → List (Str × P) → Bool
  | [], [] => true
  | (k, a) :: r, (l, b) :: s => decide (k = l) && (eqP a b && eqFs r s)
  | _, _ => false
end
mutual
theorem eqP_ok : ∀ {a b : P}, eqP a b = true → a = b
  | .non, b, h => by cases b <;> simp [eqP] at h <;> rfl
  | .bl a, b, h => by cases b <;> simp [eqP] at h <;> rw [h]
  | .int a, b, h => by cases b <;> simp [eqP] at h <;> rw [h]
  | .str a, b, h => by cases b <;> simp [eqP] at h <;> rw [h]
  | .tup a, b, h => by cases b <;> simp [eqP] at h <;> rw [eqPs_ok h]
  | .lst a, b, h => by cases b <;> simp [eqP] at h <;> rw [eqPs_ok h]
  | .ktup a, b, h => by cases b <;> simp [eqP] at h <;> rw [eqPs_ok h]
  | .dk a, b, h => by cases b <;> simp [eqP] at h <;> rw [eqKs_ok h]
  | .kdk a, b, h => by cases b <;> simp [eqP] at h <;> rw [eqKs_ok h]
  | .dt a, b, h => by cases b <;> simp [eqP] at h <;> rw [eqTs_ok h]
  | .obj c a, b, h => by cases b <;> simp [eqP] at h <;> rw [h.1, eqFs_ok h.2]
  | .xob c a, b, h => by cases b <;> simp [eqP] at h <;> rw [h.1, eqFs_ok h.2]
  | .sob c a, b, h => by cases b <;> simp [eqP] at h <;> rw [h.1, eqPs_ok h.2]
  | .fn a, b, h => by cases b <;> simp [eqP] at h <;> rw [h]
  | .scr a, b, h => by cases b <;> simp [eqP] at h <;> rw [h]
theorem eqPs_ok : ∀ {a b : List P}, eqPs a b = true → a = b
  | [], b, h => by cases b <;> simp [eqPs] at h <;> rfl
  | a :: r, b, h => by
    cases b with
    | nil => simp [eqPs] at h
    | cons b s => simp [eqPs] at h; rw [eqP_ok h.1, eqPs_ok h.2]
theorem eqKs_ok : ∀ {a b : List (Key × P)}, eqKs a b = true → a = b
  | [], b, h => by cases b <;> simp [eqKs] at h <;> rfl
  | (k, a) :: r, b, h => by
    cases b with
    | nil => simp [eqKs] at h
    | cons b s => obtain ⟨l, b⟩ := b; simp [eqKs] at h; rw [h.1, eqP_ok h.2.1, eqKs_ok h.2.2]
theorem eqTs_ok : ∀ {a b : List (List Key × P)}, eqTs a b = true → a = b
  | [], b, h => by cases b <;> simp [eqTs] at h <;> rfl
  | (k, a) :: r, b, h => by
    cases b with
    | nil => simp [eqTs] at h
    | cons b s => obtain ⟨l, b⟩ := b; simp [eqTs] at h; rw [h.1, eqP_ok h.2.1, eqTs_ok h.2.2]
theorem eqFs_ok : ∀ {a b : List (Str × P)}, eqFs a b = true → a = b
  | [], b, h => by cases b <;> simp [eqFs] at h <;> rfl
  | (k, a) :: r, b, h => by
    cases b with
    | nil => simp [eqFs] at h
    | cons b s => obtain ⟨l, b⟩ := b; simp [eqFs] at h; rw [h.1, eqP_ok h.2.1, eqFs_ok h.2.2]
end
mutual
theorem eqP_refl : ∀ a : P, eqP a a = true
  | .non => by simp [eqP]
  | .bl _ => by simp [eqP]
  | .int _ => by simp [eqP]
  | .str _ => by simp [eqP]
  | .tup a => by simp [eqP, eqPs_refl a]
  | .lst a => by simp [eqP, eqPs_refl a]
  | .ktup a => by simp [eqP, eqPs_refl a]
  | .dk a => by simp [eqP, eqKs_refl a]
  | .kdk a => by simp [eqP, eqKs_refl a]
  | .dt a => by simp [eqP, eqTs_refl a]
  | .obj _ a => by simp [eqP, eqFs_refl a]
  | .xob _ a => by simp [eqP, eqFs_refl a]
  | .sob _ a => by simp [eqP, eqPs_refl a]
  | .fn _ => by simp [eqP]
  | .scr _ => by simp [eqP]
theorem eqPs_refl : ∀ a : List P, eqPs a a = true
  | [] => by simp [eqPs]
  | a :: r => by simp [eqPs, eqP_refl a, eqPs_refl r]
theorem eqKs_refl : ∀ a : List (Key × P), eqKs a a = true
  | [] => by simp [eqKs]
  | (k, a) :: r => by simp [eqKs, eqP_refl a, eqKs_refl r]
theorem eqTs_refl : ∀ a : List (List Key × P), eqTs a a = true
  | [] => by simp [eqTs]
  | (k, a) :: r => by simp [eqTs, eqP_refl a, eqTs_refl r]
theorem eqFs_refl : ∀ a : List (Str × P), eqFs a a = true
  | [] => by simp [eqFs]
  | (k, a) :: r => by simp [eqFs, eqP_refl a, eqFs_refl r]
end
def eqS : S → S → Bool
  | .p a, .p b => eqP a b
  | .c a, .c b => decide (a = b)
  | _, _ => false
theorem eqS_ok {a b : S} (h : eqS a b = true) : a = b := by
  cases a <;> cases b <;> simp [eqS] at h
  · rw [eqP_ok h]
  · rw [h]
theorem eqS_refl (a : S) : eqS a a = true := by cases a <;> simp [eqS, eqP_refl]
def eqSs : List S → List S → Bool
  | [], [] => true
  | a :: r, b :: s => eqS a b && eqSs r s
  | _, _ => false
theorem eqSs_ok : ∀ {a b : List S}, eqSs a b = true → a = b
  | [], b, h => by cases b <;> simp [eqSs] at h <;> rfl
  | a :: r, b, h => by
    cases b with
    | nil => simp [eqSs] at h
    | cons b s => simp [eqSs] at h; rw [eqS_ok h.1, eqSs_ok h.2]
theorem eqSs_refl : ∀ a : List S, eqSs a a = true
  | [] => by simp [eqSs]
  | a :: r => by simp [eqSs, eqS_refl a, eqSs_refl r]
def eqKSs {κ : Type} [DecidableEq κ] : List (κ × S) → List (κ × S) → Bool
  | [], [] => true
  | (k, a) :: r, (l, b) :: s => decide (k = l) && (eqS a b && eqKSs r s)
  | _, _ => false
theorem eqKSs_ok {κ : Type} [DecidableEq κ] : ∀ {a b : List (κ × S)}, eqKSs a b = true → a = b
  | [], b, h => by cases b <;> simp [eqKSs] at h <;> rfl
  | (k, a) :: r, b, h => by
    cases b with
    | nil => simp [eqKSs] at h
    | cons b s => obtain ⟨l, b⟩ := b; simp [eqKSs] at h; rw [h.1, eqS_ok h.2.1, eqKSs_ok h.2.2]
theorem eqKSs_refl {κ : Type} [DecidableEq κ] : ∀ a : List (κ × S), eqKSs a a = true
  | [] => by simp [eqKSs]
  | (k, a) :: r => by simp [eqKSs, eqS_refl a, eqKSs_refl r]
def eqC : Cell → Cell → Bool
  | .lst a, .lst b => eqSs a b
  | .dk a, .dk b => eqKSs a b
  | .dt a, .dt b => eqKSs a b
  | .obj c a, .obj d b => decide (c = d) && eqKSs a b
  | .slt c a, .slt d b => decide (c = d) && eqSs a b
  | .dead, .dead => true
  | _, _ => false
theorem eqC_ok {a b : Cell} (h : eqC a b = true) : a = b := by
  cases a <;> cases b <;> simp [eqC] at h
  · rw [eqSs_ok h]
  · rw [eqKSs_ok h]
  · rw [eqKSs_ok h]
  · rw [h.1, eqKSs_ok h.2]
  · rw [h.1, eqSs_ok h.2]
  · rfl
theorem eqC_refl (a : Cell) : eqC a a = true := by cases a <;> simp [eqC, eqSs_refl, eqKSs_refl]
def eqSt : Store → Store → Bool
  | [], [] => true
  | a :: r, b :: s => eqC a b && eqSt r s
  | _, _ => false
theorem eqSt_ok : ∀ {a b : Store}, eqSt a b = true → a = b
  | [], b, h => by cases b <;> simp [eqSt] at h <;> rfl
  | a :: r, b, h => by
    cases b with
    | nil => simp [eqSt] at h
    | cons b s => simp [eqSt] at h; rw [eqC_ok h.1, eqSt_ok h.2]
theorem eqSt_refl : ∀ a : Store, eqSt a a = true
  | [] => by simp [eqSt]
  | a :: r => by simp [eqSt, eqC_refl a, eqSt_refl r]
/-- the cells made in between are dropped, where what comes back speaks of none -/
def clean (r : R S) (st : Store) : R S := match r with
  | .ok (.p p) st' => if eqSt (st'.take st.length) st = true then .ok (.p p) st else .ok (.p p) st'
  | r => r
@[simp] theorem clean_new (p : P) (st new : Store) : clean (.ok (.p p) (st ++ new)) st = .ok (.p p) st := by simp [clean, eqSt_refl]
@[simp] theorem clean_same (p : P) (st : Store) : clean (.ok (.p p) st) st = .ok (.p p) st := by simp [clean, eqSt_refl]
@[simp] theorem clean_stuck (st : Store) : clean .stuck st = .stuck := rfl
@[simp] theorem clean_cell (n : Nat) (st st' : Store) : clean (.ok (.c n) st') st = .ok (.c n) st' := rfl
theorem take_eq {st st' : Store} (h : eqSt (st'.take st.length) st = true) : ∃ new, st' = st ++ new := by
  refine ⟨st'.drop st.length, ?_⟩
  have h2 := eqSt_ok h
  have h3 := List.take_append_drop st.length st'
  rw [h2] at h3
  exact h3.symm
/-- what a def says: its body's run, swept -/
def gDef (N : Nat) (f : XS) : GCall := fun us st => clean (runF N f us st) st
theorem sim_def (n N : Nat) (f : XS) : Sim n N (gDef N f) f := by
  intro us st hl
  unfold gDef
  cases e : runF N f us st with
  | stuck => exact .inl rfl
  | exc c fs st' => exact .inr (.inl rfl)
  | ok v st' =>
    cases v with
    | c m => exact .inr (.inl rfl)
    | p p =>
      unfold clean
      simp only
      split
      · rename_i h
        obtain ⟨new, hn⟩ := take_eq h
        exact .inr (.inr ⟨p, new, rfl, by rw [hn]⟩)
      · exact .inr (.inl rfl)
/-- an object that is frozen as it is made; or one that stays a cell -/
def gMkF (c0 : Cell) (gi : GCall) : GCall := fun us st => match gi (.c st.length :: us) (st ++ [c0]) with
  | .ok (.p .non) st' => match st'[st.length]? with
    | some cl => match frzO cl with
      | some p => if eqSt (st'.take st.length) st = true then .ok (.p p) st else .stuck
      | none => .stuck
    | none => .stuck
  | _ => .stuck
theorem sim_mkF (c0 : Cell) (n : Nat) (gi : GCall) : SimM c0 n gi (gMkF c0 gi) := by
  intro us st hl
  unfold gMkF
  split
  · rename_i st' e
    split
    · rename_i cl ec
      split
      · rename_i p ef
        split
        · rename_i h
          obtain ⟨new, hn⟩ := take_eq h
          refine .inr (.inr ⟨p, new, cl, rfl, by rw [e, hn], ?_, ef⟩)
          rw [hn, List.getElem?_append_right (Nat.le_refl _), Nat.sub_self] at ec
          exact ec
        · exact .inl rfl
      · exact .inl rfl
    · exact .inl rfl
  · exact .inl rfl
theorem sim_mk (c0 : Cell) (n : Nat) (gi : GCall) : SimM c0 n gi (mkRun c0 gi) := fun us st _ => .inr (.inl rfl)
/-! ### what is written for the module -/
/-- a global that holds q -/
structure GlP (K : PySem.W.Frag) (mg : Str → Option Value) (C : QC) (x : Str) (q : P) : Prop where
  ex : ∃ (u : Value) (v : V), mg x = some u ∧ RelV v u ∧ ∀ F, Rep C F q v
/-- a module's def -/
structure DefAt (K : PySem.W.Frag) (mg : Str → Option Value) (x : Str) (s : Stmt) (ps : List Str) : Prop where
  ex : ∃ (f : Addr) (fd : FuncData), Fun K x x s f fd ∧ mg x = some (.ref f) ∧ Binds K fd ps []
/-- a class's def at q -/
structure MetAt (K : PySem.W.Frag) (m qual : Str) (s : Stmt) (q : Addr) (ps : List Str) : Prop where
  ex : ∃ fd : FuncData, Fun K m qual s q fd ∧ Binds K fd ps []
section
variable {P : Program} {w : World} {K : PySem.W.Frag} {mg : Str → Option Value} {base : Heap} {C : QC}
theorem okOf {N : List Str} {qual : Str} {scope : Scope} {f0 : Addr} {cdv : Value} {A : Around} {outer : List PySem.Env} {sh : Shared} {H : Hp} {E : XK} {k : Nat} (hC : C.K = K) (hP : C.prog = P) (hw : C.w = w) (hr : Room k (A.deeper (envOfC qual scope sh.heap.objs.size f0 cdv))) : Ok (cxOf CX0 P w K mg base N qual scope f0 cdv A outer sh H E).nox C :=
  ⟨hC, hP, hw, rfl, by have := hr.un; show (A.deeper _).units + 100 < _; omega⟩
theorem fsD {x : Str} {s : Stmt} {N ps : List Str} {k : Nat} {fb : XS} (hC : C.K = K) (hP : C.prog = P) (hw : C.w = w) (D : DefAt K mg x s ps) (S : FnScope N ps (defScope s))
    (body : ∀ (f0 : Addr) (cdv : Value) (A : Around) (outer : List PySem.Env) (sh : Shared) (H : Hp) (E : XK), Ok (cxOf CX0 P w K mg base N x (defScope s) f0 cdv A outer sh H E).nox C → Room k (A.deeper (envOfC x (defScope s) sh.heap.objs.size f0 cdv)) → QSs (cxOf CX0 P w K mg base N x (defScope s) f0 cdv A outer sh H E).nox C E0 (defBody s) fb) :
    FS P w K mg base C (k + 1) x ps.length (gDef N.length fb) := by
  obtain ⟨f, fd, F, hm, hb⟩ := D.ex
  exact fs0 F S hm hb (fun cdv A outer sh H E hr => body f cdv A outer sh H E (okOf hC hP hw hr) hr) (sim_def _ _ _)
theorem fdM {m qual : Str} {s : Stmt} {q : Addr} {N ps : List Str} {k : Nat} {fb : XS} (hC : C.K = K) (hP : C.prog = P) (hw : C.w = w) (D : MetAt K m qual s q ps) (S : FnScope N ps (defScope s))
    (body : ∀ (f0 : Addr) (cdv : Value) (A : Around) (outer : List PySem.Env) (sh : Shared) (H : Hp) (E : XK), Ok (cxOf CX0 P w K mg base N qual (defScope s) f0 cdv A outer sh H E).nox C → Room k (A.deeper (envOfC qual (defScope s) sh.heap.objs.size f0 cdv)) → QSs (cxOf CX0 P w K mg base N qual (defScope s) f0 cdv A outer sh H E).nox C E0 (defBody s) fb) :
    FD P w K mg base C (k + 1) q ps.length (gDef N.length fb) := by
  obtain ⟨fd, F, hb⟩ := D.ex
  exact fd0 F S hb (fun cdv A outer sh H E hr => body q cdv A outer sh H E (okOf hC hP hw hr) hr) (sim_def _ _ _)
end
section
variable {X : Cx} {C : QC} {E : XK} {e a b : Expr} {fa fb : XE} {pos p p2 : Pos} {x : Str}
theorem qv (i : Nat) (hN : X.N[i]? = some x := by rfl) (hv : Vis X.env.scope x := by first | exact Or.inl rfl | exact Or.inr (Or.inl rfl) | exact Or.inr (Or.inr rfl)) (hd : (x == ("__debug__" : Str)) = false := by decide)
    (hcd : (x == ("__classdict__" : Str)) = false := by decide) : QE X C E (.Name x pos) (eVar i) := qe_var hN hv hd hcd
theorem qg {q : P} (G : GlP X.K X.mg C x q) (hg : Gl X x := by rfl) (hd : (x == ("__debug__" : Str)) = false := by decide) : QE X C E (.Name x pos) (eC q) := by
  obtain ⟨u, v, hm, r, hr⟩ := G.ex
  exact qe_glob hg hm r hr hd
theorem qw_pt (h : QW X C E e fa) : QB X C E e fa := h.pt
theorem qe_neg {n : Int} {j} : QE X C E (.UnaryOp .USub (.Constant (.int n) j p) pos) (eC (.int (-n))) := by
  refine (pe_un un_neg pe_int).imp fun σ H Q h => ?_
  obtain ⟨W, env, st, r, nv, h⟩ := h
  exact ⟨n, rfl, h W H W.le_refl r _ (.int _)⟩
/-- a statement that is not reached -/
def sStuck : XS := fun _ _ => .stuck
theorem qs_stuck {s : Stmt} : QS X C E s sStuck := ⟨fun pins sh σ H D I h => by
  obtain ⟨W, env, st, r, n, h⟩ := h
  exact h.elim⟩
def eStuck : XE := fun _ _ => .stuck
theorem qe_stuck : QE X C E e eStuck := ⟨fun pins sh σ H D I h => by
  obtain ⟨W, env, st, r, n, h⟩ := h
  exact h.elim⟩
end
end Q

set_option Elab.async false
set_option linter.all false
set_option maxRecDepth 100000
set_option maxHeartbeats 3200000
/-! Q19: sets of ints and texts that are made of a list or a tuple and sorted -/
namespace Q
open PySem L2 PySem.Spec PyProof.Rows

/-! ### what such a set is -/
def keyM (e : Int × Value) : Key := match e.2 with
  | .int k _ => .inl k
  | .str x _ => .inr x
  | _ => .inl 0
def GoodM (w : World) (e : Int × Value) : Prop := ∃ k : Key, keyIs k e.2 = true ∧ e.1 = keyH w k
def SetM (w : World) (h : Heap) (a : Addr) (S : Key → Bool) (n : Nat) : Prop :=
  ∃ o es ep t, h.get? a = some o ∧ o.ExactSet ∧ o.data = .set es ep t ∧ (∀ e ∈ es.toList, GoodM w e) ∧ (es.toList.map keyM).Nodup ∧ (∀ k, S k = true ↔ k ∈ es.toList.map keyM) ∧
    es.size < scanBound ∧ t.fits es.size = true ∧ es.size = n ∧ Ris t.place.toList ∧ (w.params.followText "set-order" = true ∨ t.led = true)
theorem keyM_of {k : Key} {e : Int × Value} (h : keyIs k e.2 = true) : keyM e = k := by
  rcases keyIs_shape h with ⟨i, t, rfl, e1⟩ | ⟨x, t, rfl, e1⟩ <;> (unfold keyM; rw [e1])
section
variable {P : Program} {w : World} {A : Around} {E : Value → Shared → Prop} {s : Shared} {h h' : Heap} {a : Addr} {S : Key → Bool} {n : Nat}
theorem SetM.at (R : SetM w h a S n) (k : ∀ o, h.get? a = some o → h'.get? a = some o) : SetM w h' a S n := by
  obtain ⟨o, es, ep, t, ho, r⟩ := R
  exact ⟨o, es, ep, t, k o ho, r⟩
theorem SetM.congr {S' : Key → Bool} (R : SetM w h a S n) (e : ∀ k, S' k = S k) : SetM w h a S' n := by
  have q : S' = S := funext e
  rw [q]; exact R
theorem scan_key {k : Key} {v : Value} (h : keyIs k v = true) : v.scannable = true := by
  rcases keyIs_shape h with ⟨i, t, _, e⟩ | ⟨x, t, _, e⟩ <;> (rw [e]; rfl)
theorem goodM_elems {l : List (Int × Value)} (g : ∀ e ∈ l, GoodM w e) : ElemsOf (mixKind P w) l := fun e he => by
  obtain ⟨k, h1, h2⟩ := g e he
  exact ⟨⟨k, h1, h2⟩, scan_key h1⟩
theorem keyIs_inj {a b : Key} {v : Value} (ha : keyIs a v = true) (hb : keyIs b v = true) : a = b := by
  have e1 := keyM_of (e := (0, v)) ha
  have e2 := keyM_of (e := (0, v)) hb
  rw [← e1, ← e2]
/-- membership, as a test -/
def memK (ks : List Key) (j : Key) : Bool := ks.any fun x => decide (x = j)
theorem memK_iff {ks : List Key} {j : Key} : memK ks j = true ↔ j ∈ ks := by
  unfold memK
  rw [List.any_eq_true]
  constructor
  · rintro ⟨x, hx, e⟩; rw [← of_decide_eq_true e]; exact hx
  · intro h; exact ⟨j, h, by simp⟩
theorem goodM_is {e : Int × Value} (g : GoodM w e) (k : Key) : keyIs k e.2 = true ↔ keyM e = k := by
  obtain ⟨k0, h1, _⟩ := g
  have e0 := keyM_of h1
  constructor
  · intro h; rw [e0]; exact keyIs_inj h1 h
  · intro h; rw [e0] at h; rw [← h]; exact h1
theorem goodM_mem {l : List (Int × Value)} (g : ∀ e ∈ l, GoodM w e) (k : Key) : k ∈ l.map keyM ↔ ∃ e ∈ l, keyIs k e.2 = true := by
  rw [List.mem_map]
  constructor
  · rintro ⟨e, he, q⟩
    exact ⟨e, he, (goodM_is (g e he) k).2 q⟩
  · rintro ⟨e, he, q⟩
    exact ⟨e, he, (goodM_is (g e he) k).1 q⟩
/-- what is laid is stored, the table perhaps relaid -/
theorem setM_tail {g : Bool → Sem Unit} (hg : ∀ (b : Bool) (s₁ : Shared) (Q' : Unit → Shared → Prop), Q' () s₁ → wpAny (model P w) A (g b) Q' E s₁)
    {o : Obj} {es : Array (Int × Value)} {ep : Nat} {t : SetTable} (ho : s.heap.get? a = some o) (hex : o.ExactSet) (hd : o.data = .set es ep t)
    {es1 : Array (Int × Value)} {t2 : SetTable} {S' : Key → Bool} (g1 : ∀ e ∈ es1.toList, GoodM w e) (nd1 : (es1.toList.map keyM).Nodup) (m1 : ∀ k, S' k = true ↔ k ∈ es1.toList.map keyM)
    (hb1 : es1.size < scanBound) (hf2 : t2.fits es1.size = true) (hr : Ris t2.place.toList) (hl : w.params.followText "set-order" = true ∨ t2.led = true) {wasDummy : Bool} {R : Option Bool → Shared → Prop}
    (hR : ∀ h', Heap.SameBut a s.heap h' → SetM w h' a S' es1.size → R (some true) { s with heap := h' }) :
    wpAny (model P w) A (do
        storeSet a es1 t2
        if (!wasDummy && t2.tooFull) = true then do
            g (relayAll t2 es1 (SetTable.grown es1.size)).2.2
            storeSet a (relayAll t2 es1 (SetTable.grown es1.size)).1 (relayAll t2 es1 (SetTable.grown es1.size)).2.1
            pure (some true)
          else pure (some true)) R E s := by
  refine wpAny_bind (wpAny_storeSet_of ho hd ?_ (fits_of_scanBound hb1))
  have ho1 := store_at (es' := es1) (t' := t2) ho hd
  have sb1 := Heap.SameBut.update s.heap a (Obj.putSet es1 t2)
  split
  · have pm := relayAll_perm t2 es1 (SetTable.grown es1.size)
    have hf3 := relayAll_fits t2 es1 (SetTable.grown es1.size)
    have hr3 := relayAll_ris t2 es1 (SetTable.grown es1.size)
    have hl3 := relayAll_led t2 es1 (SetTable.grown es1.size)
    generalize relayAll t2 es1 (SetTable.grown es1.size) = Z at pm hf3 hr3 hl3 ⊢
    obtain ⟨es2, t3, gave⟩ := Z
    dsimp only at pm hf3 hr3 hl3 ⊢
    have hsz : es2.size = es1.size := by rw [← Array.length_toList, pm.length_eq, Array.length_toList]
    have hb2 : es2.size < scanBound := by rw [hsz]; exact hb1
    refine wpAny_bind (hg _ _ _ ?_)
    refine wpAny_bind (wpAny_storeSet_of ho1 rfl ?_ (fits_of_scanBound hb2))
    have ho2 := store_at (es' := es2) (t' := t3) ho1 rfl
    refine wpAny_pure (hR _ (sb1.trans (Heap.SameBut.update _ a _)) ?_)
    exact ⟨_, es2, _, t3, ho2, hex, rfl, fun e he => g1 e (pm.mem_iff.mp he), (pm.map keyM).nodup_iff.mpr nd1, fun k => (m1 k).trans (pm.map keyM).mem_iff.symm, hb2, hf3, hsz, hr3,
      hl.imp id fun z => by rw [hl3]; exact z⟩
  · exact wpAny_pure (hR _ sb1 ⟨_, es1, _, t2, ho1, hex, rfl, g1, nd1, m1, hb1, hf2, rfl, hr, hl⟩)
/-- a key is put in -/
theorem setM_hashed {k : Key} {v : Value} (hkey : keyIs k v = true) {Q : Bool → Shared → Prop} (R : SetM w s.heap a S n) (room : n + 1 < scanBound)
    (hQ : ∀ h', Heap.SameBut a s.heap h' → SetM w h' a (fun j => S j || decide (j = k)) (if S k = true then n else n + 1) → Q (!S k) { s with heap := h' }) :
    wpAny (model P w) A (setAddHashed a v ((mixKind P w).hash k)) Q E s := by
  obtain ⟨o, es, ep, t, ho, hex, hd, g, nd, hm, hb, hf, hn, hr, hl⟩ := R
  have hsc := scan_key hkey
  have hel : ElemsOf (mixKind P w) es.toList := goodM_elems g
  have hkey' : (mixKind P w).is k v = true := hkey
  unfold setAddHashed setAddHashedIn
  refine wpAny_holding (wpAny_bind (wpAny_setState_of ho hd hf ?_))
  dsimp only
  rw [byScan_of hsc hb hel]
  simp only [↓reduceIte]
  unfold setAddByScan
  refine wpAny_bind ?_
  refine wpAny_bind (wpAny_rule ?_)
  refine wpAny_bind (wpAny_setScan_of hkey' ho hd hf hel ?_)
  cases hfi : List.findIdx? (fun e => (mixKind P w).is k e.2) es.toList with
  | some j =>
    dsimp only
    obtain ⟨hj, pj, _⟩ := List.findIdx?_eq_some_iff_getElem.mp hfi
    have hSk : S k = true := (hm k).2 ((goodM_mem g k).2 ⟨es.toList[j], List.getElem_mem hj, pj⟩)
    refine wpAny_pure (wpAny_pure ?_)
    have q := hQ s.heap (Heap.SameBut.refl a s.heap) ⟨o, es, ep, t, ho, hex, hd, g, nd, fun i => by
      rw [Bool.or_eq_true, decide_eq_true_eq, ← hm i]
      exact ⟨fun z => z.elim id (fun e => e ▸ hSk), .inl⟩, hb, hf, by rw [if_pos hSk]; exact hn, hr, hl⟩
    rw [hSk] at q
    exact q
  | none =>
    dsimp only
    have hnk : k ∉ es.toList.map keyM := fun z => by
      obtain ⟨e, he, q⟩ := (goodM_mem g k).1 z
      have c := List.findIdx?_eq_none_iff.mp hfi e he
      rw [show (mixKind P w).is k e.2 = true from q] at c
      cases c
    have hSk : S k = false := by
      cases q : S k with
      | false => rfl
      | true => exact absurd ((hm k).1 q) hnk
    have hgw : ∀ (b : Bool) {s₁ : Shared} {Q' : Unit → Shared → Prop}, Q' () s₁ → wpAny (model P w) A (match b with | true => rule "set.scan.the-table-gave-way" | false => pure ()) Q' E s₁ :=
      fun b s₁ Q' q => by cases b <;> first | exact wpAny_pure q | exact wpAny_rule q
    have pm := layNew_perm t es ((mixKind P w).hash k) v
    have hf1 := layNew_fits t es ((mixKind P w).hash k) v
    have hr1 := layNew_ris t es ((mixKind P w).hash k) v hr
    have hl1 := layNew_led t es ((mixKind P w).hash k) v
    generalize layNew t es ((mixKind P w).hash k) v = Z at pm hf1 hr1 hl1 ⊢
    obtain ⟨es1, t1, wasDummy, gave⟩ := Z
    dsimp only at pm hf1 hr1 hl1 ⊢
    rw [Array.toList_push] at pm
    have pc : es1.toList.Perm (((mixKind P w).hash k, v) :: es.toList) := pm.trans (List.perm_append_singleton _ _)
    have pk : (es1.toList.map keyM).Perm (k :: es.toList.map keyM) := by
      have := pc.map keyM
      rw [List.map_cons, keyM_of (e := ((mixKind P w).hash k, v)) hkey] at this
      exact this
    have g1 : ∀ e ∈ es1.toList, GoodM w e := fun e he => by
      rcases List.mem_cons.mp (pc.mem_iff.mp he) with z | z
      · rw [z]; exact ⟨k, hkey, rfl⟩
      · exact g e z
    have nd1 : (es1.toList.map keyM).Nodup := pk.nodup_iff.mpr (List.nodup_cons.mpr ⟨hnk, nd⟩)
    have m1 : ∀ i, (S i || decide (i = k)) = true ↔ i ∈ es1.toList.map keyM := fun i => by
      rw [Bool.or_eq_true, decide_eq_true_eq, hm i, pk.mem_iff, List.mem_cons]
      exact Or.comm
    have hsz : es1.size = n + 1 := by rw [← Array.length_toList, pc.length_eq, List.length_cons, Array.length_toList, hn]
    have hb1 : es1.size < scanBound := by rw [hsz]; exact room
    have hled : w.params.followText "set-order" = true ∨ t1.led = true := hl.imp id fun z => by rw [hl1]; exact z
    have fin : ∀ h', Heap.SameBut a s.heap h' → SetM w h' a (fun j => S j || decide (j = k)) es1.size → Q true { s with heap := h' } := fun h' sb r => by
      have q := hQ h' sb
      rw [hSk] at q
      rw [hsz] at r
      exact q r
    refine wpAny_bind (hgw _ ?_)
    split
    · refine wpAny_bind ?_
      rw [hashByValue_scannable 8 hsc]
      refine wpAny_pure ?_
      refine setM_tail ?_ ho hex hd g1 nd1 m1 hb1 ?_ ?_ ?_ ?_
      · intro b s₁ Q' q; cases b <;> first | exact wpAny_pure q | exact wpAny_rule q
      · first | (split <;> first | exact hf1 | exact SetTable.fits_plain_off hf1) | exact hf1
      · first | (split <;> exact hr1) | exact hr1
      · first | (split <;> exact hled) | exact hled
      · intro h' sb r; dsimp only; exact wpAny_pure (fin h' sb r)
    · refine wpAny_bind (wpAny_pure ?_)
      simp only [↓reduceIte]
      refine setM_tail ?_ ho hex hd g1 nd1 m1 hb1 hf1 hr1 hled ?_
      · intro b s₁ Q' q; cases b <;> first | exact wpAny_pure q | exact wpAny_rule q
      · intro h' sb r; dsimp only; exact wpAny_pure (fin h' sb r)
theorem setM_new {ks : List Key} (ho : h.get? a = some { cls := .type "set", dict := none, data := .set #[] 0 (.fresh 0 0 (!w.params.followText "set-order")) }) : SetM w h a (memK (ks.take 0)) 0 :=
  ⟨_, #[], 0, _, ho, ⟨rfl, rfl, rfl⟩, rfl, (fun e he => by simp at he), (by simp), (fun k => by simp [memK]), (by decide), (by rfl), rfl, List.Pairwise.nil, by
    show _ ∨ (!w.params.followText "set-order") = true
    cases w.params.followText "set-order"
    · exact .inr rfl
    · exact .inl rfl⟩
/-- the loop of set(xs) -/
theorem setM_loop {I : Addr} {fp wr : List Addr} {G : Array GenState → Array GenState → Prop} {n : Nat} {Pv : Nat → Value → Prop} {St : Nat → Shared → Prop} {R : Result → Shared → Prop}
    (W : WalksS P w A.in1 I fp wr G n Pv St) (S : Addr) (hSf : S ∉ fp) (ks : List Key) (hn : n = ks.length) (hb : ks.length + 1 < scanBound) (hval : ∀ i v, Pv i v → ∃ k, ks[i]? = some k ∧ keyIs k v = true) :
    ∀ (k i : Nat) (s : Shared), n - i = k → i ≤ n → St i s → (∃ c, c ≤ i ∧ SetM w s.heap S (memK (ks.take i)) c) →
      (∀ s' c, Moved (S :: wr) G s s' → c ≤ n → SetM w s'.heap S (memK ks) c → R (.ok (.ret .none)) s') →
      codeAny (model P w) A (.builtin "set.update.loop" ⟨[.ref S, .ref I], []⟩) R s := by
  have hSw : S ∉ wr := fun h => hSf (W.sub _ h)
  have hsub : ∀ b ∈ wr, b ∈ S :: wr := fun b hb => List.mem_cons_of_mem _ hb
  intro k
  induction k with
  | zero =>
    intro i s hk' hi hst ⟨c, hc, hS⟩ hR
    have hin : i = n := by omega
    subst hin
    refine codeAny_builtin F.entry_set_update_loop ?_
    rw [Around.under_plainId F.plain_set_update_loop _]
    show wpAny _ A.in1 (pyNext (.ref I) >>= _) _ _ s
    refine wpAny_bind (W.done s _ _ hst fun s' hm => ?_)
    show wpAny _ A.in1 (ret Value.none) _ _ s'
    have e : ks.take i = ks := List.take_of_length_le (by omega)
    rw [e] at hS
    exact wpAny_pure (hR s' c (hm.mono hsub) hc (hS.at fun o e => hm.heap S o hSw e))
  | succ k ih =>
    intro i s hk' hi hst ⟨c, hc, hS⟩ hR
    have hlt : i < n := by omega
    refine codeAny_builtin F.entry_set_update_loop ?_
    rw [Around.under_plainId F.plain_set_update_loop _]
    show wpAny _ A.in1 (pyNext (.ref I) >>= _) _ _ s
    refine wpAny_bind (W.item i s _ _ hlt hst fun v s' hP hst' hm => ?_)
    obtain ⟨z, hz, hv⟩ := hval i v hP
    have hS' : SetM w s'.heap S (memK (ks.take i)) c := hS.at fun o e => hm.heap S o hSw e
    show wpAny _ A.in1 (holding [v] (setAdd S v) >>= _) _ _ s'
    refine wpAny_bind (wpAny_holding ?_)
    unfold setAdd
    refine wpAny_holding ?_
    refine wpAny_bind ((mixKind P w).pyHash (k := z) hv ?_)
    refine setM_hashed (s := { s' with toks := s'.toks + 1 }) hv hS' (by omega) fun h' hsb hS2 => ?_
    have hS3 : SetM w h' S (memK (ks.take (i + 1))) (if memK (ks.take i) z = true then c else c + 1) := hS2.congr fun j => by
      unfold memK
      rw [List.take_add_one, hz]
      simp [List.any_append, eq_comm]
    have hc3 : (if memK (ks.take i) z = true then c else c + 1) ≤ i + 1 := by
      split <;> omega
    refine wpAny_pure ⟨plainId_quiet F.plain_set_update_loop _, ih (i + 1) _ (by omega) hlt (W.frame _ s' _ _ hst' (Nat.le_succ _) fun b hb o e => ?_) ⟨_, hc3, hS3⟩ fun s'' c2 hm'' hc'' hS'' => ?_⟩
    · rw [hsb.2 b (fun h : b = S => hSf (by rw [← h]; exact hb))]; exact e
    · refine hR s'' c2 (Moved.trans W.gtrans ((hm.mono hsub).then_heap (Nat.le_succ _) fun b o hb e => ?_) hm'') hc'' hS''
      rw [hsb.2 b (fun h : b = S => hb (by rw [h]; exact List.mem_cons_self))]; exact e
end
end Q

set_option Elab.async false
set_option linter.all false
set_option maxRecDepth 100000
set_option maxHeartbeats 3200000
/-! Q20: sorted(set(xs)) of ints or texts -/
namespace Q
open PySem L2 PySem.Spec PyProof.Rows
section
variable {P : Program} {w : World} {A : Around} {E : Value → Shared → Prop} {s : Shared} {a : Addr}
/-- the values are the keys -/
def KeysAre (us : List Value) (ks : List Key) : Prop := Paired (fun u k => keyIs k u = true) us ks
theorem KeysAre.at {us : List Value} {ks : List Key} (h : KeysAre us ks) {i : Nat} {u : Value} (e : us[i]? = some u) : ∃ k, ks[i]? = some k ∧ keyIs k u = true := by
  unfold KeysAre at h
  induction h generalizing i with
  | nil => simp at e
  | cons r t ih =>
    cases i with
    | zero => simp at e; subst e; exact ⟨_, rfl, r⟩
    | succ i => obtain ⟨k, a, b⟩ := ih (i := i) (by simpa using e); exact ⟨k, by simpa using a, b⟩
/-- set(t), t a tuple of keys -/
theorem call_set_tupK {l : Addr} {items : Array Value} (ks : List Key) {Q : Value → Shared → Prop} (hh : A.handled = none) (hl : s.heap.IsTuple l items) (hit : KeysAre items.toList ks) (hb : ks.length + 1 < scanBound)
    (h : ∀ (h' : Heap) (tk c : Nat), SetM w h' s.heap.objs.size (memK ks) c → c ≤ ks.length → (∀ b o, s.heap.get? b = some o → h'.get? b = some o) → Q (.ref s.heap.objs.size) { s with heap := h', toks := tk }) :
    wpAny (model P w) A (call (.type "set") [.ref l]) Q E s := by
  have hisz : items.size = ks.length := by
    have q := Paired.length hit
    rw [Array.length_toList] at q
    exact q
  obtain ⟨c, tl, hmro⟩ := F.called_set.mro
  have hmade := F.called_set.made
  have hsub := F.called_set.sub
  refine wpAny_call (codeAny_of_tree ?_)
  show wpAny _ _ (callAny (.type "set") _) _ _ _
  refine wpAny_pure ⟨Code.quiet_builtin _ (by decide +kernel), codeAny_builtin F.entry_type_call ?_⟩
  rw [Around.under_plain (weight_type_call_type "set" [.ref l] []) rfl]
  have h1 := F.called_set.notType
  have h2 := F.called_set.canCreate
  have hct := F.typeCall_set_1 (.ref l)
  repeat (any_goals (first | assumption | wp_step))
  refine codeAny_mono (code_set_led1 (.ref l) (E := E) (Q₁ := fun obj s₁ => obj = .ref s.heap.objs.size ∧ s₁ = { s with heap := s.heap.push { cls := .type "set", dict := none, data := .set #[] 0 (.fresh 0 0 (!w.params.followText "set-order")) } }) ⟨rfl, rfl⟩) fun r s₁ hr => ?_
  cases r with
  | error e => exact hr
  | ok fl =>
    cases fl with
    | ret obj =>
      obtain ⟨rfl, rfl⟩ := hr
      have hS : (s.heap.push { cls := .type "set", dict := none, data := .set #[] 0 (.fresh 0 0 (!w.params.followText "set-order")) }).get? s.heap.objs.size = some { cls := .type "set", dict := none, data := .set #[] 0 (.fresh 0 0 (!w.params.followText "set-order")) } := Heap.get?_push_size _ rfl
      have hT : Shared.TypeIs { s with heap := s.heap.push { cls := .type "set", dict := none, data := .set #[] 0 (.fresh 0 0 (!w.params.followText "set-order")) } } (.ref s.heap.objs.size) "set" := ⟨_, hS, rfl⟩
      have hli := F.called_set.init.lookup
      have hbi := F.called_set.init.bind (.ref s.heap.objs.size)
      repeat (any_goals (first | assumption | wp_step))
      refine codeAny_mono (codeAny_call_builtin (R := wants (fun r s₂ => r = .none ∧ ∃ h' tk c, s₂ = { s with heap := h', toks := tk } ∧ SetM w h' s.heap.objs.size (memK ks) c ∧ c ≤ ks.length ∧
          (∀ b o, s.heap.get? b = some o → h'.get? b = some o)) E) F.called_set.init.plain F.entry_set_init (check_set_init_1 hT ?_)) fun r₂ s₂ hr₂ => ?_
      · obtain ⟨ol, hol, hcl, nl, hdl⟩ := hl
        obtain ⟨ocls, odict, odata, oslots⟩ := ol
        simp only at hcl hdl
        subst hcl; subst hdl
        have hol' : (s.heap.push { cls := .type "set", dict := none, data := .set #[] 0 (.fresh 0 0 (!w.params.followText "set-order")) }).get? l = some { cls := .type "tuple", dict := odict, data := .seq items nl, slots := oslots } := Heap.get?_push_of_some _ hol
        have hsls := F.sub_tuple_set
        have hslf := F.sub_tuple_frozenset
        have hne : (Value.type "tuple" == Value.type "dict") = false := by decide
        have hl1 : (s.heap.push { cls := .type "set", dict := none, data := .set #[] 0 (.fresh 0 0 (!w.params.followText "set-order")) }).IsTuple l items := ⟨_, hol', rfl, nl, rfl⟩
        unfold Builtin.«set.__init__» noKeywords Builtin.Frozenset.updateFrom
        generalize hPI : pyIter = PI
        wp_walk
        subst hPI
        refine wpAny_pyIter_tuple hl1 ?_
        refine wpAny_bind (wpAny_runValue ?_)
        have hlS : l < s.heap.objs.size := Heap.lt_size hol
        have hh3 : A.in1.in1.in1.handled = none := by simp [hh]
        have hneI : l ≠ (s.heap.push { cls := .type "set", dict := none, data := .set #[] 0 (.fresh 0 0 (!w.params.followText "set-order")) }).objs.size := by
          rw [Heap.size_push]; exact Nat.ne_of_lt (Nat.lt_succ_of_lt hlS)
        have hSf : s.heap.objs.size ∉ [(s.heap.push { cls := .type "set", dict := none, data := .set #[] 0 (.fresh 0 0 (!w.params.followText "set-order")) }).objs.size, l] := by
          rw [Heap.size_push]; simp only [List.mem_cons, List.mem_singleton, List.not_mem_nil, or_false, not_or]
          exact ⟨Nat.ne_of_lt (Nat.lt_succ_self _), Nat.ne_of_gt hlS⟩
        have hval : ∀ (i : Nat) (v : Value), items[i]? = some v → ∃ k, ks[i]? = some k ∧ keyIs k v = true := fun i v hv => hit.at (by rw [Array.getElem?_toList]; exact hv)
        refine setM_loop ((Walks.tuple hh3 _ l hneI items).toS) s.heap.objs.size
          hSf ks hisz hb hval (items.size - 0) 0 _ (by omega) (Nat.zero_le _)
          ⟨⟨_, Heap.get?_push_size _ rfl, rfl, rfl⟩, (hl1.push _)⟩ ?hS0 ?hR
        case hS0 =>
          have hget : ((s.heap.push { cls := .type "set", dict := none, data := .set #[] 0 (.fresh 0 0 (!w.params.followText "set-order")) }).push { cls := .type "tuple_iterator", data := .fields #[.ref l, .int 0 0] }).get? s.heap.objs.size
              = some { cls := .type "set", dict := none, data := .set #[] 0 (.fresh 0 0 (!w.params.followText "set-order")) } := Heap.get?_push_of_some _ hS
          exact ⟨0, Nat.le_refl 0, setM_new hget⟩
        case hR =>
          intro s' c' hm hc' hS'
          obtain ⟨h', g2, d', tk', os'⟩ := s'
          have eg : g2 = s.gens := hm.gens
          have ed : d' = s.drawn := hm.drawn
          have eo : os' = s.os := hm.os
          subst eg; subst ed; subst eo
          show wpAny _ _ _ _ _ _
          refine wpAny_pure ?_
          show wpAny _ _ (ret Value.none) _ _ _
          rw [hisz] at hc'
          refine wpAny_pure ⟨rfl, h', tk', c', rfl, hS', hc', fun b o e => ?_⟩
          have hb0 : b < s.heap.objs.size := Heap.lt_size e
          have hb1 : b ≠ s.heap.objs.size := Nat.ne_of_lt hb0
          have hb2 : b ≠ (s.heap.push { cls := .type "set", dict := none, data := .set #[] 0 (.fresh 0 0 (!w.params.followText "set-order")) }).objs.size := by
            rw [Heap.size_push]; exact Nat.ne_of_lt (Nat.lt_succ_of_lt hb0)
          exact hm.heap b o (by simp only [List.mem_cons, List.mem_singleton, List.not_mem_nil, or_false, not_or]; exact ⟨hb1, hb2⟩) (Heap.get?_push_of_some _ (Heap.get?_push_of_some _ e))
      · cases r₂ with
        | error e => exact hr₂
        | ok fl₂ =>
          cases fl₂ with
          | ret r =>
            obtain ⟨rfl, h', tk, c', rfl, hS', hc', hk'⟩ := hr₂
            repeat (any_goals (first | assumption | wp_step))
            exact h _ _ _ hS' hc' hk'
          | _ => exact hr₂.elim
    | _ => exact hr.elim
/-! ### sorted -/
def keyD : Key → PyData
  | .inl i => .int i
  | .inr x => .str x
/-- all ints, or all texts -/
def sameK : List Key → Bool
  | [] => true
  | .inl _ :: r => r.all fun k => match k with
    | .inl _ => true
    | _ => false
  | .inr _ :: r => r.all fun k => match k with
    | .inr _ => true
    | _ => false
theorem keyD_alike {ks : List Key} (h : sameK ks = true) : PySem.W.AllAlike (ks.map keyD) ∧ PySem.W.Sortable (ks.map keyD) := by
  have key : (∀ k ∈ ks, ∃ i, k = Sum.inl i) ∨ ∀ k ∈ ks, ∃ x, k = Sum.inr x := by
    cases ks with
    | nil => exact .inl fun k hk => by simp at hk
    | cons k r =>
      cases k with
      | inl i =>
        refine .inl fun k hk => ?_
        rcases List.mem_cons.mp hk with e | e
        · exact ⟨i, e⟩
        · have := List.all_eq_true.mp h k e
          cases k with
          | inl j => exact ⟨j, rfl⟩
          | inr x => cases this
      | inr y =>
        refine .inr fun k hk => ?_
        rcases List.mem_cons.mp hk with e | e
        · exact ⟨y, e⟩
        · have := List.all_eq_true.mp h k e
          cases k with
          | inl j => cases this
          | inr x => exact ⟨x, rfl⟩
  have ne : ∀ k : Key, keyD k ≠ .none ∧ ∀ xs, keyD k ≠ .tuple xs := fun k => by cases k <;> (refine ⟨fun z => ?_, fun _ z => ?_⟩ <;> cases z)
  refine ⟨fun d hd e he => ?_, .inr fun d hd => ?_⟩
  · obtain ⟨k, hk, rfl⟩ := List.mem_map.mp hd
    obtain ⟨l, hl, rfl⟩ := List.mem_map.mp he
    rcases key with q | q
    · obtain ⟨i, rfl⟩ := q k hk
      obtain ⟨j, rfl⟩ := q l hl
      rfl
    · obtain ⟨i, rfl⟩ := q k hk
      obtain ⟨j, rfl⟩ := q l hl
      rfl
  · obtain ⟨k, hk, rfl⟩ := List.mem_map.mp hd
    exact ne k
theorem keyD_reads {h : Heap} {k : Key} {v : Value} (e : keyIs k v = true) : Reads h v (keyD k) [] := by
  rcases keyIs_shape e with ⟨i, t, rfl, rfl⟩ | ⟨x, t, rfl, rfl⟩
  · exact Reads.int _ _
  · exact Reads.str _ _
end
end Q

set_option Elab.async false
set_option linter.all false
set_option maxRecDepth 100000
set_option maxHeartbeats 3200000
/-! Q21: sorted(set(xs)), the rule -/
namespace Q
open PySem L2 PySem.Spec PyProof.Rows
/-! ### without doubles, in order -/
def dedupK : List Key → List Key
  | [] => []
  | k :: r => if memK r k = true then dedupK r else k :: dedupK r
theorem mem_dedupK {j : Key} : ∀ ks : List Key, j ∈ dedupK ks ↔ j ∈ ks
  | [] => by simp [dedupK]
  | k :: r => by
    unfold dedupK
    split
    · rename_i h
      rw [mem_dedupK r, List.mem_cons]
      exact ⟨.inr, fun z => z.elim (fun e => e ▸ memK_iff.mp h) id⟩
    · rw [List.mem_cons, List.mem_cons, mem_dedupK r]
theorem nodup_dedupK : ∀ ks : List Key, (dedupK ks).Nodup
  | [] => by simp [dedupK]
  | k :: r => by
    unfold dedupK
    split
    · exact nodup_dedupK r
    · rename_i h
      refine List.nodup_cons.mpr ⟨fun z => h (memK_iff.mpr ((mem_dedupK r).mp z)), nodup_dedupK r⟩
def sortK (ks : List Key) : List Key := (dedupK ks).mergeSort (PySem.W.dataLe false keyD)
def SameK (ks : List Key) : Prop := (∀ k ∈ ks, ∃ i, k = Sum.inl i) ∨ ∀ k ∈ ks, ∃ x, k = Sum.inr x
theorem sameK_prop {ks : List Key} (h : sameK ks = true) : SameK ks := by
  cases ks with
  | nil => exact .inl fun k hk => by simp at hk
  | cons k r =>
    cases k with
    | inl i =>
      refine .inl fun k hk => ?_
      rcases List.mem_cons.mp hk with e | e
      · exact ⟨i, e⟩
      · have := List.all_eq_true.mp h k e
        cases k with
        | inl j => exact ⟨j, rfl⟩
        | inr x => cases this
    | inr y =>
      refine .inr fun k hk => ?_
      rcases List.mem_cons.mp hk with e | e
      · exact ⟨y, e⟩
      · have := List.all_eq_true.mp h k e
        cases k with
        | inl j => cases this
        | inr x => exact ⟨x, rfl⟩
theorem sameK_of {ks : List Key} (h : SameK ks) : sameK ks = true := by
  cases ks with
  | nil => rfl
  | cons k r =>
    rcases h with h | h
    · obtain ⟨i, rfl⟩ := h k List.mem_cons_self
      refine List.all_eq_true.mpr fun j hj => ?_
      obtain ⟨x, rfl⟩ := h j (List.mem_cons_of_mem _ hj)
      rfl
    · obtain ⟨i, rfl⟩ := h k List.mem_cons_self
      refine List.all_eq_true.mpr fun j hj => ?_
      obtain ⟨x, rfl⟩ := h j (List.mem_cons_of_mem _ hj)
      rfl
theorem SameK.sub {ks ls : List Key} (h : SameK ks) (hs : ∀ k ∈ ls, k ∈ ks) : SameK ls := h.elim (fun q => .inl fun k hk => q k (hs k hk)) fun q => .inr fun k hk => q k (hs k hk)
theorem keyLe_int (i j : Int) : PySem.W.dataLe false keyD (.inl i) (.inl j) = decide (i ≤ j) := by
  have := congrFun (congrFun (PySem.W.dataLe_int (fun b : Int => b)) i) j
  exact this
theorem keyLe_str (x y : Str) : PySem.W.dataLe false keyD (.inr x) (.inr y) = decide (x.cps.toList ≤ y.cps.toList) := by
  have := congrFun (congrFun (PySem.W.dataLe_str (fun b : Str => b)) x) y
  exact this
theorem keyLe_anti {a b : Key} (hs : (∃ i j, a = .inl i ∧ b = .inl j) ∨ ∃ i j, a = .inr i ∧ b = .inr j) (h1 : PySem.W.dataLe false keyD a b = true) (h2 : PySem.W.dataLe false keyD b a = true) : a = b := by
  rcases hs with ⟨i, j, rfl, rfl⟩ | ⟨i, j, rfl, rfl⟩
  · rw [keyLe_int] at h1 h2
    have := of_decide_eq_true h1
    have := of_decide_eq_true h2
    have e : i = j := by omega
    rw [e]
  · rw [keyLe_str] at h1 h2
    have e := List.le_antisymm (of_decide_eq_true h1) (of_decide_eq_true h2)
    obtain ⟨a⟩ := i
    obtain ⟨b⟩ := j
    have : a = b := by
      have e : a.toList = b.toList := e
      exact Array.toList_inj.mp e
    rw [this]
/-- sorting does not ask in which order the keys come -/
theorem sort_perm {ks ls : List Key} (hs : SameK ks) (p : ls.Perm ks) : ls.mergeSort (PySem.W.dataLe false keyD) = ks.mergeSort (PySem.W.dataLe false keyD) := by
  have T := PySem.W.sortLe_total (listOrd itemOrd) false fun b : Key => PySem.W.keyToks (keyD b)
  have p1 := List.mergeSort_perm ls (PySem.W.dataLe false keyD)
  have p2 := List.mergeSort_perm ks (PySem.W.dataLe false keyD)
  refine List.Perm.eq_of_pairwise (le := fun a b => PySem.W.dataLe false keyD a b = true) (fun a b ha hb h1 h2 => keyLe_anti ?_ h1 h2) (List.pairwise_mergeSort (fun a b c => T.trans a b c) (fun a b => by rw [Bool.or_eq_true]; exact T.total a b) _) (List.pairwise_mergeSort (fun a b c => T.trans a b c) (fun a b => by rw [Bool.or_eq_true]; exact T.total a b) _) (p1.trans (p.trans p2.symm))
  have ma := p.mem_iff.mp (p1.mem_iff.mp ha)
  have mb := p2.mem_iff.mp hb
  rcases hs with hs | hs
  · obtain ⟨i, e1⟩ := hs a ma
    obtain ⟨j, e2⟩ := hs b mb
    exact .inl ⟨i, j, e1, e2⟩
  · obtain ⟨i, e1⟩ := hs a ma
    obtain ⟨j, e2⟩ := hs b mb
    exact .inr ⟨i, j, e1, e2⟩
section
variable {P : Program} {w : World} {A : Around} {E : Value → Shared → Prop} {s : Shared} {a : Addr}
theorem vals_keys : ∀ (l : List (Int × Value)), (∀ e ∈ l, GoodM w e) → PySem.W.EachIs (fun (v : Value) (k : Key) => keyIs k v = true) (l.map (·.2)) (l.map keyM)
  | [], _ => .nil
  | e :: l, h => by
    obtain ⟨k, h1, _⟩ := h e List.mem_cons_self
    refine .cons ?_ (vals_keys l fun x hx => h x (List.mem_cons_of_mem _ hx))
    rw [keyM_of h1]; exact h1
/-- what stands behind each value, in whatever order -/
def keyV (v : Value) : Key := keyM (0, v)
theorem sorted_setM {ks : List Key} {n : Nat} {Q : Value → Shared → Prop} (R : SetM w s.heap a (memK ks) n) (hs : SameK ks) (hh : A.handled = none) (hu : A.units + 10 < cLine)
    (hQ : ∀ s' p (out : Array Value) (c : Nat), (∀ b o, s.heap.get? b = some o → s'.heap.get? b = some o) → s'.gens = s.gens → s'.os = s.os → s.heap.objs.size ≤ p →
      s'.heap.get? p = some (seqObj "list" out c) → PySem.W.EachIs (fun (v : Value) (k : Key) => keyIs k v = true) out.toList (sortK ks) → Q (.ref p) s') :
    wpAny (model P w) A (call (.builtin "sorted") [.ref a]) Q E s := by
  obtain ⟨o, es, ep, t, ho, hex, hd, g, nd, hm, hb, hf, hn, hr, hl⟩ := R
  refine Calls.call_function_entry kind_sorted plain_sorted entry_sorted (args_sorted1 _) ?_
  unfold Builtin.«sorted»
  refine wpAny_bind (m := checkCount "sorted" 1 1 _) (wpAny_pure ?_)
  refine wpAny_bind (collect_set (A := A.in1) hh ⟨o, ho, hex.1, hd⟩ hf hb hr hl fun s1 vs k1 hz g1 o1 pm => ?_)
  have hvl : vs.length = es.size := by rw [pm.length_eq, List.length_map, Array.length_toList]
  have hsz : vs.length ≤ sizeLine := by rw [hvl]; exact fits_of_scanBound hb
  -- the keys in the order in which they came
  have good : ∀ v ∈ vs, ∃ k, keyIs k v = true := fun v hv => by
    obtain ⟨e, he, q⟩ := List.mem_map.mp (pm.mem_iff.mp hv)
    obtain ⟨k, h1, _⟩ := g e he
    exact ⟨k, by rw [← q]; exact h1⟩
  have eI : ∀ l : List Value, (∀ v ∈ l, ∃ k, keyIs k v = true) → PySem.W.EachIs (fun (v : Value) (k : Key) => keyIs k v = true) l (l.map keyV) := by
    intro l
    induction l with
    | nil => intro _; exact .nil
    | cons v l ih =>
      intro h
      obtain ⟨k, hk⟩ := h v List.mem_cons_self
      refine .cons ?_ (ih fun u hu => h u (List.mem_cons_of_mem _ hu))
      unfold keyV; rw [keyM_of (e := (0, v)) hk]; exact hk
  have e1 := eI vs good
  have pk : (vs.map keyV).Perm (es.toList.map keyM) := by
    have q := pm.map keyV
    rw [List.map_map] at q
    exact q
  have pd : (vs.map keyV).Perm (dedupK ks) := by
    refine (List.perm_ext_iff_of_nodup (pk.nodup_iff.mpr nd) (nodup_dedupK ks)).mpr fun k => ?_
    rw [pk.mem_iff, ← hm k, mem_dedupK, memK_iff]
  have sd : SameK (dedupK ks) := hs.sub fun k hk => (mem_dedupK ks).mp hk
  have sv : SameK (vs.map keyV) := sd.sub fun k hk => pd.mem_iff.mp hk
  obtain ⟨al, so⟩ := keyD_alike (sameK_of sv)
  refine wpAny_bind (wpAny_newList ?_ hsz)
  have hoL : (s1.heap.push (seqObj "list" vs.toArray 0)).get? s1.heap.objs.size = some (seqObj "list" vs.toArray 0) := Heap.get?_push_size _ rfl
  refine wpAny_bind (wpAny_holding (PySem.W.list_sort_data (s := { s1 with heap := s1.heap.push (seqObj "list" vs.toArray 0) }) (bs := vs.map keyV) (enc := keyD) (R := fun (v : Value) (k : Key) => keyIs k v = true) hoL e1 (e1.mono fun v k h => ⟨[], keyD_reads h, by simp⟩) al so (by rw [List.length_map]; exact hsz) (fun k _ => ?_) fun out hol eo => ?_))
  · have : (keyD k).depth = 0 := by cases k <;> rfl
    rw [this]
    show A.units + 1 + 1 + 0 < cLine
    omega
  · obtain ⟨c, hc⟩ := sortedHeap_at (vs := vs) (out := out.toArray) hoL
    rw [sort_perm sd pd] at eo
    refine wpAny_pure ⟨_, rfl, hQ _ s1.heap.objs.size out.toArray c (fun b u e => ?_) g1 o1 hz hc (by simpa [sortK] using eo)⟩
    have q := k1 b u e
    have hlt := Heap.lt_size q
    show (sortedHeap (s1.heap.push (seqObj "list" vs.toArray 0)) s1.heap.objs.size vs out.toArray).get? b = some u
    rw [sortedHeap_old (Nat.ne_of_lt hlt) (by rw [size_push']; exact Nat.lt_succ_of_lt hlt)]
    exact Heap.get?_push_of_some _ q
end
end Q

set_option Elab.async false
set_option linter.all false
set_option maxRecDepth 100000
set_option maxHeartbeats 3200000
/-! Q22: the rule for sorted(set(xs)) -/
namespace Q
open PySem L2 PySem.Spec PyProof.Rows
section
variable {X : Cx} {C : QC} {E : XK} {W : Wd} {st : Store} {H : Hp}
theorem keysAre_of {P : Program} {w : World} : ∀ {ks : List Key} {us : List Value}, Vals (ks.map kV) us → KeysAre us ks
  | [], _, .nil => .nil
  | k :: ks, _, .cons r t => .cons (kV_is (P := P) (w := w) r) (keysAre_of (P := P) (w := w) t)
theorem vals_of_keys : ∀ {ks : List Key} {us : List Value}, PySem.W.EachIs (fun (v : Value) (k : Key) => keyIs k v = true) us ks → Vals (ks.map kV) us
  | _, _, .nil => .nil
  | _, _, .cons r t => .cons (relV_key r) (vals_of_keys t)
def tSortSet (K : PySem.W.Frag) (ta : TE) : TE := fun σ H Q => ta σ H fun x H1 => ∃ (l : Addr) (ks : List Key), x = .ref l ∧ SqT K H1 l (ks.map kV) ∧ ks.length ≤ 1000 ∧ SameK ks ∧ ∀ p, H1 p = none → Q (.ref p) (upd H1 p (.lst ((sortK ks).map kV)))
theorem pe_sortSet {a : Expr} {ta : TE} {p p2 q pos : Pos} (hc : X.calm = true) (hu : X.A.units + 20 < cLine) (hg : Gl X "sorted") (hm : X.mg "sorted" = none) (hg2 : Gl X "set") (hm2 : X.mg "set" = none) (ha : PE X a ta)
    (na : starEach [a] X.env = (false, eval a X.env) :: starEach [] X.env := by rfl) : PE X (.Call (.Name "sorted" p) [.Call (.Name "set" p2) [a] [] q] [] pos) (tSortSet X.K ta) := by
  refine ⟨fun pins s σ H Q I h => ?_⟩
  refine Call_ (ld_blt I hg hm boot_sorted ?_)
  refine PyProof.Rows.callWith_builtin1 (PyProof.Rows.args_cons ?_ rfl) rfl rfl
  refine Call_ (ld_blt I hg2 hm2 boot_set ?_)
  refine PyProof.Rows.callWith_type1 (PyProof.Rows.args_cons (thn (ha.run pins s σ H _ I h) fun v s1 ⟨x, H1, I1, r1, q1⟩ => PyProof.Rows.args_nil ?_) na) na rfl
  obtain ⟨l, ks, rfl, hq, h1, same, q1⟩ := q1
  cases r1
  obtain ⟨its, r, pl, hz⟩ := I1.tuple hq
  refine call_set_tupK ks (I1.ok.hd hc) (show s1.heap.IsTuple l its.toArray from pl) (by simpa using keysAre_of (P := X.prog) (w := X.w) r) (by unfold scanBound; omega) fun h' tk c R hcn k => ?_
  refine PyProof.Rows.args_nil ?_
  have I2 : Inv X pins σ H1 { s1 with heap := h', toks := tk } := I1.kept k
  have R : SetM X.w ({ s1 with heap := h', toks := tk } : Shared).heap s1.heap.objs.size (memK ks) c := R
  generalize ({ s1 with heap := h', toks := tk } : Shared) = s2 at I2 R ⊢
  refine sorted_setM R same (I2.ok.hd hc) (by omega) fun s' p out c2 k2 g o hp hg' eo => ?_
  have hv := vals_of_keys eo
  have hlen : ((sortK ks).map kV).length ≤ sizeLine := by
    rw [List.length_map]
    have e1 : (sortK ks).length = (dedupK ks).length := List.length_mergeSort _
    have e2 : ∀ l : List Key, (dedupK l).length ≤ l.length := by
      intro l
      induction l with
      | nil => exact Nat.le_refl _
      | cons k r ih =>
        unfold dedupK
        split
        · exact Nat.le_succ_of_le ih
        · simp; exact ih
    have := e2 ks
    rw [e1, sizeLine_eq]; omega
  have hn : H1 p = none := I2.hok.fresh hp
  have J : Inv X pins σ (upd H1 p (.lst ((sortK ks).map kV))) { s2 with heap := s'.heap, gens := s'.gens, drawn := s'.drawn, toks := s'.toks } :=
    I2.call (ch := []) (Un.laid k2 hp hn) (I2.hok.laid k2 hp ⟨hlen, out.toList, c2, hv, hg'⟩) (by rw [g]; exact I2.bare) (fun _ z => nomatch z)
  have e : s' = { s2 with heap := s'.heap, gens := s'.gens, drawn := s'.drawn, toks := s'.toks } := by
    cases s'
    cases s2
    cases o
    rfl
  rw [e]
  exact ⟨.ref p, _, J, rfl, q1 p hn⟩
def keysP : List P → Option (List Key)
  | [] => some []
  | p :: r => match asKey p, keysP r with
    | some k, some ks => some (k :: ks)
    | _, _ => none
theorem keysP_rep {F : Hp} : ∀ {ps : List P} {vs : List V} {ks : List Key}, Reps C F ps vs → keysP ps = some ks → vs = ks.map kV
  | [], _, ks, .nil, e => by simp [keysP] at e; subst e; rfl
  | p :: ps, _, ks, .cons r t, e => by
    unfold keysP at e
    split at e
    · rename_i k ks2 e1 e2
      cases e
      rw [asKey_rep r e1, keysP_rep t e2]; rfl
    · cases e
def eSortSet (a : XE) : XE := fun env st => (a env st).bind fun u st => match u with
  | .p (.tup ps) => match keysP ps with
    | some ks => if (decide (ks.length ≤ 1000) && sameK ks) = true then .ok (.p (.lst ((sortK ks).map keyP))) st else .stuck
    | none => .stuck
  | .p (.ktup ps) => match keysP ps with
    | some ks => if (decide (ks.length ≤ 1000) && sameK ks) = true then .ok (.p (.lst ((sortK ks).map keyP))) st else .stuck
    | none => .stuck
  | _ => .stuck
theorem reps_keys {F : Hp} : ∀ ks : List Key, Reps C F (ks.map keyP) (ks.map kV)
  | [] => .nil
  | k :: ks => .cons (rep_key k) (reps_keys ks)
variable {a : Expr} {fa : XE} {p p2 q pos : Pos}
theorem qe_sortSet (ok : Ok X C) (hg : Gl X "sorted") (hm : X.mg "sorted" = none) (hg2 : Gl X "set") (hm2 : X.mg "set" = none) (ha : QE X C E a fa)
    (na : starEach [a] X.env = (false, eval a X.env) :: starEach [] X.env := by rfl) : QE X C E (.Call (.Name "sorted" p) [.Call (.Name "set" p2) [a] [] q] [] pos) (eSortSet fa) := by
  refine (pe_sortSet ok.calm (by have := ok.hu; omega) hg hm hg2 hm2 ha na).imp fun σ H Q h => ?_
  obtain ⟨W, env, st, rs, n, h⟩ := h
  refine T.of rs n h fun W1 u st1 H1 y _ r1 n1 ry h1 => ?_
  have fin : ∀ (a : Addr) (ks : List Key), y = .ref a → SqT X.K H1 a (ks.map kV) → Aft C E W1 (if (decide (ks.length ≤ 1000) && sameK ks) = true then .ok (.p (.lst ((sortK ks).map keyP))) st1 else .stuck) (fun W' v _ H' => ∀ x, RepS C W' v x → Q x H') →
      ∃ (l : Addr) (ks : List Key), y = .ref l ∧ SqT X.K H1 l (ks.map kV) ∧ ks.length ≤ 1000 ∧ SameK ks ∧ ∀ p, H1 p = none → Q (.ref p) (upd H1 p (.lst ((sortK ks).map kV))) := fun a ks ey hq h2 => by
    split at h2
    · rename_i hc
      rw [Bool.and_eq_true] at hc
      refine ⟨a, ks, ey, hq, of_decide_eq_true hc.1, sameK_prop hc.2, fun p hp => ?_⟩
      have le := (r1.laidF hp (.lst ((sortK ks).map kV))).1
      exact aft_laid r1 hp h2 _ (.lst upd_same ((reps_keys _).mono le.f))
    · exact h2.elim
  split at h1
  · cases ry with
    | tup q rr =>
      split at h1
      · rename_i ks ek
        have ev := keysP_rep rr ek
        subst ev
        exact fin _ ks rfl (SqT.of (r1.sub _ _ q)) h1
      · exact h1.elim
  · cases ry with
    | ktup q rr =>
      split at h1
      · rename_i ks ek
        have ev := keysP_rep rr ek
        subst ev
        exact fin _ ks rfl (by rw [← ok.hC]; exact sqT_le r1.sub q) h1
      · exact h1.elim
  · exact h1.elim
end
end Q

set_option Elab.async false
set_option linter.all false
set_option maxRecDepth 100000
set_option maxHeartbeats 3200000
/-! Q23: recursion, by fuel -/
namespace Q
open PySem L2 PySem.Spec PyProof.Rows
section
variable {X : Cx} {C : QC} {E : XK}
theorem qss_stuck {s : List Stmt} : QSs X C E s sStuck := ⟨fun pins sh σ H D I h => by
  obtain ⟨W, env, st, r, n, h⟩ := h
  exact h.elim⟩
/-- a def that calls itself, by what it says at less fuel -/
def gRec (N : Nat) (f : GCall → XS) : Nat → GCall
  | 0 => gDef N sStuck
  | n + 1 => gDef N (f (gRec N f n))
variable {P : Program} {w : World} {K : PySem.W.Frag} {mg : Str → Option Value} {base : Heap}
theorem fsR {x : Str} {s : Stmt} {N ps : List Str} {k : Nat} {fb : GCall → XS} (hC : C.K = K) (hP : C.prog = P) (hw : C.w = w) (D : DefAt K mg x s ps) (S : FnScope N ps (defScope s))
    (body : ∀ (n : Nat) (grec : GCall), FS P w K mg base C (k + 1 + n) x ps.length grec → ∀ (f0 : Addr) (cdv : Value) (A : Around) (outer : List PySem.Env) (sh : Shared) (H : Hp) (E : XK), Ok (cxOf CX0 P w K mg base N x (defScope s) f0 cdv A outer sh H E).nox C → Room (k + 1 + n) (A.deeper (envOfC x (defScope s) sh.heap.objs.size f0 cdv)) → QSs (cxOf CX0 P w K mg base N x (defScope s) f0 cdv A outer sh H E).nox C E0 (defBody s) (fb grec)) :
    ∀ n, FS P w K mg base C (k + 1 + n) x ps.length (gRec N.length fb n)
  | 0 => fsD hC hP hw D S fun f0 cdv A outer sh H E ok hr => qss_stuck
  | n + 1 => fsD (k := k + 1 + n) hC hP hw D S fun f0 cdv A outer sh H E ok hr => body n _ (fsR hC hP hw D S body n) f0 cdv A outer sh H E ok hr
end
end Q

set_option Elab.async false
set_option linter.all false
set_option maxRecDepth 100000
set_option maxHeartbeats 2000000
/-! Q24: what the module's top has written, read by a Hook -/
namespace Q
open PySem PySem.Spec PyProof.Rows L2

/-! ### functions at addresses -/
/-- a def: where it stands (by what is looked at), its name, qualified name, statement -/
structure FnA where
  at_ : PySem.W.Frag → Addr
  name : Str
  qual : Str
  st : Stmt
def fnAt (K : PySem.W.Frag) (a : Addr) : He.FnW := match K.lookup a with
  | some ⟨_, _, .func fd, _⟩ => some (fd.name, fd.qualname, fd.params, fd.body, fd.scope, fd.globals, fd.closure, fd.builtins)
  | _ => none
def FnA.val (d : FnA) : He.FnW := some (d.name, d.qual, defArgs d.st, .stmts (defBody d.st), defScope d.st, mainGlobals, [], builtinsNs)
def noneB : Value → Bool
  | .none => true
  | _ => false
def FnA.ok (K : PySem.W.Frag) (d : FnA) : Bool := PySem.W.keepIn K (.ref (d.at_ K)) && (match K.lookup (d.at_ K) with
  | some ⟨_, _, .func fd, _⟩ => PySem.W.codeIn K fd.code d.qual && noneB fd.defaults
  | _ => false)
theorem FnA.fun_ {K : PySem.W.Frag} {d : FnA} (e : fnAt K (d.at_ K) = d.val) (c : d.ok K = true) : ∃ fd, Fun K d.name d.qual d.st (d.at_ K) fd := by
  obtain ⟨kp, c2⟩ := He.ba c
  unfold fnAt at e
  cases q : K.lookup (d.at_ K) with
  | none => rw [q] at c2; cases c2
  | some o =>
    obtain ⟨oc, od, dt, osl⟩ := o
    rw [q] at c2 e
    cases dt with
    | func fd =>
      obtain ⟨n1, n2, n3, n4, n5, n6, n7, n8, n9, n10, n11, n12, n13, n14, n15⟩ := fd
      have e2 : (some (n1, n2, n3, n4, n5, n6, n7, n15) : He.FnW) = some (d.name, d.qual, defArgs d.st, .stmts (defBody d.st), defScope d.st, mainGlobals, [], builtinsNs) := e
      simp only [Option.some.injEq, Prod.mk.injEq] at e2
      obtain ⟨h1, h2, h3, h4, h5, h6, h7, h8⟩ := e2
      subst h1 h2 h3 h4 h5 h6 h7 h8
      have c3 : (PySem.W.codeIn K n13 d.qual && noneB n8) = true := c2
      obtain ⟨k1, k2⟩ := He.ba c3
      have e8 : n8 = .none := by
        cases n8 <;> first | rfl | cases k2
      subst e8
      exact ⟨_, ⟨oc, od, n9, n10, n11, n12, n13, n14, osl, rfl, q, k1⟩, kp⟩
    | _ => cases c2
/-- the getter of a property of a class -/
def getA (C f : Str) (K : PySem.W.Frag) : Addr := match PySem.W.recIn K (He.ma K (He.ga K C) f) "property" with
  | some (.ref g :: _) => g
  | _ => 0
def metA (C m : Str) (K : PySem.W.Frag) : Addr := He.ma K (He.ga K C) m
def gloA (x : Str) (K : PySem.W.Frag) : Addr := He.ga K x
/-! ### the Hook -/
abbrev AlY : Type := Bool × List He.FnW × List (Option (List (Option (Str × Int))))
def obsY (fb : List (PySem.W.Frag → Bool)) (fn : List FnA) (ts : List He.Tab) (K : PySem.W.Frag) : AlY := ((fb.all fun f => f K) && fn.all fun d => d.ok K, fn.map fun d => fnAt K (d.at_ K), ts.map fun t => He.dicW K (t.1 K))
def valY (fn : List FnA) (ts : List He.Tab) (w : World) : AlY := (true, fn.map FnA.val, ts.map fun t => some (He.keysIn w.params t.2))
def obsYG (n : Nat) (fb : List (PySem.W.Frag → Bool)) (fn : List FnA) (ts : List He.Tab) (g : Addr → Option Obj) : AlY := obsY fb fn ts (He.frG g (He.asD g n))
def SaysY (fb : List (PySem.W.Frag → Bool)) (fn : List FnA) (ts : List He.Tab) (w : World) (K : PySem.W.Frag) : Prop := obsY fb fn ts K = valY fn ts w
def hookY (n : Nat) (fb : List (PySem.W.Frag → Bool)) (fn : List FnA) (ts : List He.Tab) : PySem.W.Hook where
  α := AlY
  obs := fun s => obsYG n fb fn ts s.heap.get?
  val := fun w => valY fn ts w
  says := fun w h => ∃ K : PySem.W.Frag, K.In h ∧ SaysY fb fn ts w K
  of := fun _ _ e => ⟨_, He.frG_in, e⟩
  keeps := fun _ _ _ ⟨K, hK, c⟩ k => ⟨K, PySem.W.Frag.In.keeps hK k, c⟩
theorem obsYG_eq {n : Nat} {fb : List (PySem.W.Frag → Bool)} {fn : List FnA} {ts : List He.Tab} {g : Addr → Option Obj} {s : Shared} (h : ∀ a, g a = s.heap.get? a) : obsYG n fb fn ts g = (hookY n fb fn ts).obs s := by
  have e : g = s.heap.get? := funext h
  rw [e] <;> rfl
section
variable {fb : List (PySem.W.Frag → Bool)} {fn : List FnA} {ts : List He.Tab} {w : World} {K : PySem.W.Frag}
theorem SaysY.fact (c : SaysY fb fn ts w K) (i : Nat) {f : PySem.W.Frag → Bool} (h : fb[i]? = some f := by rfl) : f K = true := by
  have c1 := (He.ba (show ((fb.all fun f => f K) && fn.all fun d => d.ok K) = true from congrArg (fun z : AlY => z.1) c)).1
  exact List.all_eq_true.mp c1 f (List.mem_of_getElem? h)
theorem SaysY.fn_ (c : SaysY fb fn ts w K) (i : Nat) {d : FnA} (h : fn[i]? = some d := by rfl) : ∃ fd, Fun K d.name d.qual d.st (d.at_ K) fd := by
  have c2 := (He.ba (show ((fb.all fun f => f K) && fn.all fun d => d.ok K) = true from congrArg (fun z : AlY => z.1) c)).2
  have e : fn.map (fun d => fnAt K (d.at_ K)) = fn.map FnA.val := congrArg (fun z : AlY => z.2.1) c
  have e2 : (fn.map fun d => fnAt K (d.at_ K))[i]? = (fn.map FnA.val)[i]? := by rw [e]
  rw [List.getElem?_map, List.getElem?_map, h] at e2
  exact FnA.fun_ (Option.some.inj e2) (List.all_eq_true.mp c2 d (List.mem_of_getElem? h))
theorem SaysY.tab (c : SaysY fb fn ts w K) (i : Nat) {t : He.Tab} (h : ts[i]? = some t := by rfl) : He.dicW K (t.1 K) = some (He.keysIn w.params t.2) := by
  have e : ts.map (fun t => He.dicW K (t.1 K)) = ts.map fun t => some (He.keysIn w.params t.2) := congrArg (fun z : AlY => z.2.2) c
  have e2 : (ts.map fun t => He.dicW K (t.1 K))[i]? = (ts.map fun t => some (He.keysIn w.params t.2))[i]? := by rw [e]
  rw [List.getElem?_map, List.getElem?_map, h] at e2
  exact Option.some.inj e2
end
/-! ### constants -/
mutual
/-- a constant of the text, as it stands -/
def repB (K : PySem.W.Frag) : P → Value → Bool
  | .non, .none => true
  | .bl b, .bool c => b == c
  | .int i, .int j _ => decide (i = j)
  | .str x, .str y _ => decide (x = y)
  | .ktup ps, .ref a => match K.lookup a with
    | some ⟨.type c, _, .seq its _, _⟩ => decide (c = "tuple") && (decide (its.size ≤ sizeLine) && repsB K ps its.toList)
    | _ => false
  | _, _ => false
def repsB (K : PySem.W.Frag) : List P → List Value → Bool
  | [], [] => true
  | p :: ps, u :: us => repB K p u && repsB K ps us
  | _, _ => false
end
mutual
theorem repB_ok {C : QC} : ∀ {p : P} {u : Value}, repB C.K p u = true → ∃ v, RelV v u ∧ ∀ F, Rep C F p v
  | .non, u, h => by cases u <;> simp [repB] at h; exact ⟨.non, rfl, fun _ => .non⟩
  | .bl b, u, h => by cases u <;> simp [repB] at h; subst h; exact ⟨.bl b, rfl, fun _ => .bl b⟩
  | .int i, u, h => by cases u <;> simp [repB] at h; subst h; exact ⟨.int i, ⟨_, rfl⟩, fun _ => .int i⟩
  | .str x, u, h => by cases u <;> simp [repB] at h; subst h; exact ⟨.str x, ⟨_, rfl⟩, fun _ => .str x⟩
  | .ktup ps, u, h => by
    cases u with
    | ref a =>
      unfold repB at h
      cases q : C.K.lookup a with
      | none => rw [q] at h; cases h
      | some o =>
        obtain ⟨oc, od, dt, osl⟩ := o
        rw [q] at h
        cases oc with
        | type c =>
          cases dt with
          | seq its n =>
            obtain ⟨h1, h2⟩ := He.ba (show (decide (c = "tuple") && (decide (its.size ≤ sizeLine) && repsB C.K ps its.toList)) = true from h)
            obtain ⟨h3, h4⟩ := He.ba h2
            obtain ⟨vs, rv, rr⟩ := repsB_ok h4
            exact ⟨.ref a, rfl, fun F => .ktup (.inr ⟨_, its, n, q, congrArg Value.type (of_decide_eq_true h1), rfl, of_decide_eq_true h3, rv⟩) (rr F)⟩
          | _ => cases h
        | _ => cases dt <;> cases h
    | _ => simp [repB] at h
  | .tup _, u, h => by cases u <;> simp [repB] at h
  | .lst _, u, h => by cases u <;> simp [repB] at h
  | .dk _, u, h => by cases u <;> simp [repB] at h
  | .dt _, u, h => by cases u <;> simp [repB] at h
  | .kdk _, u, h => by cases u <;> simp [repB] at h
  | .obj _ _, u, h => by cases u <;> simp [repB] at h
  | .xob _ _, u, h => by cases u <;> simp [repB] at h
  | .sob _ _, u, h => by cases u <;> simp [repB] at h
  | .fn _, u, h => by cases u <;> simp [repB] at h
  | .scr _, u, h => by cases u <;> simp [repB] at h
theorem repsB_ok {C : QC} : ∀ {ps : List P} {us : List Value}, repsB C.K ps us = true → ∃ vs, Vals vs us ∧ ∀ F, Reps C F ps vs
  | [], us, h => by cases us <;> simp [repsB] at h; exact ⟨[], .nil, fun _ => .nil⟩
  | p :: ps, us, h => by
    cases us with
    | nil => simp [repsB] at h
    | cons u us =>
      unfold repsB at h
      obtain ⟨h1, h2⟩ := He.ba h
      obtain ⟨v, rv, rr⟩ := repB_ok h1
      obtain ⟨vs, rvs, rrs⟩ := repsB_ok h2
      exact ⟨v :: vs, .cons rv rvs, fun F => .cons (rr F) (rrs F)⟩
end
/-- the module's name x holds the constant p -/
def conB (x : Str) (p : P) (K : PySem.W.Frag) : Bool := match PySem.W.nsIn K mainGlobals x with
  | some (some u) => repB K p u
  | _ => false
theorem conB_ok {C : QC} {mg : Str → Option Value} {h : Heap} (X : C.K.In h) (G : h.Ns mainGlobals mg) {x : Str} {p : P} (c : conB x p C.K = true) : GlP C.K mg C x p := by
  unfold conB at c
  cases e : PySem.W.nsIn C.K mainGlobals x with
  | none => rw [e] at c; cases c
  | some o =>
    rw [e] at c
    cases o with
    | none => cases c
    | some u =>
      obtain ⟨v, rv, rr⟩ := repB_ok c
      exact ⟨u, v, PySem.W.mg_of X G e, rv, rr⟩
/-- the module's dict x with text keys -/
def eqGl (o : Option (Option Value)) (a : Addr) : Bool := decide (o = some (some (.ref a)))
def nodupK : List Key → Bool
  | [] => true
  | k :: r => !memK r k && nodupK r
theorem nodupK_ok : ∀ {ks : List Key}, nodupK ks = true → ks.Nodup
  | [], _ => List.Pairwise.nil
  | k :: r, h => by
    obtain ⟨h1, h2⟩ := He.ba (show (!memK r k && nodupK r) = true from h)
    refine List.nodup_cons.mpr ⟨fun z => ?_, nodupK_ok h2⟩
    rw [memK_iff.mpr z] at h1
    cases h1
def entB (K : PySem.W.Frag) : List (Key × P) → List DictEntry → Bool
  | [], [] => true
  | (.inr k, p) :: r, e :: es => (match e.key with
    | .str y _ => decide (y = k)
    | _ => false) && (repB K p e.val && entB K r es)
  | _, _ => false
def kdB (x : Str) (kvs : List (Key × P)) (K : PySem.W.Frag) : Bool := eqGl (PySem.W.nsIn K mainGlobals x) (He.ga K x) && (decide (kvs.length ≤ 1000) && (nodupK (kvs.map (·.1)) && (match K.lookup (He.ga K x) with
  | some ⟨.type c, none, .dict es _, sl⟩ => decide (c = "dict") && (sl.isEmpty && (!(He.ga K x == sysModules) && entB K kvs es.toList))
  | _ => false)))

theorem entB_ok {C : QC} {Pg : Program} {w : World} : ∀ {kvs : List (Key × P)} {es : List DictEntry}, entB C.K kvs es = true → ∃ (vs : List (Key × Value)) (us : List V), Pairs (mixKind Pg w) es vs ∧ KV (zipV kvs us) vs ∧ (∀ F, Reps C F (kvs.map (·.2)) us) ∧ vs.map (·.1) = kvs.map (·.1)
  | [], es, h => by cases es <;> simp [entB] at h; exact ⟨[], [], .nil, .nil, fun _ => .nil, rfl⟩
  | (.inl i, p) :: r, es, h => by cases es <;> simp [entB] at h
  | (.inr k, p) :: r, es, h => by
    cases es with
    | nil => simp [entB] at h
    | cons e es =>
      unfold entB at h
      obtain ⟨h1, h2⟩ := He.ba h
      obtain ⟨h3, h4⟩ := He.ba h2
      obtain ⟨v, rv, rr⟩ := repB_ok h3
      obtain ⟨vs, us, p1, p2, p3, p4⟩ := entB_ok (Pg := Pg) (w := w) h4
      refine ⟨(.inr k, e.val) :: vs, v :: us, .cons ?_ rfl p1, .cons ⟨rfl, rv⟩ p2, fun F => .cons (rr F) (p3 F), by simp [p4]⟩
      show keyIs (.inr k) e.key = true
      cases ek : e.key with
      | str y t =>
        rw [ek] at h1
        have : y = k := of_decide_eq_true h1
        rw [this]
        exact keyIs_str k t
      | _ => rw [ek] at h1; cases h1
theorem keysOf_of {Pg : Program} {w : World} : ∀ {es : List DictEntry} {ks : List Str}, es.map He.keyOf = He.keysIn w.params ks → ∀ e ∈ es, ∃ k : Key, (mixKind Pg w).is k e.key = true ∧ e.hash = (mixKind Pg w).hash k
  | [], _, _, e, he => by simp at he
  | x :: r, [], h, e, he => by cases h
  | x :: r, k :: ks, h, e, he => by
    have h1 : He.keyOf x :: r.map He.keyOf = some (k, PyData.keyHash w.params k) :: He.keysIn w.params ks := h
    injection h1 with h2 h3
    rcases List.mem_cons.mp he with q | q
    · subst q
      unfold He.keyOf at h2
      split at h2
      · rename_i x t q
        have h4 := Option.some.inj h2
        obtain ⟨h5, h6⟩ := Prod.mk.inj h4
        refine ⟨.inr k, ?_, ?_⟩
        · show keyIs (.inr k) e.key = true
          rw [q, h5]
          exact keyIs_str k t
        · show e.hash = hashStr w k
          rw [h6]; rfl
      · cases h2
    · exact keysOf_of h3 e q
theorem kdB_ok {C : QC} {mg : Str → Option Value} {h : Heap} (X : C.K.In h) (G : h.Ns mainGlobals mg) {x : Str} {kvs : List (Key × P)} (c : kdB x kvs C.K = true) {ks : List Str} (ct : He.dicW C.K (He.ga C.K x) = some (He.keysIn C.w.params ks)) : GlP C.K mg C x (.kdk kvs) := by
  unfold kdB at c
  obtain ⟨c1, c⟩ := He.ba c
  obtain ⟨c2, c⟩ := He.ba c
  obtain ⟨c3, c⟩ := He.ba c
  unfold He.dicW at ct
  cases q : C.K.lookup (He.ga C.K x) with
  | none => rw [q] at c; cases c
  | some o =>
    obtain ⟨oc, od, dt, osl⟩ := o
    rw [q] at c ct
    cases oc with
    | type cn =>
      cases od with
      | none =>
        cases dt with
        | dict es n =>
          obtain ⟨d1, d⟩ := He.ba (show (decide (cn = "dict") && (osl.isEmpty && (!(He.ga C.K x == sysModules) && entB C.K kvs es.toList))) = true from c)
          obtain ⟨d2, d⟩ := He.ba d
          obtain ⟨d3, d4⟩ := He.ba d
          have e1 : cn = "dict" := of_decide_eq_true d1
          have e2 : osl = #[] := Array.isEmpty_iff.mp d2
          subst e1 e2
          have e3 : (He.ga C.K x == sysModules) = false := by simpa using d3
          obtain ⟨vs, us, p1, p2, p3, p4⟩ := entB_ok (Pg := C.prog) (w := C.w) d4
          have ct2 : (match decide ("dict" = "dict") && ((#[] : Array (Option Value)).isEmpty && !(He.ga C.K x == sysModules)) with
            | true => some (es.toList.map He.keyOf)
            | false => none) = some (He.keysIn C.w.params ks) := ct
          rw [e3] at ct2
          have ct3 : es.toList.map He.keyOf = He.keysIn C.w.params ks := Option.some.inj ct2
          have ko := keysOf_of (Pg := C.prog) (w := C.w) ct3
          refine ⟨.ref (He.ga C.K x), .ref (He.ga C.K x), PySem.W.mg_of X G (of_decide_eq_true c1), rfl, fun F => .kdk (vs := us) ⟨e3, ?_, vs, _, p2, q, rfl, fun h hin => ?_⟩ (p3 F)⟩
          · have := zipV_len (kvs := kvs) (vs := us)
            have := of_decide_eq_true c2
            rw [sizeLine_eq]; omega
          · refine ⟨_, es, n, hin _ _ q, ⟨rfl, rfl, rfl⟩, rfl, fun e he => ko e (by simpa using he), p1, ?_⟩
            rw [p4]
            exact nodupK_ok c3
        | _ => cases c
      | some b => cases dt <;> cases c
    | _ => cases od <;> cases dt <;> cases c
end Q

set_option Elab.async false
set_option linter.all false
set_option maxRecDepth 100000
set_option maxHeartbeats 2000000
/-! Q25: facts of the top, the law's end -/
namespace Q
open PySem PySem.Spec PyProof.Rows L2
section
variable {K : PySem.W.Frag}
def fScls (c : Str) (K : PySem.W.Frag) : Bool := PySem.W.plainGet K (He.ga K c) Str.empty && (PySem.W.isClsIn K (He.ga K c) && (PySem.W.plainOver K (He.ga K c) && He.eqO (PySem.W.findIn K (.ref (He.ga K c)) "__setattr__") (some (some (.builtin "object.__setattr__")))))
theorem scls_ok {c : Str} (h : fScls c K = true) : SlX.SCls K (He.ga K c) := by
  obtain ⟨c1, h⟩ := He.ba h
  obtain ⟨c2, h⟩ := He.ba h
  obtain ⟨c3, c4⟩ := He.ba h
  exact ⟨c1, c2, c3, He.eqO_ok c4⟩
def fSlot (c f : Str) (i : Nat) (K : PySem.W.Frag) : Bool := He.eqO (PySem.W.findIn K (.ref (He.ga K c)) f) (some (some (.ref (metA c f K)))) && (He.eqO (PySem.W.specialIn K (.ref (metA c f K)) "__get__") (some (some (.builtin "member_descriptor.__get__"))) && (decide (PySem.W.takesIn K (.ref (metA c f K)) = some true) &&
  (decide (PySem.W.typeIn K (.ref (metA c f K)) = some (.type "member_descriptor")) && (decide (PySem.W.slotIn K (metA c f K) (He.ga K c) = some i) && decide (i < 1000)))))
theorem slot_ok {c f : Str} {i : Nat} (h : fSlot c f i K = true) : SlX.Slot1 K (He.ga K c) f (metA c f K) i := by
  obtain ⟨c1, h⟩ := He.ba h
  obtain ⟨c2, h⟩ := He.ba h
  obtain ⟨c3, h⟩ := He.ba h
  obtain ⟨c4, h⟩ := He.ba h
  obtain ⟨c5, c6⟩ := He.ba h
  exact ⟨He.eqO_ok c1, He.eqO_ok c2, of_decide_eq_true c3, of_decide_eq_true c4, of_decide_eq_true c5, of_decide_eq_true c6⟩
def fProp (c f : Str) (K : PySem.W.Frag) : Bool := He.eqO (PySem.W.findIn K (.ref (He.ga K c)) f) (some (some (.ref (metA c f K)))) && (He.eqO (PySem.W.specialIn K (.ref (metA c f K)) "__get__") (some (some (.builtin "property.__get__"))) && (decide (PySem.W.takesIn K (.ref (metA c f K)) = some true) &&
  (match PySem.W.recIn K (metA c f K) "property" with
    | some (.ref g :: _) => true
    | _ => false)))
theorem prop_ok {c f : Str} (h : fProp c f K = true) : PropAt K (He.ga K c) f (getA c f K) := by
  obtain ⟨c1, h⟩ := He.ba h
  obtain ⟨c2, h⟩ := He.ba h
  obtain ⟨c3, c4⟩ := He.ba h
  refine ⟨metA c f K, He.eqO_ok c1, He.eqO_ok c2, of_decide_eq_true c3, ?_⟩
  show ∃ rest, PySem.W.recIn K (He.ma K (He.ga K c) f) "property" = some (.ref (getA c f K) :: rest)
  have c4' : (match PySem.W.recIn K (He.ma K (He.ga K c) f) "property" with
    | some (.ref g :: _) => true
    | _ => false) = true := c4
  unfold getA
  split at c4'
  · rename_i g rest e
    rw [e]
    exact ⟨rest, rfl⟩
  · cases c4'
def fLen (c : Str) (K : PySem.W.Frag) : Bool := He.eqO (PySem.W.findIn K (.ref (He.ga K c)) "__len__") (some (some (.ref (metA c "__len__" K)))) && PySem.W.isFn K (.ref (metA c "__len__" K))
theorem len_ok {c : Str} (h : fLen c K = true) : LenAt K (He.ga K c) (metA c "__len__" K) := by
  obtain ⟨c1, c2⟩ := He.ba h
  exact ⟨He.eqO_ok c1, c2⟩
theorem FldOk.nil {C : QC} {f : Str} : FldOk K C [] f := fun _ h => absurd h (by simp)
theorem FldOk.cons {C : QC} {f : Str} {c : Nat} {cs : List Nat} (h1 : Cls K (C.ca c)) (h2 : NoAttr K (C.ca c) f) (r : FldOk K C cs f) : FldOk K C (c :: cs) f := fun d hd => by
  rcases List.mem_cons.mp hd with e | e
  · rw [e]; exact ⟨h1, h2⟩
  · exact r d e
/-- what stands fast, the classes by their names -/
def cOf (P : Program) (w : World) (K : PySem.W.Frag) (cs : List Str) : QC := ⟨P, w, K, fun i => He.ga K (cs.getD i ""), fun _ => 0⟩
end
section
variable {P : Program} {w : World} {K : PySem.W.Frag} {mg : Str → Option Value} {base : Heap} {C : QC}
/-- a def's promise, its function object in sight -/
theorem fnD {x : Str} {s : Stmt} {f : Addr} {fd : FuncData} {N ps : List Str} {k : Nat} {fb : XS} (hC : C.K = K) (hP : C.prog = P) (hw : C.w = w) (F : Fun K x x s f fd) (S : FnScope N ps (defScope s))
    (body : ∀ (f0 : Addr) (cdv : Value) (A : Around) (outer : List PySem.Env) (sh : Shared) (H : Hp) (E : XK), Ok (cxOf CX0 P w K mg base N x (defScope s) f0 cdv A outer sh H E).nox C → Room k (A.deeper (envOfC x (defScope s) sh.heap.objs.size f0 cdv)) → QSs (cxOf CX0 P w K mg base N x (defScope s) f0 cdv A outer sh H E).nox C E0 (defBody s) fb) :
    FnOk P w K mg base CX0 (k + 1) f fd ps (sp0 ps.length C (gDef N.length fb)) := by
  refine F.ok S (fun vs H Q E h => ?_) (fun cdv A outer s H vs Q E hr h => ?_)
  · obtain ⟨W, st, us, r, rx, hl, _⟩ := h
    rw [← rx.length, hl]
  · obtain ⟨W, st, us, r, rx, hl, h⟩ := h
    exact ⟨_, body f cdv A outer s H E (okOf hC hP hw hr) hr, body_reads (sim_def _ _ _) r rx hl h⟩
/-- the law's promise at the script -/
theorem sp_law {g : GCall} {H : Hp} {a : Addr} {ns : List Int} (hS : SqL C.K H a (ns.map V.int)) (hg : ∃ st, g [.p (.scr ns)] [] = .ok (.p (.bl true)) st) : sp0 1 C g [.ref a] H (fun v _ => v = .bl true) fun _ _ _ => False := by
  obtain ⟨st, hg⟩ := hg
  refine ⟨⟨H, [], fun _ => none⟩, [], [.p (.scr ns)], ⟨fun _ _ e => e, (fun _ _ e => by cases e), (fun n a e => by simp at e), rfl, (fun n c a e => by simp at e), (fun m n a e => by simp at e)⟩, .cons (.scr hS) .nil, rfl, ?_⟩
  rw [hg]
  intro W' H' le r x hx
  cases hx
  rfl
end
end Q

set_option Elab.async false
set_option linter.all false
set_option maxRecDepth 100000
/-! Q26: a list repeated, as a cell. -/
namespace Q
open PySem L2
section
variable {X : Cx} {C : QC} {E : XK} {W : Wd} {st : Store} {H : Hp}
def gMulC : GOp := fun u v st => match u, v with
  | .p (.lst xs), .p (.int k) => if decide (0 ≤ k ∧ k < 1000 ∧ xs.length ≤ 1000) = true then .ok (.c st.length) (st ++ [.lst ((List.replicate k.toNat xs).flatten.map S.p)]) else .stuck
  | _, _ => .stuck
theorem rq_mulC : RqOp C E (fun x y H Q => rI CMul (fun i j => .int (i * j)) x y H Q ∨ rRep x y H Q) gMulC := by
  intro W st H u v x y Q r ru rv h
  unfold gMulC at h
  split at h
  · rename_i xs k
    cases ru with
    | lst q1 r1 => cases rv with
      | int _ =>
        rename_i a vs
        split at h
        · rename_i hk
          obtain ⟨h1, h2, h3⟩ := of_decide_eq_true hk
          refine .inr ⟨a, k, vs, rfl, rfl, r.sub _ _ q1, by omega, by omega, ?_, fun p hp => ?_⟩
          · rw [sizeLine_is, ← r1.length]
            have : k.toNat ≤ 1000 := by omega
            calc xs.length * k.toNat ≤ 1000 * 1000 := Nat.mul_le_mul h3 this
              _ ≤ 16777216 := by decide
          · obtain ⟨le, r2, hx⟩ := r.newL hp (RepSs.of (Reps.replicate r1 k.toNat))
            exact h _ _ le r2 _ ⟨p, hx, rfl⟩
        · exact h.elim
  · exact h.elim
end
end Q

set_option Elab.async false
set_option linter.all false
set_option maxRecDepth 100000
set_option maxHeartbeats 2000000
/-! Q27: the run's equation, part by part -/
namespace Q
open PySem PySem.Spec PyProof.Rows L2

theorem obsY_app {fb1 fb2 : List (PySem.W.Frag → Bool)} {fn1 fn2 : List FnA} {ts1 ts2 : List He.Tab} {K : PySem.W.Frag} {w : World} (h1 : obsY fb1 fn1 ts1 K = valY fn1 ts1 w) (h2 : obsY fb2 fn2 ts2 K = valY fn2 ts2 w) :
    obsY (fb1 ++ fb2) (fn1 ++ fn2) (ts1 ++ ts2) K = valY (fn1 ++ fn2) (ts1 ++ ts2) w := by
  unfold obsY valY at *
  injection h1 with a1 b1
  injection h2 with a2 b2
  injection b1 with b1 c1
  injection b2 with b2 c2
  simp only [Bool.and_eq_true] at a1 a2
  rw [List.all_append, List.all_append, List.map_append, List.map_append, List.map_append, List.map_append, b1, b2, c1, c2, a1.1, a1.2, a2.1, a2.2]
  rfl
/-- the Hook with the addresses written down -/
def obsYA (as : List Addr) (fb : List (PySem.W.Frag → Bool)) (fn : List FnA) (ts : List He.Tab) (g : Addr → Option Obj) : AlY := obsY fb fn ts (He.frG g as)
def hookA (as : List Addr) (fb : List (PySem.W.Frag → Bool)) (fn : List FnA) (ts : List He.Tab) : PySem.W.Hook where
  α := AlY
  obs := fun s => obsYA as fb fn ts s.heap.get?
  val := fun w => valY fn ts w
  says := fun w h => ∃ K : PySem.W.Frag, K.In h ∧ SaysY fb fn ts w K
  of := fun _ _ e => ⟨_, He.frG_in, e⟩
  keeps := fun _ _ _ ⟨K, hK, c⟩ k => ⟨K, PySem.W.Frag.In.keeps hK k, c⟩
theorem obsYA_eq {as : List Addr} {fb : List (PySem.W.Frag → Bool)} {fn : List FnA} {ts : List He.Tab} {g : Addr → Option Obj} {s : Shared} (h : ∀ a, g a = s.heap.get? a) : obsYA as fb fn ts g = (hookA as fb fn ts).obs s := by
  have e : g = s.heap.get? := funext h
  rw [e] <;> rfl
theorem run_join {T α β γ : Type} {o : Option T} {f : T → α} {g : T → β} {h : T → γ} {a : α} {b : β} {c : γ} (h1 : o.map (fun s => (f s, g s)) = some (a, b)) (h2 : o.map h = some c) : o.map (fun s => (f s, g s, h s)) = some (a, b, c) := by
  cases o with
  | none => cases h1
  | some s =>
    have e1 := Option.some.inj h1
    have e2 := Option.some.inj h2
    injection e1 with x y
    exact congrArg some (show (f s, g s, h s) = (a, b, c) by rw [show h s = c from e2, show f s = a from x, show g s = b from y])
end Q

set_option Elab.async false
set_option linter.all false
set_option maxRecDepth 100000
set_option maxHeartbeats 4000000
namespace QS
open PySem L2 Q PySem.Spec PyProof.Rows
def c_ASK : P := (.str "ask")
def c_CANCEL : P := (.str "cancel")
def c_FIRM : P := (.str "firm")
def c_HOLD : P := (.str "hold")
def c_LAPSE : P := (.str "lapse")
def c_LONGER : P := (.str "longer")
def c_MOST_DAYS : P := (.int 3)
def c_MOST_PARTS : P := (.int 4)
def c_MOVE : P := (.str "move")
def c_POINTS : P := (.kdk [(.inr "checking", (.ktup [(.str "cells"), (.str "walls")])), (.inr "giving", (.ktup [(.str "first"), (.str "last"), (.str "tight")])), (.inr "holding", (.ktup [(.str "blocks"), (.str "last"), (.str "yields")])), (.inr "places", (.ktup [(.str "any"), (.str "steps")]))])
def c_SIZES : P := (.kdk [(.inr "ask", (.int 4)), (.inr "hold", (.int 4)), (.inr "cancel", (.int 3)), (.inr "firm", (.int 3)), (.inr "lapse", (.int 1)), (.inr "longer", (.int 3)), (.inr "move", (.int 4))])
def c_WORDS : P := (.ktup [(.str "cancel"), (.str "firm"), (.str "hold"), (.str "lapse"), (.str "longer"), (.str "move")])
def f_is_integer : XS := (sRet (eAnd (eIsT "int" (eVar 0)) (eNot (eIsT "bool" (eVar 0)))))
def g_is_integer : GCall := gDef 1 f_is_integer
def f_is_between : XS := (sRet (eAnd (eCall 1 g_is_integer (aCons (eVar 0) aNil)) (eChain gLe gLe (eVar 1) (eVar 0) (eVar 2))))
def g_is_between : GCall := gDef 3 f_is_between
def f_are_widths : XS := (sSeq (sIf (eOr (eNot (eIsT "tuple" (eVar 0))) (eNot (eCallB (gBools fun bs => bs.all id) (aCons (eComp fzL (iSeq (eVar 0)) (.one 2) (([("width", 2)] : List (PySem.Str × Nat)).map (·.2)) tYesQ (nEmit (eCall 3 g_is_between (aCons (eVar 2) (aCons (eC (.int 1)) (aCons (eVar 1) aNil)))))) aNil)))) (sRet (eC (.bl false))) sNext) (sRet (eAnd (eBin gGt (eCallB gLen (aCons (eVar 0) aNil)) (eC (.int 0))) (eBin (gEqD false) (eCallB gList (aCons (eVar 0) aNil)) (eSortSet (eVar 0))))))
def g_are_widths : GCall := gDef 3 f_are_widths
def f_are_words : XS := (sSeq (sIf (eOr (eNot (eIsT "tuple" (eVar 0))) (eNot (eCallB (gBools fun bs => bs.all id) (aCons (eComp fzL (iSeq (eVar 0)) (.one 1) (([("word", 1)] : List (PySem.Str × Nat)).map (·.2)) tYesQ (nEmit (eAnd (eIsT "str" (eVar 1)) (eBin (gIn false) (eVar 1) (eC c_WORDS))))) aNil)))) (sRet (eC (.bl false))) sNext) (sRet (eBin (gEqD false) (eCallB gList (aCons (eVar 0) aNil)) (eSortSet (eVar 0)))))
def g_are_words : GCall := gDef 2 f_are_words
def f_is_word_of : XS := (sRet (eAnd (eIsT "str" (eVar 1)) (eBin (gIn false) (eVar 1) (eBin gIx (eC c_POINTS) (eVar 0)))))
def g_is_word_of : GCall := gDef 2 f_is_word_of
def f_look_at_rule : XS := (sSeq (sIf (eOr (eNot (eIsT "dict" (eVar 0))) (eOr (eBin (gEqD true) (eCallB gLen (aCons (eVar 0) aNil)) (eCallB gLen (aCons (eC c_POINTS) aNil))) (eNot (eCallB (gBools fun bs => bs.all id) (aCons (eComp fzL (iDict (eC c_POINTS)) (.one 1) (([("point", 1)] : List (PySem.Str × Nat)).map (·.2)) tYesQ (nEmit (eBin (gIn false) (eVar 1) (eVar 0)))) aNil))))) sStuck sNext) (sFor (iDict (eC c_POINTS)) (.one 1) (sIf (eNot (eCall 2 g_is_word_of (aCons (eVar 1) (aCons (eBin gIx (eVar 0) (eVar 1)) aNil)))) sStuck sNext)))
def g_look_at_rule : GCall := gDef 2 f_look_at_rule
def f_is_asked : XS := (sSeq (sTg (.many [2, 3, 4, 5]) (eVar 1)) (sSeq (sIf (eOr (eNot (eCall 3 g_is_between (aCons (eVar 3) (aCons (eC (.int 1)) (aCons (eSlt 12 0 (eVar 0)) aNil))))) (eBin (gIn true) (eVar 3) (eSlt 12 2 (eVar 0)))) (sRet (eC (.bl false))) sNext) (sRet (eAnd (eCall 3 g_is_between (aCons (eVar 5) (aCons (eC (.int 1)) (aCons (eSlt 12 3 (eVar 0)) aNil)))) (eCall 3 g_is_between (aCons (eVar 4) (aCons (eC (.int 0)) (aCons (eBin gSub (eSlt 12 1 (eVar 0)) (eVar 5)) aNil))))))))
def g_is_asked : GCall := gDef 6 f_is_asked
def f_is_deed : XS := (sSeq (sIf (eOr (eNot (eIsT "tuple" (eVar 1))) (eOr (eBin (gEqD false) (eCallB gLen (aCons (eVar 1) aNil)) (eC (.int 0))) (eNot (eIsT "str" (eBin gIx (eVar 1) (eC (.int 0))))))) (sRet (eC (.bl false))) sNext) (sSeq (sSet 2 (eBin gIx (eVar 1) (eC (.int 0)))) (sSeq (sIf (eOr (eBin (gEqD true) (eMt isDct gGet (eC c_SIZES) (aCons (eVar 2) (aCons (eC (.int 0)) aNil))) (eCallB gLen (aCons (eVar 1) aNil))) (eAnd (eBin (gEqD true) (eVar 2) (eC c_ASK)) (eBin (gIn true) (eVar 2) (eSlt 12 5 (eVar 0))))) (sRet (eC (.bl false))) sNext) (sSeq (sIf (eBin (gIn false) (eVar 2) (eTup (aCons (eC c_ASK) (aCons (eC c_HOLD) aNil)))) (sRet (eCall 2 g_is_asked (aCons (eVar 0) (aCons (eVar 1) aNil)))) sNext) (sSeq (sIf (eBin (gEqD false) (eVar 2) (eC c_LAPSE)) (sRet (eC (.bl true))) sNext) (sSeq (sIf (eOr (eNot (eCall 3 g_is_between (aCons (eBin gIx (eVar 1) (eC (.int 1))) (aCons (eC (.int 0)) (aCons (eBin gSub (eSlt 12 1 (eVar 0)) (eC (.int 1))) aNil))))) (eNot (eCall 3 g_is_between (aCons (eBin gIx (eVar 1) (eC (.int 2))) (aCons (eC (.int 0)) (aCons (eBin gSub (eSlt 12 0 (eVar 0)) (eC (.int 1))) aNil)))))) (sRet (eC (.bl false))) sNext) (sRet (eOr (eBin (gEqD true) (eVar 2) (eC c_MOVE)) (eCall 3 g_is_between (aCons (eBin gIx (eVar 1) (eC (.int 3))) (aCons (eC (.int 0)) (aCons (eBin gSub (eSlt 12 0 (eVar 0)) (eC (.int 1))) aNil))))))))))))
def g_is_deed : GCall := gDef 3 f_is_deed
def f_cells_of : XS := (sSeq (sTg (.many [1, 2, 3, 4, 5]) (eVar 0)) (sRet (eComp fzL (iRange1 (eVar 3)) (.one 6) (([("more", 6), ("next_one", 7)] : List (PySem.Str × Nat)).map (·.2)) tYesQ (nCl (iRange1 (eVar 4)) (.one 7) ((.one 7) : Tg).ixs tYesQ (nEmit (eTup (aCons (eBin gAdd (eVar 1) (eVar 6)) (aCons (eBin gAdd (eVar 2) (eVar 7)) aNil))))))))
def g_cells_of : GCall := gDef 8 f_cells_of
def f_do_share : XS := (sRet (eAnd (eBin gLt (eVar 0) (eBin gAdd (eVar 1) (eVar 3))) (eBin gLt (eVar 1) (eBin gAdd (eVar 0) (eVar 2)))))
def g_do_share : GCall := gDef 4 f_do_share
def f_do_clash : XS := (sSeq (sSet 2 (eOr (eBin (gEqD false) (eBin gAdd (eBin gIx (eVar 0) (eC (.int 0))) (eBin gIx (eVar 0) (eC (.int 2)))) (eBin gIx (eVar 1) (eC (.int 0)))) (eBin (gEqD false) (eBin gAdd (eBin gIx (eVar 1) (eC (.int 0))) (eBin gIx (eVar 1) (eC (.int 2)))) (eBin gIx (eVar 0) (eC (.int 0)))))) (sSeq (sIf (eOr (eNot (eVar 2)) (eBin (gEqD false) (eTup (aCons (eBin gIx (eVar 0) (eC (.int 1))) (aCons (eBin gIx (eVar 0) (eC (.int 3))) aNil))) (eTup (aCons (eBin gIx (eVar 1) (eC (.int 1))) (aCons (eBin gIx (eVar 1) (eC (.int 3))) aNil))))) (sRet (eC (.bl false))) sNext) (sRet (eCall 4 g_do_share (aCons (eBin gIx (eVar 0) (eC (.int 1))) (aCons (eBin gIx (eVar 1) (eC (.int 1))) (aCons (eBin gIx (eVar 0) (eC (.int 3))) (aCons (eBin gIx (eVar 1) (eC (.int 3))) aNil))))))))
def g_do_clash : GCall := gDef 3 f_do_clash
def f_clashes : XS := (sRet (eCallB (gBools fun bs => bs.any id) (aCons (eComp fzL (iSeq (eVar 1)) (.one 2) (([("other", 2)] : List (PySem.Str × Nat)).map (·.2)) tYesQ (nEmit (eCall 2 g_do_clash (aCons (eVar 0) (aCons (eVar 2) aNil))))) aNil)))
def g_clashes : GCall := gDef 3 f_clashes
def f_is_free : XS := (sSeq (sSet 2 (eFrz (eComp clDT (iSeq (eVar 1)) (.one 3) (([("other", 3), ("cell", 4)] : List (PySem.Str × Nat)).map (·.2)) tYesQ (nCl (iSeq (eCall 1 g_cells_of (aCons (eVar 3) aNil))) (.one 4) ((.one 4) : Tg).ixs tYesQ (nEmitT (eVar 4) (eC (.bl true))))))) (sRet (eNot (eCallB (gBools fun bs => bs.any id) (aCons (eComp fzL (iSeq (eCall 1 g_cells_of (aCons (eVar 0) aNil))) (.one 4) (([("cell", 4)] : List (PySem.Str × Nat)).map (·.2)) tYesQ (nEmit (eBin (gIn false) (eVar 4) (eVar 2)))) aNil)))))
def g_is_free : GCall := gDef 5 f_is_free
def f_does_suit : XS := (sRet (eAnd (eCall 2 g_is_free (aCons (eVar 0) (aCons (eVar 1) aNil))) (eNot (eCall 2 g_clashes (aCons (eVar 0) (aCons (eVar 1) aNil))))))
def g_does_suit : GCall := gDef 2 f_does_suit
def f_asked_at : XS := (sSeq (sTg (.many [2, 3, 4, 5]) (eVar 0)) (sRet (eTup (aCons (eVar 4) (aCons (eVar 1) (aCons (eVar 5) (aCons (eVar 3) (aCons (eBin (gEqD false) (eVar 2) (eC c_HOLD)) aNil))))))))
def g_asked_at : GCall := gDef 6 f_asked_at
def f_starts_for : XS := (sRet (eLstRg1 (eBin gAdd (eBin gSub (eSlt 12 0 (eVar 0)) (eVar 1)) (eC (.int 1)))))
def g_starts_for : GCall := gDef 2 f_starts_for
def f_suiting : XS := (sRet (eComp fzL (iSeq (eCall 2 g_starts_for (aCons (eVar 0) (aCons (eBin gIx (eVar 1) (eC (.int 1))) aNil)))) (.one 3) (([("start", 3)] : List (PySem.Str × Nat)).map (·.2)) (tOf (eCall 2 g_does_suit (aCons (eCall 2 g_asked_at (aCons (eVar 1) (aCons (eVar 3) aNil))) (aCons (eVar 2) aNil)))) (nEmit (eVar 3))))
def g_suiting : GCall := gDef 4 f_suiting
def f_let_starts : XS := (sSeq (sSet 3 (eCall 2 g_starts_for (aCons (eVar 0) (aCons (eBin gIx (eVar 1) (eC (.int 1))) aNil)))) (sSeq (sIf (eBin (gEqD false) (eBin gIx (eSlt 12 4 (eVar 0)) (eC (.str "places"))) (eC (.str "steps"))) (sSet 3 (eComp fzL (iSeq (eVar 3)) (.one 4) (([("start", 4)] : List (PySem.Str × Nat)).map (·.2)) (tOf (eBin (gEqD false) (eBin gMod (eVar 4) (eBin gIx (eVar 1) (eC (.int 1)))) (eC (.int 0)))) (nEmit (eVar 4)))) sNext) (sSeq (sIf (eBin (gEqD false) (eBin gIx (eSlt 12 4 (eVar 0)) (eC (.str "checking"))) (eC (.str "walls"))) (sRet (eComp fzL (iSeq (eVar 3)) (.one 4) (([("start", 4)] : List (PySem.Str × Nat)).map (·.2)) (tOf (eCall 2 g_does_suit (aCons (eCall 2 g_asked_at (aCons (eVar 1) (aCons (eVar 4) aNil))) (aCons (eVar 2) aNil)))) (nEmit (eVar 4)))) sNext) (sRet (eComp fzL (iSeq (eVar 3)) (.one 4) (([("start", 4)] : List (PySem.Str × Nat)).map (·.2)) (tOf (eCall 2 g_is_free (aCons (eCall 2 g_asked_at (aCons (eVar 1) (aCons (eVar 4) aNil))) (aCons (eVar 2) aNil)))) (nEmit (eVar 4)))))))
def g_let_starts : GCall := gDef 5 f_let_starts
def f_gap_of : XS := (sSeq (sTg (.many [4, 5, 6, 7]) (eVar 1)) (sSeq (sPar 8 9 (eVar 2) (eBin gAdd (eVar 2) (eVar 5))) (sSeq (sWhile 100000 (eAnd (eBin gGt (eVar 8) (eC (.int 0))) (eCall 2 g_is_free (aCons (eTup (aCons (eVar 6) (aCons (eBin gSub (eVar 8) (eC (.int 1))) (aCons (eVar 7) (aCons (eC (.int 1)) (aCons (eC (.bl false)) aNil)))))) (aCons (eVar 3) aNil)))) (sAug 8 (gInt (fun i j => .int (i - j)) fun _ _ => true) (eC (.int 1)))) (sSeq (sWhile 100000 (eAnd (eBin gLt (eVar 9) (eSlt 12 0 (eVar 0))) (eCall 2 g_is_free (aCons (eTup (aCons (eVar 6) (aCons (eVar 9) (aCons (eVar 7) (aCons (eC (.int 1)) (aCons (eC (.bl false)) aNil)))))) (aCons (eVar 3) aNil)))) (sAug 9 (gInt (fun i j => .int (i + j)) fun _ _ => true) (eC (.int 1)))) (sRet (eBin gSub (eVar 9) (eVar 8)))))))
def g_gap_of : GCall := gDef 10 f_gap_of
def f_given_of : XS := (sSeq (sIf (eBin (gEqD false) (eBin gIx (eSlt 12 4 (eVar 0)) (eC (.str "giving"))) (eC (.str "first"))) (sRet (eCallB (gBest PySem.W.dataLt) (aCons (eVar 2) aNil))) sNext) (sSeq (sIf (eBin (gEqD false) (eBin gIx (eSlt 12 4 (eVar 0)) (eC (.str "giving"))) (eC (.str "last"))) (sRet (eCallB (gBest (fun x y => PySem.W.dataLt y x)) (aCons (eVar 2) aNil))) sNext) (sRet (eBin gIx (eCallB (gBest PySem.W.dataLt) (aCons (eComp fzL (iSeq (eVar 2)) (.one 4) (([("start", 4)] : List (PySem.Str × Nat)).map (·.2)) tYesQ (nEmit (eTup (aCons (eCall 4 g_gap_of (aCons (eVar 0) (aCons (eVar 1) (aCons (eVar 4) (aCons (eVar 3) aNil))))) (aCons (eVar 4) aNil))))) aNil)) (eC (.int 1))))))
def g_given_of : GCall := gDef 5 f_given_of
def f_counting : XS := (sSeq (sSet 3 (eCall 3 g_let_starts (aCons (eVar 0) (aCons (eVar 1) (aCons (eVar 2) aNil))))) (sSeq (sSet 4 (eBin gIx (eSlt 12 4 (eVar 0)) (eC (.str "holding")))) (sSeq (sIf (eOr (eBin (gEqD false) (eBin gIx (eVar 1) (eC (.int 0))) (eC c_HOLD)) (eOr (eBin (gEqD false) (eVar 4) (eC (.str "blocks"))) (eAnd (eBin (gEqD false) (eVar 4) (eC (.str "last"))) (eBin (gEqD true) (eVar 3) (eLst aNil))))) (sRet (eTup (aCons (eVar 3) (aCons (eVar 2) aNil)))) sNext) (sSeq (sSet 5 (eCallB gTuple (aCons (eComp fzL (iSeq (eVar 2)) (.one 6) (([("booking", 6)] : List (PySem.Str × Nat)).map (·.2)) (tOf (eNot (eBin gIx (eVar 6) (eC (.int 4))))) (nEmit (eVar 6))) aNil))) (sRet (eTup (aCons (eCall 3 g_let_starts (aCons (eVar 0) (aCons (eVar 1) (aCons (eVar 5) aNil)))) (aCons (eVar 5) aNil))))))))
def g_counting : GCall := gDef 7 f_counting
def f_start_given : XS := (sSeq (sTg (.many [3, 4]) (eCall 3 g_counting (aCons (eVar 0) (aCons (eVar 1) (aCons (eVar 2) aNil))))) (sRet (eIf (eBin (gEqD false) (eVar 3) (eLst aNil)) (eC .non) (eCall 4 g_given_of (aCons (eVar 0) (aCons (eVar 1) (aCons (eVar 3) (aCons (eVar 4) aNil))))))))
def g_start_given : GCall := gDef 5 f_start_given
def f_taker : XS := (sSeq (sFor (iSeq (eVar 0)) (.one 3) (sIf (eBin (gIn false) (eTup (aCons (eVar 1) (aCons (eVar 2) aNil))) (eCall 1 g_cells_of (aCons (eVar 3) aNil))) (sRet (eVar 3)) sNext)) (sRet (eC .non)))
def g_taker : GCall := gDef 4 f_taker
def f_can_be : XS := (sSeq (sSet 3 (eBin gIx (eVar 2) (eC (.int 0)))) (sSeq (sIf (eBin (gIn false) (eVar 3) (eTup (aCons (eC c_ASK) (aCons (eC c_HOLD) aNil)))) (sRet (eC (.bl true))) sNext) (sSeq (sIf (eBin (gEqD false) (eVar 3) (eC c_LAPSE)) (sRet (eCallB (gBools fun bs => bs.any id) (aCons (eComp fzL (iSeq (eVar 1)) (.one 5) (([("booking", 5)] : List (PySem.Str × Nat)).map (·.2)) tYesQ (nEmit (eBin gIx (eVar 5) (eC (.int 4))))) aNil))) sNext) (sSeq (sSet 4 (eCall 3 g_taker (aCons (eVar 1) (aCons (eBin gIx (eVar 2) (eC (.int 1))) (aCons (eBin gIx (eVar 2) (eC (.int 2))) aNil))))) (sSeq (sIf (eOr (eBin (gIsN false) (eVar 4) (eC .non)) (eBin (gEqD false) (eVar 3) (eC c_CANCEL))) (sRet (eBin (gIsN true) (eVar 4) (eC .non))) sNext) (sSeq (sIf (eBin (gEqD false) (eVar 3) (eC c_FIRM)) (sRet (eBin gIx (eVar 4) (eC (.int 4)))) sNext) (sSeq (sIf (eBin (gEqD false) (eVar 3) (eC c_LONGER)) (sRet (eBin gLt (eBin gAdd (eBin gIx (eVar 4) (eC (.int 0))) (eBin gIx (eVar 4) (eC (.int 2)))) (eSlt 12 1 (eVar 0)))) sNext) (sRet (eAnd (eBin (gEqD true) (eBin gIx (eVar 2) (eC (.int 3))) (eBin gIx (eVar 4) (eC (.int 1)))) (eBin gLe (eBin gAdd (eBin gIx (eVar 2) (eC (.int 3))) (eBin gIx (eVar 4) (eC (.int 3)))) (eSlt 12 0 (eVar 0))))))))))))
def g_can_be : GCall := gDef 6 f_can_be
def f_others_of : XS := (sRet (eCallB gTuple (aCons (eComp fzL (iSeq (eVar 0)) (.one 2) (([("booking", 2)] : List (PySem.Str × Nat)).map (·.2)) (tOf (eBin (gEqD true) (eVar 2) (eVar 1))) (nEmit (eVar 2))) aNil)))
def g_others_of : GCall := gDef 3 f_others_of
def f_is_let_there : XS := (sSeq (sIf (eNot (eCall 2 g_is_free (aCons (eVar 1) (aCons (eVar 2) aNil)))) (sRet (eC (.bl false))) sNext) (sRet (eOr (eBin (gEqD false) (eBin gIx (eSlt 12 4 (eVar 0)) (eC (.str "checking"))) (eC (.str "cells"))) (eNot (eCall 2 g_clashes (aCons (eVar 1) (aCons (eVar 2) aNil)))))))
def g_is_let_there : GCall := gDef 3 f_is_let_there
def f_with_booking : XS := (sSeq (sSet 2 (eCall 1 g_cells_of (aCons (eVar 1) aNil))) (sSeq (sSet 3 (eComp fzL (iSeq (eVar 0)) (.one 4) (([("booking", 4)] : List (PySem.Str × Nat)).map (·.2)) (tOf (eNot (eCallB (gBools fun bs => bs.any id) (aCons (eComp fzL (iSeq (eCall 1 g_cells_of (aCons (eVar 4) aNil))) (.one 5) (([("cell", 5)] : List (PySem.Str × Nat)).map (·.2)) tYesQ (nEmit (eBin (gIn false) (eVar 5) (eVar 2)))) aNil)))) (nEmit (eVar 4)))) (sRet (eCallB gTuple (aCons (eCallB gSorted (aCons (eLst (aStar (eVar 3) (aCons (eVar 1) aNil))) aNil)) aNil)))))
def g_with_booking : GCall := gDef 6 f_with_booking
def f_Done___init__ : XS := (sSeq (sFldSet [13] "answer" (eVar 0) (eVar 1)) (sSeq (sFldSet [13] "behind" (eVar 0) (eVar 2)) (sFldSet [13] "own" (eVar 0) (eVar 3))))
def g_Done___init__ : GCall := gDef 4 f_Done___init__
abbrev m_Done : GCall := gMkF (.obj 13 []) g_Done___init__
def f_done_with : XS := (sSeq (sSet 3 (eBin gIx (eVar 2) (eC (.int 0)))) (sSeq (sIf (eBin (gIn false) (eVar 3) (eTup (aCons (eC c_ASK) (aCons (eC c_HOLD) aNil)))) (sSeq (sSet 4 (eCall 3 g_start_given (aCons (eVar 0) (aCons (eVar 2) (aCons (eVar 1) aNil))))) (sSeq (sIf (eBin (gIsN false) (eVar 4) (eC .non)) (sRet (eCall 3 m_Done (aCons (eC .non) (aCons (eVar 1) (aCons (eC .non) aNil))))) sNext) (sSeq (sSet 5 (eCall 2 g_asked_at (aCons (eVar 2) (aCons (eVar 4) aNil)))) (sRet (eCall 3 m_Done (aCons (eVar 4) (aCons (eCall 2 g_with_booking (aCons (eVar 1) (aCons (eVar 5) aNil))) (aCons (eVar 5) aNil)))))))) sNext) (sSeq (sIf (eBin (gEqD false) (eVar 3) (eC c_LAPSE)) (sRet (eCall 3 m_Done (aCons (eC (.bl true)) (aCons (eCallB gTuple (aCons (eComp fzL (iSeq (eVar 1)) (.one 13) (([("booking", 13)] : List (PySem.Str × Nat)).map (·.2)) (tOf (eNot (eBin gIx (eVar 13) (eC (.int 4))))) (nEmit (eVar 13))) aNil)) (aCons (eC .non) aNil))))) sNext) (sSeq (sSet 5 (eCall 3 g_taker (aCons (eVar 1) (aCons (eBin gIx (eVar 2) (eC (.int 1))) (aCons (eBin gIx (eVar 2) (eC (.int 2))) aNil))))) (sSeq (sSet 6 (eCall 2 g_others_of (aCons (eVar 1) (aCons (eVar 5) aNil)))) (sSeq (sIf (eBin (gEqD false) (eVar 3) (eC c_CANCEL)) (sRet (eCall 3 m_Done (aCons (eC (.bl true)) (aCons (eVar 6) (aCons (eC .non) aNil))))) sNext) (sSeq (sTg (.many [7, 8, 9, 10, 11]) (eVar 5)) (sSeq (sIf (eBin (gEqD false) (eVar 3) (eC c_FIRM)) (sRet (eCall 3 m_Done (aCons (eC (.bl true)) (aCons (eCallB gTuple (aCons (eCallB gSorted (aCons (eLst (aStar (eVar 6) (aCons (eTup (aCons (eVar 7) (aCons (eVar 8) (aCons (eVar 9) (aCons (eVar 10) (aCons (eC (.bl false)) aNil)))))) aNil))) aNil)) aNil)) (aCons (eC .non) aNil))))) sNext) (sSeq (sSet 12 (eIf (eBin (gEqD false) (eVar 3) (eC c_LONGER)) (eTup (aCons (eVar 7) (aCons (eVar 8) (aCons (eBin gAdd (eVar 9) (eC (.int 1))) (aCons (eVar 10) (aCons (eVar 11) aNil)))))) (eTup (aCons (eVar 7) (aCons (eBin gIx (eVar 2) (eC (.int 3))) (aCons (eVar 9) (aCons (eVar 10) (aCons (eVar 11) aNil)))))))) (sSeq (sIf (eNot (eCall 3 g_is_let_there (aCons (eVar 0) (aCons (eVar 12) (aCons (eVar 6) aNil))))) (sRet (eCall 3 m_Done (aCons (eC (.bl false)) (aCons (eVar 1) (aCons (eC .non) aNil))))) sNext) (sRet (eCall 3 m_Done (aCons (eC (.bl true)) (aCons (eCallB gTuple (aCons (eCallB gSorted (aCons (eLst (aStar (eVar 6) (aCons (eVar 12) aNil))) aNil)) aNil)) (aCons (eVar 12) aNil)))))))))))))))
def g_done_with : GCall := gDef 14 f_done_with
def f_has_room (grec : GCall) : XS := (sSeq (sIf (eBin (gEqD false) (eVar 1) (eTup aNil)) (sRet (eC (.bl true))) sNext) (sSeq (sTg (.many [3, 4, 5, 6, 7]) (eBin gIx (eVar 1) (eC (.int 0)))) (sSeq (sFor (iSeq (eCall 2 g_starts_for (aCons (eVar 0) (aCons (eVar 6) aNil)))) (.one 8) (sSeq (sSet 9 (eTup (aCons (eVar 3) (aCons (eVar 8) (aCons (eVar 5) (aCons (eVar 6) (aCons (eVar 7) aNil))))))) (sIf (eAnd (eCall 2 g_does_suit (aCons (eVar 9) (aCons (eVar 2) aNil))) (eCall 3 grec (aCons (eVar 0) (aCons (eSl (eVar 1) (oSome (eC (.int 1))) oNone) (aCons (eTup (aStar (eVar 2) (aCons (eVar 9) aNil))) aNil))))) (sRet (eC (.bl true))) sNext))) (sRet (eC (.bl false))))))
def g_has_room : GCall := gRec 10 f_has_room 50
def f_refusal_findings : XS := (sSeq (sIf (eBin (gEqD true) (eCall 3 g_suiting (aCons (eVar 0) (aCons (eVar 1) (aCons (eVar 2) aNil)))) (eLst aNil)) (sRet (eLst (aCons (eTup (aCons (eC (.str "refused")) (aCons (eBin gIx (eVar 1) (eC (.int 1))) aNil))) aNil))) sNext) (sSeq (sSet 3 (eCall 2 g_asked_at (aCons (eVar 1) (aCons (eC (.int 0)) aNil)))) (sSeq (sSet 4 (eCallB gTuple (aCons (eComp fzL (iSeq (eVar 2)) (.one 6) (([("booking", 6)] : List (PySem.Str × Nat)).map (·.2)) (tOf (eCall 4 g_do_share (aCons (eBin gIx (eVar 3) (eC (.int 0))) (aCons (eBin gIx (eVar 6) (eC (.int 0))) (aCons (eBin gIx (eVar 3) (eC (.int 2))) (aCons (eBin gIx (eVar 6) (eC (.int 2))) aNil)))))) (nEmit (eVar 6))) aNil))) (sSeq (sSet 5 (eCallB gTuple (aCons (eComp fzL (iSeq (eVar 2)) (.one 6) (([("booking", 6)] : List (PySem.Str × Nat)).map (·.2)) (tOf (eBin (gIn true) (eVar 6) (eVar 4))) (nEmit (eVar 6))) aNil))) (sRet (eIf (eCall 3 g_has_room (aCons (eVar 0) (aCons (eTup (aCons (eVar 3) (aStar (eVar 4) (aStar (eVar 5) aNil)))) (aCons (eTup aNil) aNil)))) (eLst (aCons (eTup (aCons (eC (.str "crowded")) (aCons (eBin gIx (eVar 1) (eC (.int 1))) aNil))) aNil)) (eLst aNil)))))))
def g_refusal_findings : GCall := gDef 7 f_refusal_findings
def f_findings_of : XS := (sSeq (sSet 4 (eBin gIx (eVar 1) (eC (.int 0)))) (sSeq (sIf (eAnd (eBin (gIn false) (eVar 4) (eTup (aCons (eC c_ASK) (aCons (eC c_HOLD) aNil)))) (eBin (gIsN false) (eFld [13] "own" (eVar 3)) (eC .non))) (sRet (eCall 3 g_refusal_findings (aCons (eVar 0) (aCons (eVar 1) (aCons (eVar 2) aNil))))) sNext) (sSeq (sSet 5 (eLstC aNil)) (sSeq (sIf (eAnd (eBin (gIsN true) (eFld [13] "own" (eVar 3)) (eC .non)) (eCall 2 g_clashes (aCons (eFld [13] "own" (eVar 3)) (aCons (eCall 2 g_others_of (aCons (eFld [13] "behind" (eVar 3)) (aCons (eFld [13] "own" (eVar 3)) aNil))) aNil)))) (sExpr (eMt isLst gAppend (eVar 5) (aCons (eTup (aCons (eC (.str "clash")) (aCons (eVar 4) aNil))) aNil))) sNext) (sSeq (sIf (eAnd (eBin (gEqD false) (eVar 4) (eC c_ASK)) (eAnd (eBin gLe (eCallB gLen (aCons (eFld [13] "behind" (eVar 3)) aNil)) (eCallB gLen (aCons (eVar 2) aNil))) (eBin (gEqD true) (eCall 3 g_suiting (aCons (eVar 0) (aCons (eVar 1) (aCons (eVar 2) aNil)))) (eLst aNil)))) (sExpr (eMt isLst gAppend (eVar 5) (aCons (eTup (aCons (eC (.str "dropped")) (aCons (eBin gIx (eVar 1) (eC (.int 1))) aNil))) aNil))) sNext) (sFrz 5 (sRet (eFrz (eVar 5)))))))))
def g_findings_of : GCall := gDef 6 f_findings_of
def f_led_to : XS := (sRet (eIf (eCall 3 g_can_be (aCons (eVar 0) (aCons (eVar 1) (aCons (eVar 2) aNil)))) (eCall 3 g_done_with (aCons (eVar 0) (aCons (eVar 1) (aCons (eVar 2) aNil)))) (eC .non)))
def g_led_to : GCall := gDef 3 f_led_to
def f_Record_take_in : XS := (sSeq (sSet 3 (eCall 4 g_findings_of (aCons (eFld [14] "place" (eVar 0)) (aCons (eVar 1) (aCons (eFld [14] "at" (eVar 0)) (aCons (eVar 2) aNil)))))) (sSeq (sExpr (eMt isLst gAppend (eFld [14] "answers" (eVar 0)) (aCons (eFld [13] "answer" (eVar 2)) aNil))) (sSeq (sExpr (eMt isLst gExtend (eFld [14] "told_findings" (eVar 0)) (aCons (eComp fzL (iSeq (eVar 3)) (.one 4) (([("finding", 4)] : List (PySem.Str × Nat)).map (·.2)) tYesQ (nEmit (eTup (aCons (eCallB gLen (aCons (eFld [14] "answers" (eVar 0)) aNil)) (aCons (eVar 4) aNil))))) aNil))) (sFldSet [14] "at" (eVar 0) (eFld [13] "behind" (eVar 2))))))
def g_Record_take_in : GCall := gDef 5 f_Record_take_in
def f_Record___init__ : XS := (sSeq (sFldSet [14] "place" (eVar 0) (eVar 1)) (sSeq (sFldSet [14] "at" (eVar 0) (eTup aNil)) (sSeq (sFldSet [14] "answers" (eVar 0) (eLstC aNil)) (sFldSet [14] "told_findings" (eVar 0) (eLstC aNil)))))
def g_Record___init__ : GCall := gDef 2 f_Record___init__
abbrev m_Record : GCall := mkRun (.obj 14 []) g_Record___init__
def f_replay : XS := (sSeq (sSet 2 (eCall 1 m_Record (aCons (eVar 0) aNil))) (sSeq (sFor (iEnumQ (eVar 1)) (.many [3, 4]) (sSeq (sSet 5 (eIf (eCall 2 g_is_deed (aCons (eVar 0) (aCons (eVar 4) aNil))) (eCall 3 g_led_to (aCons (eVar 0) (aCons (eFld [14] "at" (eVar 2)) (aCons (eVar 4) aNil)))) (eC .non))) (sSeq (sIf (eBin (gIsN false) (eVar 5) (eC .non)) sStuck sNext) (sExpr (eMet 14 3 "take_in" g_Record_take_in (eVar 2) (aCons (eVar 4) (aCons (eVar 5) aNil))))))) (sRet (eVar 2))))
def g_replay : GCall := gDef 6 f_replay
def f_first_at : XS := (sSeq (sSet 3 (eCall 3 g_taker (aCons (eVar 0) (aCons (eVar 1) (aCons (eVar 2) aNil))))) (sRet (eIf (eBin (gIsN false) (eVar 3) (eC .non)) (eC .non) (eBin gIx (eVar 3) (eC (.int 1))))))
def g_first_at : GCall := gDef 4 f_first_at
def f_plan : XS := (sSeq (sSet 1 (eFld [14] "place" (eVar 0))) (sSeq (sSet 2 (eLstC aNil)) (sSeq (sFor (iRange1 (eSlt 12 1 (eVar 1))) (.one 3) (sExpr (eMt isLst gAppend (eVar 2) (aCons (eComp fzL (iRange1 (eSlt 12 0 (eVar 1))) (.one 4) (([("part", 4)] : List (PySem.Str × Nat)).map (·.2)) tYesQ (nEmit (eCall 3 g_first_at (aCons (eFld [14] "at" (eVar 0)) (aCons (eVar 3) (aCons (eVar 4) aNil)))))) aNil)))) (sRet (eVar 2)))))
def g_plan : GCall := gDef 5 f_plan
def f__law_mix : XS := (sSeq (sSet 2 (eVar 1)) (sSeq (sFor (iSeq (eVar 0)) (.one 3) (sSet 2 (eBin gMod (eCallB gIntOf (aCons (eBin gAdd (eBin gAdd (eBin gMul (eVar 2) (eC (.int 48271))) (eBin gMod (eCallB gIntOf (aCons (eVar 3) aNil)) (eC (.int 2147483629)))) (eC (.int 1))) aNil)) (eC (.int 2147483647))))) (sRet (eLstC (aCons (eVar 2) (aCons (eCallB gListC (aCons (eVar 0) aNil)) (aCons (eC (.int 0)) (aCons (eC (.int 14)) aNil))))))))
def g__law_mix : GCall := gDef 4 f__law_mix
def f__law_next : XS := (sSeq (sSet 2 (eBin gIx (eBin gAdd (eBin gIx (eVar 0) (eC (.int 1))) (eLst (aCons (eC (.int 0)) aNil))) (eBin gMod (eCallB gIntOf (aCons (eBin gIx (eVar 0) (eC (.int 2))) aNil)) (eCallB gMax2 (aCons (eC (.int 1)) (aCons (eCallB gLen (aCons (eBin gIx (eVar 0) (eC (.int 1))) aNil)) aNil)))))) (sSeq (sIf (eBin gGe (eVar 2) (eBin gPow (eC (.int 10)) (eC (.int 18)))) (sSeq (sSub (eBin gIx (eVar 0) (eC (.int 1))) (eBin gMod (eCallB gIntOf (aCons (eBin gIx (eVar 0) (eC (.int 2))) aNil)) (eCallB gLen (aCons (eBin gIx (eVar 0) (eC (.int 1))) aNil))) (eBin gDiv (eVar 2) (eVar 1))) (sRet (eBin gMod (eCallB gIntOf (aCons (eVar 2) aNil)) (eVar 1)))) sNext) (sSeq (sSub (eVar 0) (eC (.int 0)) (eBin gMod (eCallB gIntOf (aCons (eBin gAdd (eBin gAdd (eBin gMul (eBin gIx (eVar 0) (eC (.int 0))) (eC (.int 48271))) (eBin gMul (eVar 2) (eC (.int 69621)))) (eC (.int 11))) aNil)) (eC (.int 2147483647)))) (sSeq (sSub (eVar 0) (eC (.int 2)) (eBin gAdd (eBin gIx (eVar 0) (eC (.int 2))) (eC (.int 1)))) (sRet (eBin gMod (eCallB gIntOf (aCons (eBin gDiv (eBin gIx (eVar 0) (eC (.int 0))) (eC (.int 7))) aNil)) (eVar 1)))))))
def g__law_next : GCall := gDef 3 f__law_next
def f__law_rule : XS := (sSeq (sSet 1 (eDisp [((eC (.str "checking")), (eBin gIx (eLst (aCons (eC (.str "cells")) (aCons (eC (.str "walls")) aNil))) (eCall 2 g__law_next (aCons (eVar 0) (aCons (eC (.int 2)) aNil))))), ((eC (.str "giving")), (eBin gIx (eLst (aCons (eC (.str "first")) (aCons (eC (.str "last")) (aCons (eC (.str "tight")) aNil)))) (eCall 2 g__law_next (aCons (eVar 0) (aCons (eC (.int 3)) aNil)))))])) (sSeq (sSub (eVar 1) (eC (.str "holding")) (eBin gIx (eLst (aCons (eC (.str "blocks")) (aCons (eC (.str "last")) (aCons (eC (.str "yields")) aNil)))) (eCall 2 g__law_next (aCons (eVar 0) (aCons (eC (.int 3)) aNil))))) (sSeq (sSub (eVar 1) (eC (.str "places")) (eBin gIx (eLst (aCons (eC (.str "any")) (aCons (eC (.str "any")) (aCons (eC (.str "steps")) aNil)))) (eCall 2 g__law_next (aCons (eVar 0) (aCons (eC (.int 3)) aNil))))) (sFrz 1 (sRet (eFrz (eVar 1)))))))
def g__law_rule : GCall := gDef 2 f__law_rule
def f__law_hall : XS := (sSeq (sSet 4 (eLstC (aCons (eBin gAdd (eC (.int 1)) (eCall 2 g__law_next (aCons (eVar 0) (aCons (eVar 1) aNil)))) (aCons (eBin gAdd (eC (.int 1)) (eCall 2 g__law_next (aCons (eVar 0) (aCons (eVar 2) aNil)))) (aCons (eTup aNil) (aCons (eC (.int 0)) (aCons (eCall 1 g__law_rule (aCons (eVar 0) aNil)) (aCons (eTup aNil) aNil)))))))) (sSeq (sSet 5 (eComp fzL (iRange2 (eC (.int 1)) (eBin gAdd (eBin gIx (eVar 4) (eC (.int 0))) (eC (.int 1)))) (.one 6) (([("_law_width", 6)] : List (PySem.Str × Nat)).map (·.2)) (tOf (eBin gGt (eCall 2 g__law_next (aCons (eVar 0) (aCons (eC (.int 3)) aNil))) (eC (.int 0)))) (nEmit (eVar 6)))) (sSeq (sSub (eVar 4) (eC (.int 2)) (eCallB gTuple (aCons (eIf (eBin (gEqD true) (eVar 5) (eLst aNil)) (eVar 5) (eLst (aCons (eBin gAdd (eC (.int 1)) (eCall 2 g__law_next (aCons (eVar 0) (aCons (eBin gIx (eVar 4) (eC (.int 0))) aNil)))) aNil))) aNil))) (sSeq (sSub (eVar 4) (eC (.int 3)) (eBin gAdd (eC (.int 1)) (eCall 2 g__law_next (aCons (eVar 0) (aCons (eBin gIx (eVar 4) (eC (.int 1))) aNil))))) (sSeq (sSub (eVar 4) (eC (.int 5)) (eCallB gTuple (aCons (eComp fzL (iSeq (eVar 3)) (.one 7) (([("_law_word", 7)] : List (PySem.Str × Nat)).map (·.2)) (tOf (eBin gGt (eCall 2 g__law_next (aCons (eVar 0) (aCons (eC (.int 3)) aNil))) (eC (.int 0)))) (nEmit (eVar 7))) aNil))) (sFrz 4 (sRet (eFrz (eVar 4)))))))))
def g__law_hall : GCall := gDef 8 f__law_hall
def f_Hall___init__ : XS := (sSeq (sIf (eOr (eNot (eCall 3 g_is_between (aCons (eVar 1) (aCons (eC (.int 1)) (aCons (eC c_MOST_PARTS) aNil))))) (eNot (eCall 3 g_is_between (aCons (eVar 2) (aCons (eC (.int 1)) (aCons (eC c_MOST_DAYS) aNil)))))) sStuck sNext) (sSeq (sIf (eOr (eNot (eCall 2 g_are_widths (aCons (eVar 3) (aCons (eVar 1) aNil)))) (eNot (eCall 3 g_is_between (aCons (eVar 4) (aCons (eC (.int 1)) (aCons (eVar 2) aNil)))))) sStuck sNext) (sSeq (sExpr (eCall 1 g_look_at_rule (aCons (eVar 5) aNil))) (sSeq (sIf (eNot (eCall 1 g_are_words (aCons (eVar 6) aNil))) sStuck sNext) (sSeq (sSltSet 12 0 (eVar 0) (eVar 1)) (sSeq (sSltSet 12 1 (eVar 0) (eVar 2)) (sSeq (sSltSet 12 2 (eVar 0) (eVar 3)) (sSeq (sSltSet 12 3 (eVar 0) (eVar 4)) (sSeq (sSltSet 12 4 (eVar 0) (eFrz (eComp clDK (iDict (eC c_POINTS)) (.one 7) (([("point", 7)] : List (PySem.Str × Nat)).map (·.2)) tYesQ (nEmitK (eVar 7) (eBin gIx (eVar 5) (eVar 7)))))) (sSltSet 12 5 (eVar 0) (eVar 6)))))))))))
def g_Hall___init__ : GCall := gDef 8 f_Hall___init__
abbrev m_Hall : GCall := gMkF (.slt 12 []) g_Hall___init__
def f__law_built : XS := (sRet (eCall 6 m_Hall (aCons (eBin gIx (eVar 0) (eC (.int 0))) (aCons (eBin gIx (eVar 0) (eC (.int 1))) (aCons (eBin gIx (eVar 0) (eC (.int 2))) (aCons (eBin gIx (eVar 0) (eC (.int 3))) (aCons (eBin gIx (eVar 0) (eC (.int 4))) (aCons (eBin gIx (eVar 0) (eC (.int 5))) aNil))))))))
def g__law_built : GCall := gDef 1 f__law_built
def f__law_every : XS := (sSeq (sSet 1 (eLst aNil)) (sSeq (sFor (iSeq (eBin gIx (eVar 0) (eC (.int 2)))) (.one 2) (sFor (iRange1 (eBin gIx (eVar 0) (eC (.int 1)))) (.one 3) (sSet 1 (eBin gAdd (eVar 1) (eComp fzL (iRange2 (eC (.int 1)) (eBin gAdd (eBin gIx (eVar 0) (eC (.int 3))) (eC (.int 1)))) (.one 8) (([("_law_n", 8)] : List (PySem.Str × Nat)).map (·.2)) (tOf (eBin gLe (eBin gAdd (eVar 3) (eVar 8)) (eBin gIx (eVar 0) (eC (.int 1))))) (nEmit (eTup (aCons (eVar 2) (aCons (eVar 3) (aCons (eVar 8) aNil)))))))))) (sSeq (sSet 4 (eLst aNil)) (sSeq (sFor (iRange1 (eBin gIx (eVar 0) (eC (.int 1)))) (.one 3) (sSet 4 (eBin gAdd (eVar 4) (eComp fzL (iRange1 (eBin gIx (eVar 0) (eC (.int 0)))) (.one 9) (([("_law_part", 9)] : List (PySem.Str × Nat)).map (·.2)) tYesQ (nEmit (eTup (aCons (eVar 3) (aCons (eVar 9) aNil)))))))) (sSeq (sSet 5 (eLst aNil)) (sSeq (sFor (iSeq (eVar 4)) (.one 6) (sSet 5 (eBin gAdd (eVar 5) (eComp fzL (iRange1 (eBin gIx (eVar 0) (eC (.int 0)))) (.one 10) (([("_law_start_here", 10)] : List (PySem.Str × Nat)).map (·.2)) tYesQ (nEmit (eBin gAdd (eBin gAdd (eTup (aCons (eC (.str "move")) aNil)) (eVar 6)) (eTup (aCons (eVar 10) aNil)))))))) (sSeq (sSet 7 (eBin gAdd (eComp fzL (iSeq (eVar 1)) (.one 11) (([("_law_one", 11)] : List (PySem.Str × Nat)).map (·.2)) tYesQ (nEmit (eBin gAdd (eTup (aCons (eC (.str "ask")) aNil)) (eVar 11)))) (eComp fzL (iSeq (eVar 1)) (.one 11) (([("_law_one", 11)] : List (PySem.Str × Nat)).map (·.2)) tYesQ (nEmit (eBin gAdd (eTup (aCons (eC (.str "hold")) aNil)) (eVar 11)))))) (sSeq (sSet 7 (eBin gAdd (eBin gAdd (eBin gAdd (eVar 7) (eComp fzL (iSeq (eVar 4)) (.one 6) (([("_law_cell", 6)] : List (PySem.Str × Nat)).map (·.2)) tYesQ (nEmit (eBin gAdd (eTup (aCons (eC (.str "cancel")) aNil)) (eVar 6))))) (eComp fzL (iSeq (eVar 4)) (.one 6) (([("_law_cell", 6)] : List (PySem.Str × Nat)).map (·.2)) tYesQ (nEmit (eBin gAdd (eTup (aCons (eC (.str "firm")) aNil)) (eVar 6))))) (eLst (aCons (eTup (aCons (eC (.str "lapse")) aNil)) aNil)))) (sSeq (sSet 7 (eBin gAdd (eBin gAdd (eVar 7) (eComp fzL (iSeq (eVar 4)) (.one 6) (([("_law_cell", 6)] : List (PySem.Str × Nat)).map (·.2)) tYesQ (nEmit (eBin gAdd (eTup (aCons (eC (.str "longer")) aNil)) (eVar 6))))) (eVar 5))) (sRet (eComp fzL (iSeq (eVar 7)) (.one 12) (([("_law_deed", 12)] : List (PySem.Str × Nat)).map (·.2)) (tOf (eOr (eBin (gEqD false) (eBin gIx (eVar 12) (eC (.int 0))) (eC (.str "ask"))) (eBin (gIn false) (eBin gIx (eVar 12) (eC (.int 0))) (eBin gIx (eVar 0) (eC (.int 5)))))) (nEmit (eVar 12)))))))))))))
def g__law_every : GCall := gDef 13 f__law_every
def f__law_cells : XS := (sSeq (sSet 1 (eLst aNil)) (sSeq (sFor (iRange2 (eBin gIx (eVar 0) (eC (.int 0))) (eBin gAdd (eBin gIx (eVar 0) (eC (.int 0))) (eBin gIx (eVar 0) (eC (.int 2))))) (.one 2) (sSet 1 (eBin gAdd (eVar 1) (eComp fzL (iRange2 (eBin gIx (eVar 0) (eC (.int 1))) (eBin gAdd (eBin gIx (eVar 0) (eC (.int 1))) (eBin gIx (eVar 0) (eC (.int 3))))) (.one 3) (([("_law_part", 3)] : List (PySem.Str × Nat)).map (·.2)) tYesQ (nEmit (eTup (aCons (eVar 2) (aCons (eVar 3) aNil)))))))) (sRet (eVar 1))))
def g__law_cells : GCall := gDef 4 f__law_cells
def f__law_clash : XS := (sSeq (sIf (eAnd (eBin (gEqD true) (eBin gIx (eVar 1) (eC (.int 0))) (eBin gAdd (eBin gIx (eVar 0) (eC (.int 0))) (eBin gIx (eVar 0) (eC (.int 2))))) (eBin (gEqD true) (eBin gIx (eVar 0) (eC (.int 0))) (eBin gAdd (eBin gIx (eVar 1) (eC (.int 0))) (eBin gIx (eVar 1) (eC (.int 2)))))) (sRet (eC (.bl false))) sNext) (sSeq (sSet 2 (eLstRg2 (eBin gIx (eVar 0) (eC (.int 1))) (eBin gAdd (eBin gIx (eVar 0) (eC (.int 1))) (eBin gIx (eVar 0) (eC (.int 3)))))) (sSeq (sSet 3 (eLstRg2 (eBin gIx (eVar 1) (eC (.int 1))) (eBin gAdd (eBin gIx (eVar 1) (eC (.int 1))) (eBin gIx (eVar 1) (eC (.int 3)))))) (sRet (eAnd (eBin (gEqD true) (eVar 2) (eVar 3)) (eBin (gEqD true) (eComp fzL (iSeq (eVar 2)) (.one 4) (([("_law_part", 4)] : List (PySem.Str × Nat)).map (·.2)) (tOf (eBin (gIn false) (eVar 4) (eVar 3))) (nEmit (eVar 4))) (eLst aNil)))))))
def g__law_clash : GCall := gDef 5 f__law_clash
def f__law_free : XS := (sSeq (sSet 2 (eLst aNil)) (sSeq (sFor (iSeq (eVar 1)) (.one 3) (sSet 2 (eBin gAdd (eVar 2) (eCall 1 g__law_cells (aCons (eVar 3) aNil))))) (sRet (eBin (gEqD false) (eComp fzL (iSeq (eCall 1 g__law_cells (aCons (eVar 0) aNil))) (.one 4) (([("_law_cell", 4)] : List (PySem.Str × Nat)).map (·.2)) (tOf (eBin (gIn false) (eVar 4) (eVar 2))) (nEmit (eVar 4))) (eLst aNil)))))
def g__law_free : GCall := gDef 5 f__law_free
def f__law_suits : XS := (sRet (eAnd (eCall 2 g__law_free (aCons (eVar 0) (aCons (eVar 1) aNil))) (eBin (gEqD false) (eComp fzL (iSeq (eVar 1)) (.one 2) (([("_law_other", 2)] : List (PySem.Str × Nat)).map (·.2)) (tOf (eCall 2 g__law_clash (aCons (eVar 0) (aCons (eVar 2) aNil)))) (nEmit (eVar 2))) (eLst aNil))))
def g__law_suits : GCall := gDef 3 f__law_suits
def f__law_row : XS := (sRet (eTup (aCons (eBin gIx (eVar 0) (eC (.int 2))) (aCons (eVar 1) (aCons (eBin gIx (eVar 0) (eC (.int 3))) (aCons (eBin gIx (eVar 0) (eC (.int 1))) (aCons (eBin (gEqD false) (eBin gIx (eVar 0) (eC (.int 0))) (eC (.str "hold"))) aNil)))))))
def g__law_row : GCall := gDef 2 f__law_row
def f__law_suiting : XS := (sRet (eComp fzL (iRange1 (eBin gAdd (eBin gSub (eBin gIx (eVar 0) (eC (.int 0))) (eBin gIx (eVar 1) (eC (.int 1)))) (eC (.int 1)))) (.one 3) (([("_law_n", 3)] : List (PySem.Str × Nat)).map (·.2)) (tOf (eCall 2 g__law_suits (aCons (eCall 2 g__law_row (aCons (eVar 1) (aCons (eVar 3) aNil))) (aCons (eVar 2) aNil)))) (nEmit (eVar 3))))
def g__law_suiting : GCall := gDef 4 f__law_suiting
def f__law_gap : XS := (sSeq (sSet 4 (eBin gIx (eVar 1) (eC (.int 1)))) (sSeq (sSet 5 (eBin gSub (eVar 2) (eC (.int 1)))) (sSeq (sWhile 100000 (eAnd (eBin gGe (eVar 5) (eC (.int 0))) (eCall 2 g__law_free (aCons (eTup (aCons (eBin gIx (eVar 1) (eC (.int 2))) (aCons (eVar 5) (aCons (eBin gIx (eVar 1) (eC (.int 3))) (aCons (eC (.int 1)) (aCons (eC (.bl false)) aNil)))))) (aCons (eVar 3) aNil)))) (sSeq (sSet 4 (eBin gAdd (eVar 4) (eC (.int 1)))) (sSet 5 (eBin gSub (eVar 5) (eC (.int 1)))))) (sSeq (sSet 6 (eBin gAdd (eVar 2) (eBin gIx (eVar 1) (eC (.int 1))))) (sSeq (sWhile 100000 (eAnd (eBin gLt (eVar 6) (eBin gIx (eVar 0) (eC (.int 0)))) (eCall 2 g__law_free (aCons (eTup (aCons (eBin gIx (eVar 1) (eC (.int 2))) (aCons (eVar 6) (aCons (eBin gIx (eVar 1) (eC (.int 3))) (aCons (eC (.int 1)) (aCons (eC (.bl false)) aNil)))))) (aCons (eVar 3) aNil)))) (sSeq (sSet 4 (eBin gAdd (eVar 4) (eC (.int 1)))) (sSet 6 (eBin gAdd (eVar 6) (eC (.int 1)))))) (sRet (eVar 4)))))))
def g__law_gap : GCall := gDef 7 f__law_gap
def f__law_let : XS := (sSeq (sSet 3 (eLstC aNil)) (sSeq (sFor (iRange1 (eBin gAdd (eBin gSub (eBin gIx (eVar 0) (eC (.int 0))) (eBin gIx (eVar 1) (eC (.int 1)))) (eC (.int 1)))) (.one 4) (sSeq (sSet 5 (eCall 2 g__law_row (aCons (eVar 1) (aCons (eVar 4) aNil)))) (sSeq (sSet 6 (eIf (eBin (gEqD false) (eBin gIx (eBin gIx (eVar 0) (eC (.int 4))) (eC (.str "checking"))) (eC (.str "walls"))) (eCall 2 g__law_suits (aCons (eVar 5) (aCons (eVar 2) aNil))) (eCall 2 g__law_free (aCons (eVar 5) (aCons (eVar 2) aNil))))) (sIf (eAnd (eVar 6) (eOr (eBin (gEqD false) (eBin gIx (eBin gIx (eVar 0) (eC (.int 4))) (eC (.str "places"))) (eC (.str "any"))) (eBin (gEqD false) (eBin gMod (eVar 4) (eBin gIx (eVar 1) (eC (.int 1)))) (eC (.int 0))))) (sExpr (eMt isLst gAppend (eVar 3) (aCons (eVar 4) aNil))) sNext)))) (sFrz 3 (sRet (eFrz (eVar 3))))))
def g__law_let : GCall := gDef 7 f__law_let
def f__law_given : XS := (sSeq (sSet 3 (eComp fzL (iSeq (eVar 2)) (.one 6) (([("_law_row_here", 6)] : List (PySem.Str × Nat)).map (·.2)) (tOf (eNot (eBin gIx (eVar 6) (eC (.int 4))))) (nEmit (eVar 6)))) (sSeq (sSet 4 (eVar 2)) (sSeq (sIf (eAnd (eBin (gEqD false) (eBin gIx (eVar 1) (eC (.int 0))) (eC (.str "ask"))) (eBin (gEqD false) (eBin gIx (eBin gIx (eVar 0) (eC (.int 4))) (eC (.str "holding"))) (eC (.str "yields")))) (sSet 4 (eVar 3)) sNext) (sSeq (sIf (eAnd (eBin (gEqD false) (eBin gIx (eVar 1) (eC (.int 0))) (eC (.str "ask"))) (eAnd (eBin (gEqD false) (eBin gIx (eBin gIx (eVar 0) (eC (.int 4))) (eC (.str "holding"))) (eC (.str "last"))) (eBin (gEqD false) (eCall 3 g__law_let (aCons (eVar 0) (aCons (eVar 1) (aCons (eVar 2) aNil)))) (eLst aNil)))) (sSet 4 (eVar 3)) sNext) (sSeq (sSet 5 (eCall 3 g__law_let (aCons (eVar 0) (aCons (eVar 1) (aCons (eVar 4) aNil))))) (sSeq (sIf (eBin (gEqD false) (eVar 5) (eLst aNil)) (sRet (eC .non)) sNext) (sSeq (sIf (eBin (gEqD true) (eBin gIx (eBin gIx (eVar 0) (eC (.int 4))) (eC (.str "giving"))) (eC (.str "tight"))) (sRet (eIf (eBin (gEqD false) (eBin gIx (eBin gIx (eVar 0) (eC (.int 4))) (eC (.str "giving"))) (eC (.str "first"))) (eBin gIx (eVar 5) (eC (.int 0))) (eBin gIx (eVar 5) (eC (.int (-1)))))) sNext) (sRet (eBin gIx (eBin gIx (eCallB gSorted (aCons (eComp fzL (iSeq (eVar 5)) (.one 7) (([("_law_start_here", 7)] : List (PySem.Str × Nat)).map (·.2)) tYesQ (nEmit (eTup (aCons (eCall 4 g__law_gap (aCons (eVar 0) (aCons (eVar 1) (aCons (eVar 7) (aCons (eVar 4) aNil))))) (aCons (eVar 7) aNil))))) aNil)) (eC (.int 0))) (eC (.int 1)))))))))))
def g__law_given : GCall := gDef 8 f__law_given
def f__law_taker : XS := (sSeq (sSet 2 (eComp fzL (iSeq (eVar 0)) (.one 3) (([("_law_row_here", 3)] : List (PySem.Str × Nat)).map (·.2)) (tOf (eBin (gIn false) (eSl (eVar 1) (oSome (eC (.int 1))) (oSome (eC (.int 3)))) (eCall 1 g__law_cells (aCons (eVar 3) aNil)))) (nEmit (eVar 3)))) (sRet (eIf (eBin (gEqD true) (eVar 2) (eLst aNil)) (eBin gIx (eVar 2) (eC (.int 0))) (eC .non))))
def g__law_taker : GCall := gDef 4 f__law_taker
def f__law_may : XS := (sSeq (sIf (eBin (gIn false) (eBin gIx (eVar 2) (eC (.int 0))) (eTup (aCons (eC (.str "ask")) (aCons (eC (.str "hold")) aNil)))) (sRet (eC (.bl true))) sNext) (sSeq (sIf (eBin (gEqD false) (eBin gIx (eVar 2) (eC (.int 0))) (eC (.str "lapse"))) (sRet (eBin (gEqD true) (eComp fzL (iSeq (eVar 1)) (.one 4) (([("_law_row_here", 4)] : List (PySem.Str × Nat)).map (·.2)) (tOf (eBin gIx (eVar 4) (eC (.int 4)))) (nEmit (eVar 4))) (eLst aNil))) sNext) (sSeq (sSet 3 (eCall 2 g__law_taker (aCons (eVar 1) (aCons (eVar 2) aNil)))) (sSeq (sIf (eOr (eBin (gIsN false) (eVar 3) (eC .non)) (eBin (gEqD false) (eBin gIx (eVar 2) (eC (.int 0))) (eC (.str "cancel")))) (sRet (eBin (gIsN true) (eVar 3) (eC .non))) sNext) (sSeq (sIf (eBin (gEqD false) (eBin gIx (eVar 2) (eC (.int 0))) (eC (.str "firm"))) (sRet (eBin gIx (eVar 3) (eC (.int 4)))) sNext) (sSeq (sIf (eBin (gEqD false) (eBin gIx (eVar 2) (eC (.int 0))) (eC (.str "longer"))) (sRet (eBin gLt (eBin gAdd (eBin gIx (eVar 3) (eC (.int 0))) (eBin gIx (eVar 3) (eC (.int 2)))) (eBin gIx (eVar 0) (eC (.int 1))))) sNext) (sRet (eAnd (eBin (gEqD true) (eBin gIx (eVar 3) (eC (.int 1))) (eBin gIx (eVar 2) (eC (.int 3)))) (eBin gLe (eBin gAdd (eBin gIx (eVar 2) (eC (.int 3))) (eBin gIx (eVar 3) (eC (.int 3)))) (eBin gIx (eVar 0) (eC (.int 0))))))))))))
def g__law_may : GCall := gDef 5 f__law_may
def f__law_nearer : XS := (sSeq (sSet 2 (eLstRg2 (eBin gIx (eVar 0) (eC (.int 2))) (eBin gAdd (eBin gIx (eVar 0) (eC (.int 2))) (eBin gIx (eVar 0) (eC (.int 3)))))) (sSeq (sSet 3 (eComp fzL (iSeq (eVar 1)) (.one 4) (([("_law_row_here", 4)] : List (PySem.Str × Nat)).map (·.2)) (tOf (eBin (gEqD true) (eComp fzL (iSeq (eCall 1 g__law_cells (aCons (eVar 4) aNil))) (.one 5) (([("_law_cell", 5)] : List (PySem.Str × Nat)).map (·.2)) (tOf (eBin (gIn false) (eBin gIx (eVar 5) (eC (.int 0))) (eVar 2))) (nEmit (eVar 5))) (eLst aNil))) (nEmit (eVar 4)))) (sRet (eBin gAdd (eVar 3) (eComp fzL (iSeq (eVar 1)) (.one 4) (([("_law_row_here", 4)] : List (PySem.Str × Nat)).map (·.2)) (tOf (eBin (gIn true) (eVar 4) (eVar 3))) (nEmit (eVar 4)))))))
def g__law_nearer : GCall := gDef 6 f__law_nearer
def f__law_fits (grec : GCall) : XS := (sSeq (sIf (eBin (gEqD false) (eVar 1) (eLst aNil)) (sRet (eC (.bl true))) sNext) (sSeq (sSet 3 (eBin gIx (eVar 1) (eC (.int 0)))) (sSeq (sFor (iRange1 (eBin gAdd (eBin gSub (eBin gIx (eVar 0) (eC (.int 0))) (eBin gIx (eVar 3) (eC (.int 3)))) (eC (.int 1)))) (.one 4) (sSeq (sSet 5 (eBin gAdd (eTup (aCons (eBin gIx (eVar 3) (eC (.int 0))) (aCons (eVar 4) aNil))) (eSl (eVar 3) (oSome (eC (.int 2))) oNone))) (sIf (eAnd (eCall 2 g__law_suits (aCons (eVar 5) (aCons (eVar 2) aNil))) (eCall 3 grec (aCons (eVar 0) (aCons (eSl (eVar 1) (oSome (eC (.int 1))) oNone) (aCons (eBin gAdd (eVar 2) (eLst (aCons (eVar 5) aNil))) aNil))))) (sRet (eC (.bl true))) sNext))) (sRet (eC (.bl false))))))
def g__law_fits : GCall := gRec 6 f__law_fits 50
def f__law_change : XS := (sSeq (sSet 3 (eBin gIx (eVar 2) (eC (.int 0)))) (sSeq (sIf (eBin (gIn false) (eVar 3) (eTup (aCons (eC (.str "ask")) (aCons (eC (.str "hold")) aNil)))) (sSeq (sSet 4 (eCall 3 g__law_given (aCons (eVar 0) (aCons (eVar 2) (aCons (eVar 1) aNil))))) (sSeq (sIf (eBin (gIsN false) (eVar 4) (eC .non)) (sRet (eLst (aCons (eC .non) (aCons (eVar 1) (aCons (eC .non) aNil))))) sNext) (sSeq (sSet 5 (eCall 2 g__law_row (aCons (eVar 2) (aCons (eVar 4) aNil)))) (sRet (eLst (aCons (eVar 4) (aCons (eBin gAdd (eComp fzL (iSeq (eVar 1)) (.one 9) (([("_law_row_here", 9)] : List (PySem.Str × Nat)).map (·.2)) (tOf (eCall 2 g__law_free (aCons (eVar 9) (aCons (eLst (aCons (eVar 5) aNil)) aNil)))) (nEmit (eVar 9))) (eLst (aCons (eVar 5) aNil))) (aCons (eVar 5) aNil)))))))) sNext) (sSeq (sIf (eBin (gEqD false) (eVar 3) (eC (.str "lapse"))) (sRet (eLst (aCons (eC (.bl true)) (aCons (eComp fzL (iSeq (eVar 1)) (.one 9) (([("_law_row_here", 9)] : List (PySem.Str × Nat)).map (·.2)) (tOf (eNot (eBin gIx (eVar 9) (eC (.int 4))))) (nEmit (eVar 9))) (aCons (eC .non) aNil))))) sNext) (sSeq (sSet 5 (eCall 2 g__law_taker (aCons (eVar 1) (aCons (eVar 2) aNil)))) (sSeq (sSet 6 (eComp fzL (iSeq (eVar 1)) (.one 9) (([("_law_row_here", 9)] : List (PySem.Str × Nat)).map (·.2)) (tOf (eBin (gEqD true) (eVar 9) (eVar 5))) (nEmit (eVar 9)))) (sSeq (sIf (eBin (gEqD false) (eVar 3) (eC (.str "cancel"))) (sRet (eLst (aCons (eC (.bl true)) (aCons (eVar 6) (aCons (eC .non) aNil))))) sNext) (sSeq (sIf (eBin (gEqD false) (eVar 3) (eC (.str "firm"))) (sRet (eLst (aCons (eC (.bl true)) (aCons (eBin gAdd (eVar 6) (eLst (aCons (eBin gAdd (eSl (eVar 5) oNone (oSome (eC (.int 4)))) (eTup (aCons (eC (.bl false)) aNil))) aNil))) (aCons (eC .non) aNil))))) sNext) (sSeq (sSet 7 (eBin gAdd (eBin gAdd (eSl (eVar 5) oNone (oSome (eC (.int 2)))) (eTup (aCons (eBin gAdd (eBin gIx (eVar 5) (eC (.int 2))) (eC (.int 1))) aNil))) (eSl (eVar 5) (oSome (eC (.int 3))) oNone))) (sSeq (sIf (eBin (gEqD false) (eVar 3) (eC (.str "move"))) (sSet 7 (eBin gAdd (eTup (aCons (eBin gIx (eVar 5) (eC (.int 0))) (aCons (eBin gIx (eVar 2) (eC (.int 3))) aNil))) (eSl (eVar 5) (oSome (eC (.int 2))) oNone))) sNext) (sSeq (sSet 8 (eIf (eBin (gEqD false) (eBin gIx (eBin gIx (eVar 0) (eC (.int 4))) (eC (.str "checking"))) (eC (.str "walls"))) (eCall 2 g__law_suits (aCons (eVar 7) (aCons (eVar 6) aNil))) (eCall 2 g__law_free (aCons (eVar 7) (aCons (eVar 6) aNil))))) (sRet (eIf (eVar 8) (eLst (aCons (eC (.bl true)) (aCons (eBin gAdd (eVar 6) (eLst (aCons (eVar 7) aNil))) (aCons (eVar 7) aNil)))) (eLst (aCons (eC (.bl false)) (aCons (eVar 1) (aCons (eC .non) aNil))))))))))))))))
def g__law_change : GCall := gDef 10 f__law_change
def f__law_do : XS := (sSeq (sTg (.lmany [3, 4, 5]) (eCall 3 g__law_change (aCons (eVar 0) (aCons (eBin gIx (eVar 1) (eC (.str "rows"))) (aCons (eVar 2) aNil))))) (sSeq (sSet 6 (eLstC aNil)) (sSeq (sSet 7 (eIf (eBin (gIn false) (eBin gIx (eVar 2) (eC (.int 0))) (eTup (aCons (eC (.str "ask")) (aCons (eC (.str "hold")) aNil)))) (eCall 3 g__law_suiting (aCons (eVar 0) (aCons (eVar 2) (aCons (eBin gIx (eVar 1) (eC (.str "rows"))) aNil)))) (eLst aNil))) (sSeq (sIf (eAnd (eBin (gIsN true) (eVar 5) (eC .non)) (eBin (gEqD true) (eComp fzL (iSeq (eVar 4)) (.one 8) (([("_law_row_here", 8)] : List (PySem.Str × Nat)).map (·.2)) (tOf (eCall 2 g__law_clash (aCons (eVar 8) (aCons (eVar 5) aNil)))) (nEmit (eVar 8))) (eLst aNil))) (sExpr (eMt isLst gAppend (eVar 6) (aCons (eTup (aCons (eC (.str "clash")) (aCons (eBin gIx (eVar 2) (eC (.int 0))) aNil))) aNil))) sNext) (sSeq (sIf (eAnd (eBin (gIn false) (eBin gIx (eVar 2) (eC (.int 0))) (eTup (aCons (eC (.str "ask")) (aCons (eC (.str "hold")) aNil)))) (eAnd (eBin (gIsN false) (eVar 5) (eC .non)) (eBin (gEqD false) (eVar 7) (eLst aNil)))) (sIf (eCall 3 g__law_fits (aCons (eVar 0) (aCons (eBin gAdd (eLst (aCons (eCall 2 g__law_row (aCons (eVar 2) (aCons (eC (.int 0)) aNil))) aNil)) (eCall 2 g__law_nearer (aCons (eVar 2) (aCons (eBin gIx (eVar 1) (eC (.str "rows"))) aNil)))) (aCons (eLst aNil) aNil)))) (sExpr (eMt isLst gAppend (eVar 6) (aCons (eTup (aCons (eC (.str "crowded")) (aCons (eBin gIx (eVar 2) (eC (.int 1))) aNil))) aNil))) sNext) sNext) (sSeq (sIf (eAnd (eBin (gEqD false) (eBin gIx (eVar 2) (eC (.int 0))) (eC (.str "ask"))) (eAnd (eBin (gIsN true) (eVar 5) (eC .non)) (eBin gLe (eCallB gLen (aCons (eVar 4) aNil)) (eCallB gLen (aCons (eBin gIx (eVar 1) (eC (.str "rows"))) aNil))))) (sSet 6 (eBin gAdd (eVar 6) (eSl (eLst (aCons (eTup (aCons (eC (.str "dropped")) (aCons (eBin gIx (eVar 2) (eC (.int 1))) aNil))) aNil)) oNone (oSome (eCallB gLen (aCons (eVar 7) aNil)))))) sNext) (sSeq (sIf (eAnd (eBin (gIn false) (eBin gIx (eVar 2) (eC (.int 0))) (eTup (aCons (eC (.str "ask")) (aCons (eC (.str "hold")) aNil)))) (eAnd (eBin (gIsN false) (eVar 5) (eC .non)) (eBin (gEqD true) (eVar 7) (eLst aNil)))) (sExpr (eMt isLst gAppend (eVar 6) (aCons (eTup (aCons (eC (.str "refused")) (aCons (eBin gIx (eVar 2) (eC (.int 1))) aNil))) aNil))) sNext) (sFrz 6 (sRet (eFrz (eDisp [((eC (.str "rows")), (eCallB gSorted (aCons (eVar 4) aNil))), ((eC (.str "told")), (eVar 3)), ((eC (.str "found")), (eVar 6))])))))))))))
def g__law_do : GCall := gDef 9 f__law_do
def f__law_able : XS := (sRet (eComp fzL (iSeq (eCall 1 g__law_every (aCons (eVar 0) aNil))) (.one 2) (([("_law_deed", 2)] : List (PySem.Str × Nat)).map (·.2)) (tOf (eCall 3 g__law_may (aCons (eVar 0) (aCons (eBin gIx (eVar 1) (eC (.str "rows"))) (aCons (eVar 2) aNil))))) (nEmit (eVar 2))))
def g__law_able : GCall := gDef 3 f__law_able
def f__law_start : XS := (sRet (eFrz (eDisp [((eC (.str "rows")), (eLst aNil)), ((eC (.str "told")), (eC .non)), ((eC (.str "found")), (eLst aNil))])))
def g__law_start : GCall := gDef 0 f__law_start
def f__law_plan : XS := (sSeq (sSet 2 (eLstC aNil)) (sSeq (sFor (iRange1 (eBin gIx (eVar 0) (eC (.int 1)))) (.one 3) (sExpr (eMt isLst gAppend (eVar 2) (aCons (eBin gMulC (eLst (aCons (eC .non) aNil)) (eBin gIx (eVar 0) (eC (.int 0)))) aNil)))) (sSeq (sFor (iSeq (eVar 1)) (.one 4) (sFor (iSeq (eCall 1 g__law_cells (aCons (eVar 4) aNil))) (.many [3, 5]) (sSub (eBin gIx (eVar 2) (eVar 3)) (eVar 5) (eBin gIx (eVar 4) (eC (.int 1)))))) (sRet (eVar 2)))))
def g__law_plan : GCall := gDef 6 f__law_plan
def f_Record___len__ : XS := (sRet (eCallB gLen (aCons (eFld [14] "answers" (eVar 0)) aNil)))
def g_Record___len__ : GCall := gDef 1 f_Record___len__
def f_Record_bookings : XS := (sRet (eFld [14] "at" (eVar 0)))
def g_Record_bookings : GCall := gDef 1 f_Record_bookings
def f_Record_found : XS := (sRet (eCallB gListC (aCons (eFld [14] "told_findings" (eVar 0)) aNil)))
def g_Record_found : GCall := gDef 1 f_Record_found
def f_Record_told : XS := (sRet (eCallB gListC (aCons (eFld [14] "answers" (eVar 0)) aNil)))
def g_Record_told : GCall := gDef 1 f_Record_told
def f_law_k01 : XS := (sSeq (sSet 1 (eCall 2 g__law_mix (aCons (eVar 0) (aCons (eC (.int 1)) aNil)))) (sSeq (sSet 2 (eCall 4 g__law_hall (aCons (eVar 1) (aCons (eC (.int 4)) (aCons (eC (.int 3)) (aCons (eLst (aCons (eC (.str "cancel")) (aCons (eC (.str "firm")) (aCons (eC (.str "hold")) (aCons (eC (.str "lapse")) (aCons (eC (.str "longer")) (aCons (eC (.str "move")) aNil))))))) aNil)))))) (sSeq (sSet 3 (eCall 1 g__law_built (aCons (eVar 2) aNil))) (sSeq (sSet 4 (eCall 0 g__law_start aNil)) (sSeq (sSet 5 (eLstC aNil)) (sSeq (sSet 6 (eLstC aNil)) (sSeq (sSet 7 (eLst aNil)) (sSeq (sFor (iRange1 (eCall 2 g__law_next (aCons (eVar 1) (aCons (eC (.int 31)) aNil)))) (.one 8) (sSeq (sSet 9 (eCall 2 g__law_able (aCons (eVar 2) (aCons (eVar 4) aNil)))) (sSeq (sExpr (eMt isLst gAppend (eVar 5) (aCons (eBin gIx (eVar 9) (eCall 2 g__law_next (aCons (eVar 1) (aCons (eCallB gLen (aCons (eVar 9) aNil)) aNil)))) aNil))) (sSeq (sSet 4 (eCall 3 g__law_do (aCons (eVar 2) (aCons (eVar 4) (aCons (eBin gIx (eVar 5) (eC (.int (-1)))) aNil))))) (sSeq (sExpr (eMt isLst gAppend (eVar 6) (aCons (eBin gIx (eVar 4) (eC (.str "told"))) aNil))) (sSet 7 (eBin gAdd (eVar 7) (eComp fzL (iSeq (eBin gIx (eVar 4) (eC (.str "found")))) (.one 12) (([("_law_finding", 12)] : List (PySem.Str × Nat)).map (·.2)) tYesQ (nEmit (eTup (aCons (eCallB gLen (aCons (eVar 5) aNil)) (aCons (eVar 12) aNil)))))))))))) (sFrz 6 (sFrz 5 (sSeq (sSet 10 (eCall 2 g_replay (aCons (eVar 3) (aCons (eVar 5) aNil)))) (sSeq (sFor (iRange1 (eC (.int 2))) (.one 11) (sSeq (sIf (eOr (eBin (gEqD true) (eProp 14 g_Record_bookings (eVar 10)) (eCallB gTuple (aCons (eBin gIx (eVar 4) (eC (.str "rows"))) aNil))) (eOr (eBin (gEqD true) (eProp 14 g_Record_told (eVar 10)) (eVar 6)) (eBin (gEqD true) (eProp 14 g_Record_found (eVar 10)) (eVar 7)))) (sRet (eC (.bl false))) sNext) (sSeq (sIf (eBin (gEqD true) (eComp fzL (iSeq (eFrz (eProp 14 g_Record_told (eVar 10)))) (.one 13) (([("_law_one", 13)] : List (PySem.Str × Nat)).map (·.2)) tYesQ (nEmit (eIsT "bool" (eVar 13)))) (eComp fzL (iSeq (eVar 6)) (.one 13) (([("_law_one", 13)] : List (PySem.Str × Nat)).map (·.2)) tYesQ (nEmit (eIsT "bool" (eVar 13))))) (sRet (eC (.bl false))) sNext) (sSeq (sIf (eOr (eBin (gEqD true) (eLenO 14 g_Record___len__ (eVar 10)) (eCallB gLen (aCons (eVar 5) aNil))) (eBin (gEqD true) (eCall 1 g_plan (aCons (eVar 10) aNil)) (eCall 2 g__law_plan (aCons (eVar 2) (aCons (eBin gIx (eVar 4) (eC (.str "rows"))) aNil))))) (sRet (eC (.bl false))) sNext) (sSeq (sExpr (eMt isLst gAppend (eProp 14 g_Record_told (eVar 10)) (aCons (eC .non) aNil))) (sSeq (sExpr (eMt isLst gClear (eProp 14 g_Record_found (eVar 10)) aNil)) (sExpr (eMt isLst gClear (eCall 1 g_plan (aCons (eVar 10) aNil)) aNil)))))))) (sRet (eC (.bl true)))))))))))))))
def g_law_k01 : GCall := gDef 14 f_law_k01
def f_Hall_parts : XS := (sRet (eSlt 12 0 (eVar 0)))
def g_Hall_parts : GCall := gDef 1 f_Hall_parts
def f_Hall_days : XS := (sRet (eSlt 12 1 (eVar 0)))
def g_Hall_days : GCall := gDef 1 f_Hall_days
def f_Hall_widths : XS := (sRet (eSlt 12 2 (eVar 0)))
def g_Hall_widths : GCall := gDef 1 f_Hall_widths
def f_Hall_longest : XS := (sRet (eSlt 12 3 (eVar 0)))
def g_Hall_longest : GCall := gDef 1 f_Hall_longest
def f_Hall_rule : XS := (sRet (eFrz (eCallB gDictC (aCons (eSlt 12 4 (eVar 0)) aNil))))
def g_Hall_rule : GCall := gDef 1 f_Hall_rule
def f_Hall_words : XS := (sRet (eSlt 12 5 (eVar 0)))
def g_Hall_words : GCall := gDef 1 f_Hall_words
def f_Hall_frame : XS := (sRet (eTup (aCons (eSlt 12 0 (eVar 0)) (aCons (eSlt 12 1 (eVar 0)) (aCons (eSlt 12 2 (eVar 0)) (aCons (eSlt 12 3 (eVar 0)) (aCons (eSlt 12 5 (eVar 0)) aNil)))))))
def g_Hall_frame : GCall := gDef 1 f_Hall_frame
end QS

set_option Elab.async false
set_option linter.all false
set_option maxRecDepth 100000
set_option maxHeartbeats 0
namespace Zk01
open PySem L2 Q QS PySem.Spec PyProof.Rows
def top (i : Nat) : Stmt := PySem.Challenge.pw_hallstretch_k01_whole_records.main.body.getD i (.Pass ⟨0, 0, 0, 0⟩)
abbrev s_is_integer : Stmt := top 13
abbrev s_is_between : Stmt := top 14
abbrev s_are_widths : Stmt := top 15
abbrev s_are_words : Stmt := top 16
abbrev s_is_word_of : Stmt := top 17
abbrev s_look_at_rule : Stmt := top 18
abbrev s_is_asked : Stmt := top 30
abbrev s_is_deed : Stmt := top 29
abbrev s_cells_of : Stmt := top 31
abbrev s_do_share : Stmt := top 32
abbrev s_do_clash : Stmt := top 33
abbrev s_clashes : Stmt := top 34
abbrev s_is_free : Stmt := top 35
abbrev s_does_suit : Stmt := top 36
abbrev s_asked_at : Stmt := top 37
abbrev s_starts_for : Stmt := top 38
abbrev s_suiting : Stmt := top 39
abbrev s_let_starts : Stmt := top 40
abbrev s_gap_of : Stmt := top 41
abbrev s_given_of : Stmt := top 42
abbrev s_counting : Stmt := top 43
abbrev s_start_given : Stmt := top 44
abbrev s_taker : Stmt := top 45
abbrev s_can_be : Stmt := top 46
abbrev s_others_of : Stmt := top 47
abbrev s_is_let_there : Stmt := top 48
abbrev s_with_booking : Stmt := top 49
abbrev s_Done___init__ : Stmt := inClass (top 50) 0
abbrev s_done_with : Stmt := top 51
abbrev s_has_room : Stmt := top 52
abbrev s_refusal_findings : Stmt := top 53
abbrev s_findings_of : Stmt := top 54
abbrev s_led_to : Stmt := top 55
abbrev s_Record_take_in : Stmt := inClass (top 57) 5
abbrev s_Record___init__ : Stmt := inClass (top 57) 0
abbrev s_replay : Stmt := top 58
abbrev s_first_at : Stmt := top 59
abbrev s_plan : Stmt := top 60
abbrev s__law_mix : Stmt := top 62
abbrev s__law_next : Stmt := top 63
abbrev s__law_rule : Stmt := top 64
abbrev s__law_hall : Stmt := top 65
abbrev s_Hall___init__ : Stmt := inClass (top 19) 1
abbrev s__law_built : Stmt := top 66
abbrev s__law_every : Stmt := top 67
abbrev s__law_cells : Stmt := top 68
abbrev s__law_clash : Stmt := top 69
abbrev s__law_free : Stmt := top 70
abbrev s__law_suits : Stmt := top 71
abbrev s__law_row : Stmt := top 72
abbrev s__law_suiting : Stmt := top 73
abbrev s__law_gap : Stmt := top 74
abbrev s__law_let : Stmt := top 75
abbrev s__law_given : Stmt := top 76
abbrev s__law_taker : Stmt := top 77
abbrev s__law_may : Stmt := top 78
abbrev s__law_nearer : Stmt := top 79
abbrev s__law_fits : Stmt := top 80
abbrev s__law_change : Stmt := top 81
abbrev s__law_do : Stmt := top 82
abbrev s__law_able : Stmt := top 83
abbrev s__law_start : Stmt := top 84
abbrev s__law_plan : Stmt := top 85
abbrev s_Record___len__ : Stmt := inClass (top 57) 4
abbrev s_Record_bookings : Stmt := inClass (top 57) 1
abbrev s_Record_found : Stmt := inClass (top 57) 3
abbrev s_Record_told : Stmt := inClass (top 57) 2
abbrev s_law : Stmt := top 86
abbrev s_Hall_parts : Stmt := inClass (top 19) 2
abbrev s_Hall_days : Stmt := inClass (top 19) 3
abbrev s_Hall_widths : Stmt := inClass (top 19) 4
abbrev s_Hall_longest : Stmt := inClass (top 19) 5
abbrev s_Hall_rule : Stmt := inClass (top 19) 6
abbrev s_Hall_words : Stmt := inClass (top 19) 7
abbrev s_Hall_frame : Stmt := inClass (top 19) 9
def cnames : List PySem.Str := ["HallError", "InvalidSize", "InvalidWidths", "InvalidRule", "InvalidWords", "InvalidDeed", "UnknownDeed", "Possible", "NotComparable", "UnknownKind", "UnknownIndex", "InvalidText", "Hall", "Done", "Record", "Moves", "Board", "Desk", "Trial", "Line"]
def fb_0 : List (PySem.W.Frag → Bool) := [fun K => (He.Fa.free "all").ok K, fun K => (He.Fa.free "any").ok K, fun K => (He.Fa.free "bool").ok K, fun K => (He.Fa.free "dict").ok K, fun K => (He.Fa.free "enumerate").ok K, fun K => (He.Fa.free "int").ok K, fun K => (He.Fa.free "isinstance").ok K, fun K => (He.Fa.free "len").ok K, fun K => (He.Fa.free "list").ok K, fun K => (He.Fa.free "max").ok K, fun K => (He.Fa.free "min").ok K, fun K => (He.Fa.free "range").ok K, fun K => (He.Fa.free "set").ok K, fun K => (He.Fa.free "sorted").ok K, fun K => (He.Fa.free "str").ok K, fun K => (He.Fa.free "tuple").ok K, conB "ASK" c_ASK, conB "CANCEL" c_CANCEL, conB "FIRM" c_FIRM, conB "HOLD" c_HOLD, conB "LAPSE" c_LAPSE, conB "LONGER" c_LONGER, conB "MOST_DAYS" c_MOST_DAYS, conB "MOST_PARTS" c_MOST_PARTS, conB "MOVE" c_MOVE, kdB "POINTS" [(.inr "checking", (.ktup [(.str "cells"), (.str "walls")])), (.inr "giving", (.ktup [(.str "first"), (.str "last"), (.str "tight")])), (.inr "holding", (.ktup [(.str "blocks"), (.str "last"), (.str "yields")])), (.inr "places", (.ktup [(.str "any"), (.str "steps")]))], kdB "SIZES" [(.inr "ask", (.int 4)), (.inr "hold", (.int 4)), (.inr "cancel", (.int 3)), (.inr "firm", (.int 3)), (.inr "lapse", (.int 1)), (.inr "longer", (.int 3)), (.inr "move", (.int 4))], conB "WORDS" c_WORDS, fun K => (He.Fa.glo "is_integer").ok K, fun K => (He.Fa.glo "is_between").ok K]
def fb_1 : List (PySem.W.Frag → Bool) := [fun K => (He.Fa.glo "are_widths").ok K, fun K => (He.Fa.glo "are_words").ok K, fun K => (He.Fa.glo "is_word_of").ok K, fun K => (He.Fa.glo "look_at_rule").ok K, fun K => (He.Fa.glo "is_asked").ok K, fun K => (He.Fa.glo "is_deed").ok K, fun K => (He.Fa.glo "cells_of").ok K, fun K => (He.Fa.glo "do_share").ok K, fun K => (He.Fa.glo "do_clash").ok K, fun K => (He.Fa.glo "clashes").ok K, fun K => (He.Fa.glo "is_free").ok K, fun K => (He.Fa.glo "does_suit").ok K, fun K => (He.Fa.glo "asked_at").ok K, fun K => (He.Fa.glo "starts_for").ok K, fun K => (He.Fa.glo "suiting").ok K, fun K => (He.Fa.glo "let_starts").ok K, fun K => (He.Fa.glo "gap_of").ok K, fun K => (He.Fa.glo "given_of").ok K, fun K => (He.Fa.glo "counting").ok K, fun K => (He.Fa.glo "start_given").ok K, fun K => (He.Fa.glo "taker").ok K, fun K => (He.Fa.glo "can_be").ok K, fun K => (He.Fa.glo "others_of").ok K, fun K => (He.Fa.glo "is_let_there").ok K, fun K => (He.Fa.glo "with_booking").ok K, fun K => (He.Fa.glo "done_with").ok K, fun K => (He.Fa.glo "has_room").ok K, fun K => (He.Fa.glo "refusal_findings").ok K, fun K => (He.Fa.glo "findings_of").ok K, fun K => (He.Fa.glo "led_to").ok K]
def fb_2 : List (PySem.W.Frag → Bool) := [fun K => (He.Fa.glo "replay").ok K, fun K => (He.Fa.glo "first_at").ok K, fun K => (He.Fa.glo "plan").ok K, fun K => (He.Fa.glo "_law_mix").ok K, fun K => (He.Fa.glo "_law_next").ok K, fun K => (He.Fa.glo "_law_rule").ok K, fun K => (He.Fa.glo "_law_hall").ok K, fun K => (He.Fa.glo "_law_built").ok K, fun K => (He.Fa.glo "_law_every").ok K, fun K => (He.Fa.glo "_law_cells").ok K, fun K => (He.Fa.glo "_law_clash").ok K, fun K => (He.Fa.glo "_law_free").ok K, fun K => (He.Fa.glo "_law_suits").ok K, fun K => (He.Fa.glo "_law_row").ok K, fun K => (He.Fa.glo "_law_suiting").ok K, fun K => (He.Fa.glo "_law_gap").ok K, fun K => (He.Fa.glo "_law_let").ok K, fun K => (He.Fa.glo "_law_given").ok K, fun K => (He.Fa.glo "_law_taker").ok K, fun K => (He.Fa.glo "_law_may").ok K, fun K => (He.Fa.glo "_law_nearer").ok K, fun K => (He.Fa.glo "_law_fits").ok K, fun K => (He.Fa.glo "_law_change").ok K, fun K => (He.Fa.glo "_law_do").ok K, fun K => (He.Fa.glo "_law_able").ok K, fun K => (He.Fa.glo "_law_start").ok K, fun K => (He.Fa.glo "_law_plan").ok K, fun K => (He.Fa.glo "law").ok K, fun K => (He.Fa.cls "Done").ok K, fun K => (He.Fa.noat "Done" "answer").ok K]
def fb_3 : List (PySem.W.Frag → Bool) := [fun K => (He.Fa.noat "Done" "behind").ok K, fun K => (He.Fa.noat "Done" "own").ok K, fun K => (He.Fa.cls "Record").ok K, fun K => (He.Fa.noat "Record" "answers").ok K, fun K => (He.Fa.noat "Record" "at").ok K, fun K => (He.Fa.noat "Record" "place").ok K, fun K => (He.Fa.noat "Record" "told_findings").ok K, fScls "Hall", fSlot "Hall" "many_days" 0, fSlot "Hall" "many_parts" 1, fSlot "Hall" "own_longest" 2, fSlot "Hall" "own_widths" 3, fSlot "Hall" "points" 4, fSlot "Hall" "told_words" 5, fProp "Record" "bookings", fProp "Record" "found", fProp "Record" "told", fun K => (He.Fa.meth "Record" "take_in").ok K, fLen "Record", fun K => (He.Fa.mkr "Done").ok K, fun K => (He.Fa.glo "Done").ok K, fun K => (He.Fa.mkr "Hall").ok K, fun K => (He.Fa.glo "Hall").ok K, fun K => (He.Fa.mkr "Record").ok K, fun K => (He.Fa.glo "Record").ok K]
def fb : List (PySem.W.Frag → Bool) := fb_0 ++ fb_1 ++ fb_2 ++ fb_3
def fn_0 : List FnA := [⟨gloA "is_integer", "is_integer", "is_integer", s_is_integer⟩, ⟨gloA "is_between", "is_between", "is_between", s_is_between⟩, ⟨gloA "are_widths", "are_widths", "are_widths", s_are_widths⟩, ⟨gloA "are_words", "are_words", "are_words", s_are_words⟩, ⟨gloA "is_word_of", "is_word_of", "is_word_of", s_is_word_of⟩, ⟨gloA "look_at_rule", "look_at_rule", "look_at_rule", s_look_at_rule⟩, ⟨gloA "is_asked", "is_asked", "is_asked", s_is_asked⟩, ⟨gloA "is_deed", "is_deed", "is_deed", s_is_deed⟩, ⟨gloA "cells_of", "cells_of", "cells_of", s_cells_of⟩, ⟨gloA "do_share", "do_share", "do_share", s_do_share⟩, ⟨gloA "do_clash", "do_clash", "do_clash", s_do_clash⟩, ⟨gloA "clashes", "clashes", "clashes", s_clashes⟩, ⟨gloA "is_free", "is_free", "is_free", s_is_free⟩, ⟨gloA "does_suit", "does_suit", "does_suit", s_does_suit⟩, ⟨gloA "asked_at", "asked_at", "asked_at", s_asked_at⟩, ⟨gloA "starts_for", "starts_for", "starts_for", s_starts_for⟩, ⟨gloA "suiting", "suiting", "suiting", s_suiting⟩, ⟨gloA "let_starts", "let_starts", "let_starts", s_let_starts⟩, ⟨gloA "gap_of", "gap_of", "gap_of", s_gap_of⟩, ⟨gloA "given_of", "given_of", "given_of", s_given_of⟩, ⟨gloA "counting", "counting", "counting", s_counting⟩, ⟨gloA "start_given", "start_given", "start_given", s_start_given⟩, ⟨gloA "taker", "taker", "taker", s_taker⟩, ⟨gloA "can_be", "can_be", "can_be", s_can_be⟩, ⟨gloA "others_of", "others_of", "others_of", s_others_of⟩, ⟨gloA "is_let_there", "is_let_there", "is_let_there", s_is_let_there⟩, ⟨gloA "with_booking", "with_booking", "with_booking", s_with_booking⟩, ⟨metA "Done" "__init__", "__init__", "Done.__init__", s_Done___init__⟩, ⟨gloA "done_with", "done_with", "done_with", s_done_with⟩, ⟨gloA "has_room", "has_room", "has_room", s_has_room⟩]
def fn_1 : List FnA := [⟨gloA "refusal_findings", "refusal_findings", "refusal_findings", s_refusal_findings⟩, ⟨gloA "findings_of", "findings_of", "findings_of", s_findings_of⟩, ⟨gloA "led_to", "led_to", "led_to", s_led_to⟩, ⟨metA "Record" "take_in", "take_in", "Record.take_in", s_Record_take_in⟩, ⟨metA "Record" "__init__", "__init__", "Record.__init__", s_Record___init__⟩, ⟨gloA "replay", "replay", "replay", s_replay⟩, ⟨gloA "first_at", "first_at", "first_at", s_first_at⟩, ⟨gloA "plan", "plan", "plan", s_plan⟩, ⟨gloA "_law_mix", "_law_mix", "_law_mix", s__law_mix⟩, ⟨gloA "_law_next", "_law_next", "_law_next", s__law_next⟩, ⟨gloA "_law_rule", "_law_rule", "_law_rule", s__law_rule⟩, ⟨gloA "_law_hall", "_law_hall", "_law_hall", s__law_hall⟩, ⟨metA "Hall" "__init__", "__init__", "Hall.__init__", s_Hall___init__⟩, ⟨gloA "_law_built", "_law_built", "_law_built", s__law_built⟩, ⟨gloA "_law_every", "_law_every", "_law_every", s__law_every⟩, ⟨gloA "_law_cells", "_law_cells", "_law_cells", s__law_cells⟩, ⟨gloA "_law_clash", "_law_clash", "_law_clash", s__law_clash⟩, ⟨gloA "_law_free", "_law_free", "_law_free", s__law_free⟩, ⟨gloA "_law_suits", "_law_suits", "_law_suits", s__law_suits⟩, ⟨gloA "_law_row", "_law_row", "_law_row", s__law_row⟩, ⟨gloA "_law_suiting", "_law_suiting", "_law_suiting", s__law_suiting⟩, ⟨gloA "_law_gap", "_law_gap", "_law_gap", s__law_gap⟩, ⟨gloA "_law_let", "_law_let", "_law_let", s__law_let⟩, ⟨gloA "_law_given", "_law_given", "_law_given", s__law_given⟩, ⟨gloA "_law_taker", "_law_taker", "_law_taker", s__law_taker⟩, ⟨gloA "_law_may", "_law_may", "_law_may", s__law_may⟩, ⟨gloA "_law_nearer", "_law_nearer", "_law_nearer", s__law_nearer⟩, ⟨gloA "_law_fits", "_law_fits", "_law_fits", s__law_fits⟩, ⟨gloA "_law_change", "_law_change", "_law_change", s__law_change⟩, ⟨gloA "_law_do", "_law_do", "_law_do", s__law_do⟩]
def fn_2 : List FnA := [⟨gloA "_law_able", "_law_able", "_law_able", s__law_able⟩, ⟨gloA "_law_start", "_law_start", "_law_start", s__law_start⟩, ⟨gloA "_law_plan", "_law_plan", "_law_plan", s__law_plan⟩, ⟨metA "Record" "__len__", "__len__", "Record.__len__", s_Record___len__⟩, ⟨getA "Record" "bookings", "bookings", "Record.bookings", s_Record_bookings⟩, ⟨getA "Record" "found", "found", "Record.found", s_Record_found⟩, ⟨getA "Record" "told", "told", "Record.told", s_Record_told⟩, ⟨gloA "law", "law", "law", s_law⟩, ⟨getA "Hall" "parts", "parts", "Hall.parts", s_Hall_parts⟩, ⟨getA "Hall" "days", "days", "Hall.days", s_Hall_days⟩, ⟨getA "Hall" "widths", "widths", "Hall.widths", s_Hall_widths⟩, ⟨getA "Hall" "longest", "longest", "Hall.longest", s_Hall_longest⟩, ⟨getA "Hall" "rule", "rule", "Hall.rule", s_Hall_rule⟩, ⟨getA "Hall" "words", "words", "Hall.words", s_Hall_words⟩, ⟨metA "Hall" "frame", "frame", "Hall.frame", s_Hall_frame⟩]
def fn : List FnA := fn_0 ++ fn_1 ++ fn_2
def ts_0 : List He.Tab := [(fun K => He.ga K "POINTS", ["checking", "giving", "holding", "places"]), (fun K => He.ga K "SIZES", ["ask", "hold", "cancel", "firm", "lapse", "longer", "move"])]
def ts : List He.Tab := ts_0
def loose_0 : List PySem.Str := ["_wall", "HallError", "InvalidSize", "InvalidWidths", "InvalidRule", "InvalidWords", "InvalidDeed", "MOST_PARTS", "MOST_DAYS", "POINTS", "WORDS", "is_integer", "is_between", "are_widths", "are_words", "is_word_of", "look_at_rule", "Hall", "ASK", "HOLD", "CANCEL", "FIRM", "LAPSE", "LONGER", "MOVE", "SIZES", "is_deed", "is_asked", "cells_of", "do_share"]
def loose_1 : List PySem.Str := ["do_clash", "clashes", "is_free", "does_suit", "asked_at", "starts_for", "suiting", "let_starts", "gap_of", "given_of", "counting", "start_given", "taker", "can_be", "others_of", "is_let_there", "with_booking", "Done", "done_with", "has_room", "refusal_findings", "findings_of", "led_to", "Record", "replay", "first_at", "plan", "_law_mix", "_law_next", "_law_rule"]
def loose_2 : List PySem.Str := ["_law_hall", "_law_built", "_law_every", "_law_cells", "_law_clash", "_law_free", "_law_suits", "_law_row", "_law_suiting", "_law_gap", "_law_let", "_law_given", "_law_taker", "_law_may", "_law_nearer", "_law_fits", "_law_change", "_law_do", "_law_able", "_law_start", "_law_plan"]
def loose : List PySem.Str := loose_0 ++ loose_1 ++ loose_2
abbrev R : PySem.W.OpenRow := PySem.W.OpenLaw.row PySem.Challenge.rw_hallstretch_k01_whole_records
def addrs : List Addr := [3, 6, 4, 21, 31, 44, 56, 75, 87, 106, 109, 114, 121, 128, 133, 138, 145, 150, 236, 245, 252, 259, 264, 271, 278, 283, 288, 295, 302, 309, 314, 319, 326, 331, 336, 343, 350, 355, 360, 367, 372, 389, 398, 405, 410, 417, 424, 477, 488, 495, 500, 507, 514, 521, 526, 533, 538, 543, 548, 553, 558, 565, 570, 577, 584, 589, 594, 599, 604, 611, 616, 621, 626, 633, 640, 645, 0, 20, 30, 43, 55, 74, 86, 105, 110, 111, 112, 113, 120, 127, 132, 137, 144, 149, 235, 251, 258, 263, 270, 277, 282, 287, 294, 301, 308, 313, 318, 325, 330, 335, 342, 349, 354, 359, 366, 371, 388, 397, 404, 409, 416, 423, 476, 487, 494, 499, 506, 513, 520, 525, 532, 537, 542, 547, 552, 557, 564, 569, 576, 583, 588, 593, 598, 603, 610, 615, 620, 625, 632, 639, 644, 15, 16, 17, 18, 19, 29, 32, 42, 54, 72, 73, 85, 103, 104, 115, 116, 117, 118, 119, 122, 123, 124, 125, 126, 129, 130, 131, 134, 135, 136, 139, 140, 141, 142, 143, 146, 147, 148, 158, 163, 171, 179, 187, 195, 203, 211, 218, 225, 232, 233, 237, 238, 239, 240, 241, 242, 246, 247, 248, 249, 250, 253, 254, 255, 256, 257, 260, 261, 262, 265, 266, 267, 268, 269, 272, 273, 274, 275, 276, 279, 280, 281, 284, 285, 286, 289, 290, 291, 292, 293, 296, 297, 298, 299, 300, 303, 304, 305, 306, 307, 310, 311, 312, 315, 316, 317, 320, 321, 322, 323, 324, 327, 328, 329, 332, 333, 334, 337, 338, 339, 340, 341, 344, 345, 346, 347, 348, 351, 352, 353, 356, 357, 358, 361, 362, 363, 364, 365, 368, 369, 370, 386, 387, 390, 391, 394, 395, 396, 399, 400, 401, 402, 403, 406, 407, 408, 411, 412, 413, 414, 415, 418, 419, 420, 421, 422, 438, 446, 454, 462, 469, 474, 475, 478, 479, 482, 483, 484, 485, 486, 489, 490, 491, 492, 493, 496, 497, 498, 501, 502, 503, 504, 505, 508, 509, 510, 511, 512, 515, 516, 517, 518, 519, 522, 523, 524, 527, 528, 529, 530, 531, 534, 535, 536, 539, 540, 541, 544, 545, 546, 549, 550, 551, 554, 555, 556, 559, 560, 561, 562, 563, 566, 567, 568, 571, 572, 573, 574, 575, 578, 579, 580, 581, 582, 585, 586, 587, 590, 591, 592, 595, 596, 597, 600, 601, 602, 605, 606, 607, 608, 609, 612, 613, 614, 617, 618, 619, 622, 623, 624, 627, 628, 629, 630, 631, 634, 635, 636, 637, 638, 641, 642, 643, 71, 102, 162, 170, 178, 186, 194, 202, 210, 217, 224, 231, 385, 437, 445, 453, 461, 468, 473, 66, 67, 68, 69, 70, 97, 98, 99, 100, 101, 159, 160, 161, 169, 177, 185, 193, 201, 209, 212, 213, 214, 215, 216, 219, 220, 221, 222, 223, 226, 227, 228, 229, 230, 380, 381, 382, 383, 384, 432, 433, 434, 435, 436, 444, 452, 460, 463, 464, 465, 466, 467, 470, 471, 472, 164, 165, 166, 167, 168, 172, 173, 174, 175, 176, 180, 181, 182, 183, 184, 188, 189, 190, 191, 192, 196, 197, 198, 199, 200, 204, 205, 206, 207, 208, 439, 440, 441, 442, 443, 447, 448, 449, 450, 451, 455, 456, 457, 458, 459]
abbrev hk : PySem.W.Hook := hookA addrs fb fn ts
def ob (s : PySem.W.SharedT) : AlY := obsYA addrs fb fn ts (HandSHeadRun.getT s)
theorem ob_eq (s : PySem.W.SharedT) : ob s = hk.obs s.abs := obsYA_eq (HandSHeadRun.getT_eq s)
theorem run_true (w : World) : HandSHeadRun.RunEq R (PySem.W.view R.prog [86]) hk ob 6000 loose (w.withFollow "special-get-raises" true) := by
  intro os
  kernel_rfl
theorem run_false (w : World) : HandSHeadRun.RunEq R (PySem.W.view R.prog [86]) hk ob 6000 loose (w.withFollow "special-get-raises" false) := by
  intro os
  kernel_rfl
theorem run (w : World) : HandSHeadRun.RunEq R (PySem.W.view R.prog [86]) hk ob 6000 loose w := PySem.W.byRow2 "special-get-raises" (P := fun w => HandSHeadRun.RunEq R (PySem.W.view R.prog [86]) hk ob 6000 loose w) run_false run_true w
def LawAt (w : World) (K : PySem.W.Frag) (mg : PySem.Str → Option Value) (f : Addr) (gl : GCall) : Prop := ∃ fd : FuncData, (∀ (s : Shared) (v : Value), BindsTo s fd ⟨[v], []⟩ [("_law_script", v)]) ∧ ∀ base : Heap, K.In base → base.Ns mainGlobals mg → FnOk (PySem.Challenge.rw_hallstretch_k01_whole_records).prog w K mg base CX0 60 f fd ["_law_script"] (sp0 1 (cOf (PySem.Challenge.rw_hallstretch_k01_whole_records).prog w K cnames) gl)
end Zk01
open PySem PySem.W PySem.Calls PyProof.Rows in
theorem Zk01.holds_of (gl : Q.GCall) (lo : ∀ {w : World} {K : PySem.W.Frag} {h : Heap} {mg : PySem.Str → Option Value} {f : Addr}, K.In h → h.Ns mainGlobals mg → mg ("law" : PySem.Str) = some (.ref f) → Q.SaysY Zk01.fb Zk01.fn Zk01.ts w K → Zk01.LawAt w K mg f gl)
    (g : ∀ ns : List Int, ns.length ≤ 63 → ∃ st, gl [.p (.scr ns)] [] = .ok (.p (.bl true)) st) : PySem.Challenge.rw_hallstretch_k01_whole_records.Holds := by
  w_on; o_law
  refine HandSHeadRun.head_any (r := OpenLaw.row PySem.Challenge.rw_hallstretch_k01_whole_records) (q := view (OpenLaw.row PySem.Challenge.rw_hallstretch_k01_whole_records).prog [86]) (H := Zk01.hk) (ob := Zk01.ob) (M := 6000) (loose := Zk01.loose) (d := HandSHeadRun.topDef (OpenLaw.row PySem.Challenge.rw_hallstretch_k01_whole_records).prog 86) (kwd := []) Zk01.ob_eq
    (by kernel_rfl) (fun s => by kernel_rfl) Zk01.run (by kernel_rfl) (by kernel_rfl) (by kernel_rfl) (by rfl) (by first | assumption | decide +kernel) (by decide +kernel) ⟨rfl, rfl, rfl, rfl, rfl, by decide +kernel⟩ ?hw ?hc
  case hw => w_witness2
  case hc =>
    refine L2.walk_ofE (l := PySem.Challenge.rw_hallstretch_k01_whole_records) (n := 63) (k := 60) (x := "_law_script") (CX := L2.CX0) rfl (by decide) (by kernel_rfl) ⟨rfl, by decide, by decide⟩ ?F (fun _ _ _ _ z => z)
    intro w mg fa h Y G hmg0
    obtain ⟨K, KX, c⟩ := Y
    have hmg : mg ("law" : PySem.Str) = some (.ref fa) := by
      have e : (HandSHeadRun.topDef (OpenLaw.row PySem.Challenge.rw_hallstretch_k01_whole_records).prog 86).name = ("law" : PySem.Str) := by kernel_rfl
      rw [← e]
      exact hmg0
    obtain ⟨fd, hb, hF⟩ := lo KX G hmg c
    exact ⟨K, fd, _, KX, hb, fun H a ns hl _ hS => Q.sp_law (C := Q.cOf (PySem.Challenge.rw_hallstretch_k01_whole_records).prog w K Zk01.cnames) hS (g ns hl), hF⟩

set_option Elab.async false
set_option linter.all false
set_option maxRecDepth 100000
/-! V1: reckoning with what defs say: one row a construct, for simp. -/
namespace Q
open PySem L2
section
variable {st st1 st2 : Store} {env : Env} {α β : Type}
@[simp] theorem bind_ite {c : Prop} [Decidable c] (a b : R α) (k : α → Store → R β) : R.bind (if c then a else b) k = if c then R.bind a k else R.bind b k := by split <;> rfl
@[simp] theorem eVar_ap (i : Nat) : eVar i env st = match env[i]? with
  | some (some v) => .ok v st
  | _ => .stuck := rfl
@[simp] theorem eC_ap (p : P) : eC p env st = .ok (.p p) st := rfl
@[simp] theorem eBin_ap (g : GOp) (a b : XE) : eBin g a b env st = (a env st).bind fun u st => (b env st).bind fun v st => g u v st := rfl
/-- a value as a test -/
def toB (u : S) (st : Store) : R Bool := match u with
  | .p (.bl b) => .ok b st
  | _ => .stuck
@[simp] theorem toB_bl (b : Bool) : toB (.p (.bl b)) st = .ok b st := rfl
theorem tOf_ap (a : XE) : tOf a env st = (a env st).bind toB := rfl
theorem tOf_ok {a : XE} {b : Bool} (h : a env st = .ok (.p (.bl b)) st1) : tOf a env st = .ok b st1 := by rw [tOf_ap, h]; rfl
@[simp] theorem tOf_and' (fa fb : XE) : tOf (eAnd fa fb) env st = (tOf fa env st).bind fun t st => if t = true then tOf fb env st else .ok false st := tOf_and fa fb env st
@[simp] theorem tOf_or' (fa fb : XE) : tOf (eOr fa fb) env st = (tOf fa env st).bind fun t st => if t = true then .ok true st else tOf fb env st := tOf_or fa fb env st
@[simp] theorem tOf_not' (fa : XE) : tOf (eNot fa) env st = (tOf fa env st).bind fun t st => .ok (!t) st := tOf_not fa env st
@[simp] theorem tOf_var (i : Nat) : tOf (eVar i) env st = (eVar i env st).bind toB := rfl
@[simp] theorem tOf_c (p : P) : tOf (eC p) env st = toB (.p p) st := rfl
@[simp] theorem tOf_bin (g : GOp) (a b : XE) : tOf (eBin g a b) env st = (eBin g a b env st).bind toB := rfl
@[simp] theorem tOf_chain (g g' : GOp) (a b c : XE) : tOf (eChain g g' a b c) env st = (eChain g g' a b c env st).bind toB := rfl
@[simp] theorem tOf_call (n : Nat) (g : GCall) (a : XA) : tOf (eCall n g a) env st = (eCall n g a env st).bind toB := rfl
@[simp] theorem tOf_callB (g : GCall) (a : XA) : tOf (eCallB g a) env st = (eCallB g a env st).bind toB := rfl
@[simp] theorem tOf_isT (T : String) (a : XE) : tOf (eIsT T a) env st = (eIsT T a env st).bind toB := rfl
@[simp] theorem eAnd_ap (a b : XE) : eAnd a b env st = (tOf a env st).bind fun t st => if t = true then b env st else .ok (.p (.bl false)) st := by
  unfold eAnd tOf
  cases a env st with
  | ok u st' =>
    cases u with
    | c n => rfl
    | p x => cases x with
      | bl b => cases b <;> rfl
      | _ => rfl
  | exc c fs st' => rfl
  | stuck => rfl
@[simp] theorem eOr_ap (a b : XE) : eOr a b env st = (tOf a env st).bind fun t st => if t = true then .ok (.p (.bl true)) st else b env st := by
  unfold eOr tOf
  cases a env st with
  | ok u st' =>
    cases u with
    | c n => rfl
    | p x => cases x with
      | bl b => cases b <;> rfl
      | _ => rfl
  | exc c fs st' => rfl
  | stuck => rfl
@[simp] theorem eNot_ap (a : XE) : eNot a env st = (tOf a env st).bind fun t st => .ok (.p (.bl (!t))) st := by
  unfold eNot tOf
  cases a env st with
  | ok u st' =>
    cases u with
    | c n => rfl
    | p x => cases x <;> rfl
  | exc c fs st' => rfl
  | stuck => rfl
@[simp] theorem eIf_ap (c a b : XE) : eIf c a b env st = (tOf c env st).bind fun t st => if t = true then a env st else b env st := rfl
@[simp] theorem eChain_ap (g g' : GOp) (a b c : XE) : eChain g g' a b c env st = (a env st).bind fun u st => (b env st).bind fun v st => ((g u v st).bind toB).bind fun z st => if z = true then (c env st).bind fun w st => g' v w st else .ok (.p (.bl false)) st := by
  unfold eChain
  cases a env st with
  | ok u st1 =>
    simp only [R.bind_ok]
    cases b env st1 with
    | ok v st2 =>
      simp only [R.bind_ok]
      cases g u v st2 with
      | ok z st3 =>
        cases z with
        | c n => rfl
        | p x => cases x with
          | bl b => cases b <;> rfl
          | _ => rfl
      | exc c fs st' => rfl
      | stuck => rfl
    | exc c fs st' => rfl
    | stuck => rfl
  | exc c fs st' => rfl
  | stuck => rfl
@[simp] theorem aNil_ap : aNil env st = .ok [] st := rfl
@[simp] theorem aCons_ap (a : XE) (r : XA) : aCons a r env st = (a env st).bind fun u st => (r env st).bind fun us st => .ok (u :: us) st := rfl
@[simp] theorem aStar_ap (a : XE) (r : XA) : aStar a r env st = (a env st).bind fun u st => match itemsOf st u with
  | some us => (r env st).bind fun vs st => .ok (us ++ vs) st
  | none => .stuck := rfl
@[simp] theorem eTup_ap (a : XA) : eTup a env st = (a env st).bind fun us st => match pureSs us with
  | some ps => if decide (ps.length ≤ 16777216) = true then .ok (.p (.tup ps)) st else .stuck
  | none => .stuck := rfl
@[simp] theorem eLst_ap (a : XA) : eLst a env st = (a env st).bind fun us st => match pureSs us with
  | some ps => if decide (ps.length ≤ 16777216) = true then .ok (.p (.lst ps)) st else .stuck
  | none => .stuck := rfl
@[simp] theorem eLstC_ap (a : XA) : eLstC a env st = (a env st).bind fun us st => if decide (us.length ≤ 16777216) = true then .ok (.c st.length) (st ++ [.lst us]) else .stuck := rfl
@[simp] theorem eCallB_ap (g : GCall) (a : XA) : eCallB g a env st = (a env st).bind g := rfl
@[simp] theorem eCall_ap (n : Nat) (g : GCall) (a : XA) : eCall n g a env st = (a env st).bind fun us st => if us.length = n then (g us st).nox else .stuck := rfl
@[simp] theorem nox_ok (a : α) : (R.ok a st).nox = .ok a st := rfl
@[simp] theorem eFld_ap (cs : List Nat) (f : Str) (a : XE) : eFld cs f a env st = (a env st).bind fun u st => match fldS st u with
  | some (c, fs) => if cs.contains c = true then match fs.lookup f with
      | some s => .ok s st
      | none => .stuck
    else .stuck
  | none => .stuck := rfl
@[simp] theorem eSlt_ap (c i : Nat) (a : XE) : eSlt c i a env st = (a env st).bind fun u st => match sltS st u with
  | some (c', xs) => if c' = c then match xs[i]? with
      | some s => .ok s st
      | none => .stuck
    else .stuck
  | none => .stuck := rfl
@[simp] theorem eMet_ap (c n : Nat) (m : Str) (g : GCall) (o : XE) (a : XA) : eMet c n m g o a env st = (o env st).bind fun u st => match fldS st u with
  | some (c', fs) => if (decide (c' = c) && (fs.lookup m).isNone) = true then (a env st).bind fun us st => if us.length + 1 = n then (g (u :: us) st).nox else .stuck else .stuck
  | none => .stuck := rfl
@[simp] theorem eMetS_ap (c n : Nat) (g : GCall) (o : XE) (a : XA) : eMetS c n g o a env st = (o env st).bind fun u st => match sltS st u with
  | some (c', _) => if c' = c then (a env st).bind fun us st => if us.length + 1 = n then (g (u :: us) st).nox else .stuck else .stuck
  | none => .stuck := rfl
@[simp] theorem ePropS_ap (c : Nat) (g : GCall) (o : XE) : ePropS c g o env st = (o env st).bind fun u st => match sltS st u with
  | some (c', _) => if c' = c then (g [u] st).nox else .stuck
  | none => .stuck := rfl
@[simp] theorem eProp_ap (c : Nat) (g : GCall) (o : XE) : eProp c g o env st = (o env st).bind fun u st => match fldS st u with
  | some (c', _) => if c' = c then (g [u] st).nox else .stuck
  | none => .stuck := rfl
@[simp] theorem eIsT_ap (T : String) (a : XE) : eIsT T a env st = (a env st).bind fun u st => match tyS st u with
  | some S => match kitB S T with
    | some b => .ok (.p (.bl b)) st
    | none => .stuck
  | none => .stuck := rfl
@[simp] theorem eMt_ap (ty : Store → S → Bool) (g : GMt) (o : XE) (a : XA) : eMt ty g o a env st = (o env st).bind fun u st => if ty st u = true then (a env st).bind fun us st => g u us st else .stuck := rfl
@[simp] theorem oNone_ap : oNone env st = .ok none st := rfl
@[simp] theorem oSome_ap (a : XE) : oSome a env st = (a env st).bind fun u st => match u with
  | .p (.int i) => .ok (some i) st
  | _ => .stuck := rfl
@[simp] theorem eSl_ap (a : XE) (lo hi : XO) : eSl a lo hi env st = (a env st).bind fun u st => (lo env st).bind fun l st => (hi env st).bind fun h st => slS u l h st := rfl
/-- what is frozen -/
def frzS (u : S) (st : Store) : R S := match u with
  | .c n => match st[n]? with
    | some c => match frzC c with
      | some x => .ok (.p x) (st.set n .dead)
      | none => .stuck
    | none => .stuck
  | .p x => .ok (.p x) st
@[simp] theorem frzS_p (x : P) : frzS (.p x) st = .ok (.p x) st := rfl
@[simp] theorem eFrz_ap (a : XE) : eFrz a env st = (a env st).bind frzS := rfl
/-! ### statements -/
@[simp] theorem sSet_ap (i : Nat) (a : XE) : sSet i a env st = (a env st).bind fun v st => if i < env.length then .ok (.nx (env.set i (some v))) st else .stuck := rfl
@[simp] theorem sTg_ap (t : Tg) (a : XE) : sTg t a env st = (a env st).bind fun v st => match t.set v env with
  | some e => .ok (.nx e) st
  | none => .stuck := rfl
@[simp] theorem sExpr_ap (a : XE) : sExpr a env st = (a env st).bind fun _ st => .ok (.nx env) st := rfl
@[simp] theorem sRet_ap (a : XE) : sRet a env st = (a env st).bind fun v st => .ok (.rt v) st := rfl
@[simp] theorem sRetN_ap : sRetN env st = .ok (.rt (.p .non)) st := rfl
@[simp] theorem sNext_ap : sNext env st = .ok (.nx env) st := rfl
@[simp] theorem sBreak_ap : sBreak env st = .ok (.bk env) st := rfl
@[simp] theorem sCont_ap : sCont env st = .ok (.ct env) st := rfl
@[simp] theorem sStuck_ap : sStuck env st = .stuck := rfl
/-- what comes behind a statement -/
def thenS (g : XS) (o : O) (st : Store) : R O := match o with
  | .nx e => g e st
  | o => .ok o st
@[simp] theorem thenS_nx (g : XS) (e : Env) : thenS g (.nx e) st = g e st := rfl
@[simp] theorem thenS_rt (g : XS) (v : S) : thenS g (.rt v) st = .ok (.rt v) st := rfl
@[simp] theorem thenS_bk (g : XS) (e : Env) : thenS g (.bk e) st = .ok (.bk e) st := rfl
@[simp] theorem thenS_ct (g : XS) (e : Env) : thenS g (.ct e) st = .ok (.ct e) st := rfl
@[simp] theorem sSeq_ap (f g : XS) : sSeq f g env st = (f env st).bind (thenS g) := rfl
@[simp] theorem sIf_ap (c : XE) (f g : XS) : sIf c f g env st = (tOf c env st).bind fun b st => if b = true then f env st else g env st := rfl
@[simp] theorem sAug_ap (i : Nat) (g : GOp) (a : XE) : sAug i g a env st = match env[i]? with
  | some (some u) => (a env st).bind fun v st => (g u v st).bind fun z st => if i < env.length then .ok (.nx (env.set i (some z))) st else .stuck
  | _ => .stuck := rfl
@[simp] theorem sFor_ap (fi : XI) (t : Tg) (body : XS) : sFor fi t body env st = (fi env st).bind fun items st => forLoop t body items env st := rfl
@[simp] theorem sWhile_ap (n : Nat) (c : XE) (body : XS) : sWhile n c body env st = whileLoop c body n env st := rfl
@[simp] theorem sPar_ap (i j : Nat) (a b : XE) : sPar i j a b env st = (a env st).bind fun u st => (b env st).bind fun v st => if (decide (i < env.length) && decide (j < env.length)) = true then .ok (.nx ((env.set i (some u)).set j (some v))) st else .stuck := rfl
@[simp] theorem sSub_ap (o i v : XE) : sSub o i v env st = (v env st).bind fun y st => (o env st).bind fun u st => (i env st).bind fun k st => match setAt st u k y with
  | some st' => .ok (.nx env) st'
  | none => .stuck := rfl
@[simp] theorem sFldSet_ap (cs : List Nat) (f : Str) (o v : XE) : sFldSet cs f o v env st = (v env st).bind fun y st => (o env st).bind fun u st => match u with
  | .c n => match st[n]? with
    | some (.obj c fs) => if (cs.contains c && decide (fs.length < 1000)) = true then .ok (.nx env) (st.set n (.obj c (putFS f y fs))) else .stuck
    | _ => .stuck
  | _ => .stuck := rfl
@[simp] theorem sSltSet_ap (c i : Nat) (o v : XE) : sSltSet c i o v env st = (v env st).bind fun y st => (o env st).bind fun u st => match u with
  | .c n => match st[n]? with
    | some (.slt c' xs) => if (decide (c' = c) && decide (xs.length = i)) = true then .ok (.nx env) (st.set n (.slt c (xs ++ [y]))) else .stuck
    | _ => .stuck
  | _ => .stuck := rfl
theorem sFrz_ap (i : Nat) (f : XS) : sFrz i f env st = match env[i]? with
  | some (some (.c n)) => match st[n]? with
    | some c => match frzC c with
      | some x => f (env.set i (some (.p x))) (st.set n .dead)
      | none => .stuck
    | none => .stuck
  | _ => f env st := rfl
/-! ### what is walked -/
@[simp] theorem iSeq_ap (a : XE) : iSeq a env st = (a env st).bind fun u st => match frozen u with
  | some us => .ok us st
  | none => .stuck := rfl
@[simp] theorem iRange1_ap (a : XE) : iRange1 a env st = (a env st).bind fun u st => match u with
  | .p (.int j) => if inWord j = true then .ok (rangeS 0 j.toNat) st else .stuck
  | _ => .stuck := rfl
@[simp] theorem iRange2_ap (a b : XE) : iRange2 a b env st = (a env st).bind fun u st => (b env st).bind fun v st => match u, v with
  | .p (.int i), .p (.int j) => if (inWord i && inWord j) = true then .ok (rangeS i (j - i).toNat) st else .stuck
  | _, _ => .stuck := rfl
@[simp] theorem iDict_ap (a : XE) : iDict a env st = (a env st).bind fun u st => match dkeys u with
  | some us => .ok us st
  | none => .stuck := rfl
@[simp] theorem iEnumQ_ap (a : XE) : iEnumQ a env st = (a env st).bind fun u st => match frzL u with
  | some ps => .ok (enumP ps) st
  | none => .stuck := rfl
@[simp] theorem eLstRg1_ap (a : XE) : eLstRg1 a env st = (a env st).bind fun u st => match u with
  | .p (.int j) => if decide (-(2 ^ 62) ≤ j ∧ j ≤ 16777216) = true then .ok (.p (.lst (rgP 0 j))) st else .stuck
  | _ => .stuck := rfl
@[simp] theorem eLstRg2_ap (a b : XE) : eLstRg2 a b env st = (a env st).bind fun u st => (b env st).bind fun v st => match u, v with
  | .p (.int i), .p (.int j) => if decide (-(2 ^ 60) ≤ i ∧ i < 2 ^ 60 ∧ -(2 ^ 60) ≤ j ∧ j < 2 ^ 60 ∧ j - i ≤ 16777216) = true then .ok (.p (.lst (rgP i j))) st else .stuck
  | _, _ => .stuck := rfl
@[simp] theorem eSortSet_ap (a : XE) : eSortSet a env st = (a env st).bind fun u st => match u with
  | .p (.tup ps) => match keysP ps with
    | some ks => if (decide (ks.length ≤ 1000) && sameK ks) = true then .ok (.p (.lst ((sortK ks).map keyP))) st else .stuck
    | none => .stuck
  | .p (.ktup ps) => match keysP ps with
    | some ks => if (decide (ks.length ≤ 1000) && sameK ks) = true then .ok (.p (.lst ((sortK ks).map keyP))) st else .stuck
    | none => .stuck
  | _ => .stuck := rfl
@[simp] theorem eDisp_ap (fs : List (XE × XE)) : eDisp fs env st = (evPairs fs env st).bind fun kvs st => if decide (kvs.length ≤ 15) = true then .ok (.c st.length) (st ++ [.dk (mergeS [] kvs)]) else .stuck := rfl
@[simp] theorem evPairs_nil : evPairs [] env st = .ok [] st := rfl
@[simp] theorem evPairs_cons (fk fv : XE) (r : List (XE × XE)) : evPairs ((fk, fv) :: r) env st = (fk env st).bind fun u st => (fv env st).bind fun y st => match asKeyS u with
    | some k => (evPairs r env st).bind fun kvs st => .ok ((k, y) :: kvs) st
    | none => .stuck := rfl
/-! ### operators by values -/
@[simp] theorem gSub_int (i j : Int) : gSub (.p (.int i)) (.p (.int j)) st = .ok (.p (.int (i - j))) st := rfl
@[simp] theorem gAdd_int (i j : Int) : gAdd (.p (.int i)) (.p (.int j)) st = .ok (.p (.int (i + j))) st := rfl
@[simp] theorem gAdd_tup (xs ys : List P) : gAdd (.p (.tup xs)) (.p (.tup ys)) st = if decide (xs.length + ys.length ≤ 16777216) = true then .ok (.p (.tup (xs ++ ys))) st else .stuck := rfl
@[simp] theorem gAdd_lst (xs ys : List P) : gAdd (.p (.lst xs)) (.p (.lst ys)) st = if decide (xs.length + ys.length ≤ 16777216) = true then .ok (.p (.lst (xs ++ ys))) st else .stuck := rfl
@[simp] theorem gAdd_str (x y : Str) : gAdd (.p (.str x)) (.p (.str y)) st = if decide (x.length + y.length ≤ 16777216) = true then .ok (.p (.str (x ++ y))) st else .stuck := rfl
@[simp] theorem gAdd_cell (n : Nat) (ys : List P) : gAdd (.c n) (.p (.lst ys)) st = match lookP st (.c n) with
    | some (.lst xs) => if decide (xs.length + ys.length ≤ 16777216) = true then .ok (.p (.lst (xs ++ ys))) st else .stuck
    | _ => .stuck := rfl
@[simp] theorem gMod_int (i j : Int) : gMod (.p (.int i)) (.p (.int j)) st = if decide (0 < j) = true then .ok (.p (.int (i % j))) st else .stuck := rfl
@[simp] theorem gDiv_int (i j : Int) : gDiv (.p (.int i)) (.p (.int j)) st = if decide (0 < j ∧ j < 1073741824) = true then .ok (.p (.int (i / j))) st else .stuck := rfl
@[simp] theorem gLt_int (i j : Int) : gLt (.p (.int i)) (.p (.int j)) st = .ok (.p (.bl (decide (i < j)))) st := rfl
@[simp] theorem gLe_int (i j : Int) : gLe (.p (.int i)) (.p (.int j)) st = .ok (.p (.bl (decide (i ≤ j)))) st := rfl
@[simp] theorem gGt_int (i j : Int) : gGt (.p (.int i)) (.p (.int j)) st = .ok (.p (.bl (decide (j < i)))) st := rfl
@[simp] theorem gGe_int (i j : Int) : gGe (.p (.int i)) (.p (.int j)) st = .ok (.p (.bl (decide (j ≤ i)))) st := rfl
@[simp] theorem gInt_int (f : Int → Int → P) (ok : Int → Int → Bool) (i j : Int) : gInt f ok (.p (.int i)) (.p (.int j)) st = if ok i j = true then .ok (.p (f i j)) st else .stuck := rfl
theorem gEqD_of {u v : S} {d e : PyData} (neg : Bool) (hu : dataOf st u = some d) (hv : dataOf st v = some e) : gEqD neg u v st = .ok (.p (.bl (if neg = true then !PyData.eqv d e else PyData.eqv d e))) st := by
  unfold gEqD
  rw [hu, hv]
/-! ### defs -/
theorem eqSt_self (st : Store) : eqSt st st = true := by first | exact eqSt_refl st | exact eqSt_refl
theorem gDef_of {N : Nat} {f : XS} {us : List S} {p : P} (h : runF N f us st = .ok (.p p) st) : gDef N f us st = .ok (.p p) st := by
  unfold gDef clean
  rw [h]
  simp [eqSt_self]
theorem gDef_new {N : Nat} {f : XS} {us : List S} {p : P} {new : Store} (h : runF N f us st = .ok (.p p) (st ++ new)) : gDef N f us st = .ok (.p p) st := by
  unfold gDef clean
  rw [h]
  simp [eqSt_self]
theorem gDef_cell {N : Nat} {f : XS} {us : List S} {n : Nat} (h : runF N f us st = .ok (.c n) st1) : gDef N f us st = .ok (.c n) st1 := by
  unfold gDef clean
  rw [h]
/-- how a body ends -/
def endS (o : O) (st : Store) : R S := match o with
  | .nx _ => .ok (.p .non) st
  | .rt v => .ok v st
  | _ => .stuck
@[simp] theorem endS_nx (e : Env) : endS (.nx e) st = .ok (.p .non) st := rfl
@[simp] theorem endS_rt (v : S) : endS (.rt v) st = .ok v st := rfl
theorem runF_ap (N : Nat) (f : XS) (us : List S) : runF N f us st = (f (us.map some ++ List.replicate (N - us.length) none) st).bind endS := rfl
end
end Q

set_option Elab.async false
set_option linter.all false
set_option maxRecDepth 100000
/-! V2: comprehensions and loops by what they give. -/
namespace Q
open PySem L2
section
variable {st st1 : Store} {env : Env} {α β γ : Type}
theorem flatMap_one (f : α → β) : ∀ l : List α, (l.flatMap fun x => [f x]) = l.map f
  | [] => rfl
  | x :: r => by simp [flatMap_one f r]
theorem filter_all : ∀ l : List α, (l.filter fun _ => true) = l
  | [] => rfl
  | x :: r => by simp [filter_all r]
theorem clLoop_flat {t : Tg} {ft : XT} {inner : XN γ} {st : Store} (enc : α → P) (c : α → Bool) (f : α → List γ) : ∀ {xs : List α}, (∀ x ∈ xs, ∃ env1, t.set (.p (enc x)) env = some env1 ∧ ft env1 st = .ok (c x) st ∧ (c x = true → inner env1 st = some (f x, st))) →
    clLoop t ft inner env (xs.map fun x => S.p (enc x)) st = some ((xs.filter c).flatMap f, st)
  | [], _ => rfl
  | x :: r, h => by
    obtain ⟨env1, h1, h2, h3⟩ := h x (.head _)
    have ih := clLoop_flat (t := t) (ft := ft) (inner := inner) enc c f (xs := r) fun y hy => h y (.tail _ hy)
    simp only [List.map_cons, clLoop, h1, h2]
    cases hc : c x with
    | true =>
      simp only [h3 hc, ih, hc]
      simp [List.filter_cons, hc]
    | false =>
      simp only [ih]
      simp [List.filter_cons, hc]
theorem pureSs_mapf (f : α → P) : ∀ xs : List α, pureSs (xs.map fun x => S.p (f x)) = some (xs.map f)
  | [] => rfl
  | x :: r => by simp [pureSs, pureSs_mapf f r]
/-- [f(x) for x in xs if c(x)] -/
theorem comp1 {a : XI} {t : Tg} {V : List Nat} {ft : XT} {fe : XE} (enc : α → P) (c : α → Bool) (f : α → P) {xs : List α} (ha : a env st = .ok (xs.map fun x => S.p (enc x)) st1) (hl : xs.length ≤ 16777216)
    (h : ∀ x ∈ xs, ∃ env1, t.set (.p (enc x)) (wipeE env V) = some env1 ∧ ft env1 st1 = .ok (c x) st1 ∧ (c x = true → fe env1 st1 = .ok (.p (f x)) st1)) :
    eComp fzL a t V ft (nEmit fe) env st = .ok (.p (.lst ((xs.filter c).map f))) st1 := by
  have h1 := clLoop_flat (t := t) (ft := ft) (inner := nEmit fe) (env := wipeE env V) (st := st1) enc c (fun x => [S.p (f x)]) (xs := xs) fun x hx => by
    obtain ⟨e1, h1, h2, h3⟩ := h x hx
    exact ⟨e1, h1, h2, fun hc => by simp [nEmit, h3 hc]⟩
  have h2 : (xs.filter c).flatMap (fun x => [S.p (f x)]) = (xs.filter c).map fun x => S.p (f x) := flatMap_one _ _
  have h3 : (xs.filter c).length ≤ 16777216 := Nat.le_trans (List.length_filter_le _ _) hl
  simp only [eComp, ha, R.bind_ok, h1, h2, fzL, pureSs_mapf]
  simp [h3]
/-- .. without a test -/
theorem comp0 {a : XI} {t : Tg} {V : List Nat} {fe : XE} (enc : α → P) (f : α → P) {xs : List α} (ha : a env st = .ok (xs.map fun x => S.p (enc x)) st1) (hl : xs.length ≤ 16777216)
    (h : ∀ x ∈ xs, ∃ env1, t.set (.p (enc x)) (wipeE env V) = some env1 ∧ fe env1 st1 = .ok (.p (f x)) st1) :
    eComp fzL a t V tYesQ (nEmit fe) env st = .ok (.p (.lst (xs.map f))) st1 := by
  have := comp1 (ft := tYesQ) (a := a) (V := V) (st := st) enc (fun _ => true) f ha hl fun x hx => by
    obtain ⟨e1, h1, h2⟩ := h x hx
    exact ⟨e1, h1, rfl, fun _ => h2⟩
  rw [this, filter_all]
theorem flatMap_len {f : α → List β} {n : Nat} : ∀ {xs : List α}, (∀ x ∈ xs, (f x).length ≤ n) → (xs.flatMap f).length ≤ xs.length * n
  | [], _ => by simp
  | x :: r, h => by
    have h1 := h x (.head _)
    have h2 := flatMap_len (f := f) (n := n) (xs := r) fun y hy => h y (.tail _ hy)
    simp only [List.flatMap_cons, List.length_append, List.length_cons]
    rw [Nat.succ_mul]; omega
/-- two clauses; the first without a test -/
theorem comp2 {a : XI} {t t2 : Tg} {V V2 : List Nat} {a2 : XI} {ft2 : XT} {fe : XE} (enc : α → P) (enc2 : α → β → P) (ys : α → List β) (c : α → β → Bool) (f : α → β → P) {xs : List α} (ha : a env st = .ok (xs.map fun x => S.p (enc x)) st1)
    (hl : ((xs.flatMap fun x => ((ys x).filter (c x)).map (f x))).length ≤ 16777216)
    (h : ∀ x ∈ xs, ∃ env1, t.set (.p (enc x)) (wipeE env V) = some env1 ∧ a2 env1 st1 = .ok ((ys x).map fun y => S.p (enc2 x y)) st1 ∧
      ∀ y ∈ ys x, ∃ env2, t2.set (.p (enc2 x y)) (wipeE env1 V2) = some env2 ∧ ft2 env2 st1 = .ok (c x y) st1 ∧ (c x y = true → fe env2 st1 = .ok (.p (f x y)) st1)) :
    eComp fzL a t V tYesQ (nCl a2 t2 V2 ft2 (nEmit fe)) env st = .ok (.p (.lst (xs.flatMap fun x => ((ys x).filter (c x)).map (f x)))) st1 := by
  have h1 := clLoop_flat (t := t) (ft := tYesQ) (inner := nCl a2 t2 V2 ft2 (nEmit fe)) (env := wipeE env V) (st := st1) enc (fun _ => true) (fun x => ((ys x).filter (c x)).map fun y => S.p (f x y)) (xs := xs) fun x hx => by
    obtain ⟨e1, h1, h2, h3⟩ := h x hx
    refine ⟨e1, h1, rfl, fun _ => ?_⟩
    have := clLoop_flat (t := t2) (ft := ft2) (inner := nEmit fe) (env := wipeE e1 V2) (st := st1) (enc2 x) (c x) (fun y => [S.p (f x y)]) (xs := ys x) fun y hy => by
      obtain ⟨e2, k1, k2, k3⟩ := h3 y hy
      exact ⟨e2, k1, k2, fun hc => by simp [nEmit, k3 hc]⟩
    simp only [nCl, h2, this]
    rw [flatMap_one]
  have h2 : (xs.flatMap fun x => ((ys x).filter (c x)).map fun y => S.p (f x y)) = (xs.flatMap fun x => ((ys x).filter (c x)).map (f x)).map S.p := by
    rw [List.map_flatMap]; simp [List.map_map, Function.comp_def]
  simp only [eComp, ha, R.bind_ok, h1, filter_all, h2, fzL, pureSs_map]
  rw [if_pos (decide_eq_true hl)]
/-- {k(y): True for x in xs for y in ys(x)} -/
theorem compDT2 {a : XI} {t t2 : Tg} {V V2 : List Nat} {a2 : XI} {fk fv : XE} (enc : α → P) (enc2 : α → β → P) (ys : α → List β) (k : α → β → List Key) (q : α → β → P) (f : α → β → P) {xs : List α} (ha : a env st = .ok (xs.map fun x => S.p (enc x)) st1)
    (hl : (xs.flatMap fun x => ys x).length ≤ 16777216)
    (h : ∀ x ∈ xs, ∃ env1, t.set (.p (enc x)) (wipeE env V) = some env1 ∧ a2 env1 st1 = .ok ((ys x).map fun y => S.p (enc2 x y)) st1 ∧
      ∀ y ∈ ys x, ∃ env2, t2.set (.p (enc2 x y)) (wipeE env1 V2) = some env2 ∧ fk env2 st1 = .ok (.p (q x y)) st1 ∧ asTup (q x y) = some (k x y) ∧ fv env2 st1 = .ok (.p (f x y)) st1) :
    eComp clDT a t V tYesQ (nCl a2 t2 V2 tYesQ (nEmitT fk fv)) env st = .ok (.c st1.length) (st1 ++ [.dt (mergeS [] (xs.flatMap fun x => (ys x).map fun y => (k x y, S.p (f x y))))]) := by
  have h1 := clLoop_flat (t := t) (ft := tYesQ) (inner := nCl a2 t2 V2 tYesQ (nEmitT fk fv)) (env := wipeE env V) (st := st1) enc (fun _ => true) (fun x => (ys x).map fun y => (k x y, S.p (f x y))) (xs := xs) fun x hx => by
    obtain ⟨e1, h1, h2, h3⟩ := h x hx
    refine ⟨e1, h1, rfl, fun _ => ?_⟩
    have := clLoop_flat (t := t2) (ft := tYesQ) (inner := nEmitT fk fv) (env := wipeE e1 V2) (st := st1) (enc2 x) (fun _ => true) (fun y => [(k x y, S.p (f x y))]) (xs := ys x) fun y hy => by
      obtain ⟨e2, k1, k2, k3, k4⟩ := h3 y hy
      exact ⟨e2, k1, rfl, fun hc => by simp [nEmitT, k2, k4, asTupS, k3]⟩
    simp only [nCl, h2, this]
    rw [filter_all, flatMap_one]
  have hl2 : (xs.flatMap fun x => (ys x).map fun y => (k x y, S.p (f x y))).length ≤ 16777216 := by
    have : ∀ l : List α, (l.flatMap fun x => (ys x).map fun y => (k x y, S.p (f x y))).length = (l.flatMap fun x => ys x).length := fun l => by
      induction l with
      | nil => rfl
      | cons x r ih => simp only [List.flatMap_cons, List.length_append, List.length_map, ih]
    rw [this]; exact hl
  simp only [eComp, ha, R.bind_ok, h1, filter_all, clDT]
  rw [if_pos (decide_eq_true hl2)]
/-- what comes behind a while's body -/
def againS (c : XE) (body : XS) (n : Nat) (o : O) (st : Store) : R O := match o with
  | .nx e => whileLoop c body n e st
  | .ct e => whileLoop c body n e st
  | .bk e => .ok (.nx e) st
  | .rt v => .ok (.rt v) st
@[simp] theorem againS_nx (c : XE) (body : XS) (n : Nat) (e : Env) (st : Store) : againS c body n (.nx e) st = whileLoop c body n e st := rfl
@[simp] theorem againS_rt (c : XE) (body : XS) (n : Nat) (v : S) (st : Store) : againS c body n (.rt v) st = .ok (.rt v) st := rfl
theorem whileLoop_succ (c : XE) (body : XS) (n : Nat) (env : Env) (st : Store) : whileLoop c body (n + 1) env st = (tOf c env st).bind fun b st => if b = true then (body env st).bind (againS c body n) else .ok (.nx env) st := rfl
/-- what comes behind a for's body -/
def nextS (t : Tg) (body : XS) (r : List S) (o : O) (st : Store) : R O := match o with
  | .nx e => forLoop t body r e st
  | .ct e => forLoop t body r e st
  | .bk e => .ok (.nx e) st
  | .rt v => .ok (.rt v) st
@[simp] theorem nextS_nx (t : Tg) (body : XS) (r : List S) (e : Env) (st : Store) : nextS t body r (.nx e) st = forLoop t body r e st := rfl
@[simp] theorem nextS_ct (t : Tg) (body : XS) (r : List S) (e : Env) (st : Store) : nextS t body r (.ct e) st = forLoop t body r e st := rfl
@[simp] theorem nextS_rt (t : Tg) (body : XS) (r : List S) (v : S) (st : Store) : nextS t body r (.rt v) st = .ok (.rt v) st := rfl
@[simp] theorem forLoop_nil (t : Tg) (body : XS) (env : Env) (st : Store) : forLoop t body [] env st = .ok (.nx env) st := rfl
theorem forLoop_cons (t : Tg) (body : XS) (s : S) (r : List S) (env : Env) (st : Store) : forLoop t body (s :: r) env st = match t.set s env with
    | none => .stuck
    | some env1 => (body env1 st).bind (nextS t body r) := rfl
/-- a loop that goes through -/
theorem forLoop_inv {t : Tg} {body : XS} (I : Nat → Env → Store → Prop) : ∀ {items : List S} {env : Env} {st : Store} (n : Nat), I n env st →
    (∀ k s env st, items[k]? = some s → I (n + k) env st → ∃ env1 e st', t.set s env = some env1 ∧ (body env1 st = .ok (.nx e) st' ∨ body env1 st = .ok (.ct e) st') ∧ I (n + k + 1) e st') →
    ∃ e st', forLoop t body items env st = .ok (.nx e) st' ∧ I (n + items.length) e st'
  | [], env, st, n, h0, _ => ⟨env, st, rfl, h0⟩
  | s :: r, env, st, n, h0, h => by
    obtain ⟨env1, e, st', h1, h2, h3⟩ := h 0 s env st rfl h0
    obtain ⟨e2, st2, k1, k2⟩ := forLoop_inv (t := t) (body := body) I (items := r) (env := e) (st := st') (n + 1) h3 fun k s env st hk hI => by
      have := h (k + 1) s env st (by simpa using hk) (by rw [show n + (k + 1) = n + 1 + k by omega]; exact hI)
      rw [show n + (k + 1) = n + 1 + k by omega] at this
      exact this
    refine ⟨e2, st2, ?_, by rw [List.length_cons, show n + (r.length + 1) = n + 1 + r.length by omega]; exact k2⟩
    simp only [forLoop, h1]
    rcases h2 with h2 | h2 <;> rw [h2] <;> exact k1
end
end Q

set_option Elab.async false
set_option linter.all false
set_option maxRecDepth 100000
set_option maxHeartbeats 4000000
/-! V3: words, data by classes, more rows for simp. -/
namespace Q
open PySem L2
@[simp] theorem ixs_one (i : Nat) : (Tg.one i).ixs = [i] := rfl
@[simp] theorem ixs_many (is : List Nat) : (Tg.many is).ixs = is := rfl
@[simp] theorem set_one (i : Nat) (s : S) (env : Env) : (Tg.one i).set s env = if i < env.length then some (env.set i (some s)) else none := rfl
@[simp] theorem set_many (is : List Nat) (s : S) (env : Env) : (Tg.many is).set s env = match tupOf s with
    | some us => setMany is us env
    | none => none := rfl
@[simp] theorem ixs_lmany (is : List Nat) : (Tg.lmany is).ixs = is := rfl
@[simp] theorem set_lmany (is : List Nat) (s : S) (env : Env) : (Tg.lmany is).set s env = match lstOf s with
    | some us => setMany is us env
    | none => none := rfl
@[simp] theorem lstOf_lst (l : List P) : lstOf (.p (.lst l)) = some (l.map S.p) := rfl
@[simp] theorem tupOf_tup (l : List P) : tupOf (.p (.tup l)) = some (l.map S.p) := rfl
@[simp] theorem tupOf_ktup (l : List P) : tupOf (.p (.ktup l)) = some (l.map S.p) := rfl
@[simp] theorem setMany_nil (env : Env) : setMany [] [] env = some env := rfl
@[simp] theorem setMany_cons (i : Nat) (r : List Nat) (s : S) (t : List S) (env : Env) : setMany (i :: r) (s :: t) env = if i < env.length then setMany r t (env.set i (some s)) else none := rfl
@[simp] theorem wipeE_nil (env : Env) : wipeE env [] = env := rfl
@[simp] theorem wipeE_cons (env : Env) (v : Nat) (vs : List Nat) : wipeE env (v :: vs) = (wipeE env vs).set v none := rfl
@[simp] theorem pureSs_nil : pureSs [] = some [] := rfl
@[simp] theorem pureSs_cons (x : P) (r : List S) : pureSs (.p x :: r) = match pureSs r with
    | some l => some (x :: l)
    | none => none := rfl
@[simp] theorem pureSs_mapp (l : List P) : pureSs (l.map S.p) = some l := pureSs_map l
@[simp] theorem pureSs_mapp2 (l : List P) (r : List S) : pureSs (l.map S.p ++ r) = match pureSs r with
    | some l' => some (l ++ l')
    | none => none := by
  induction l with
  | nil => simp; cases pureSs r <;> rfl
  | cons x t ih => simp [ih]; cases pureSs r <;> rfl
@[simp] theorem pureSs_mapc {α : Type} (f : α → P) (l : List α) : pureSs (l.map (S.p ∘ f)) = some (l.map f) := by
  rw [← List.map_map]; exact pureSs_map _
@[simp] theorem pureSs_mapc2 {α : Type} (f : α → P) (l : List α) (r : List S) : pureSs (l.map (S.p ∘ f) ++ r) = match pureSs r with
    | some l' => some (l.map f ++ l')
    | none => none := by
  rw [← List.map_map]; exact pureSs_mapp2 _ _
@[simp] theorem tYesQ_ap (env : Env) (st : Store) : tYesQ env st = .ok true st := rfl
@[simp] theorem frozen_tup (l : List P) : frozen (.p (.tup l)) = some (l.map S.p) := rfl
@[simp] theorem frozen_lst (l : List P) : frozen (.p (.lst l)) = some (l.map S.p) := rfl
@[simp] theorem frozen_ktup (l : List P) : frozen (.p (.ktup l)) = some (l.map S.p) := rfl
@[simp] theorem frozen_scr (l : List Int) : frozen (.p (.scr l)) = some (l.map fun n => S.p (.int n)) := rfl
@[simp] theorem itemsOf_tup (st : Store) (l : List P) : itemsOf st (.p (.tup l)) = some (l.map S.p) := rfl
@[simp] theorem itemsOf_ktup (st : Store) (l : List P) : itemsOf st (.p (.ktup l)) = some (l.map S.p) := rfl
@[simp] theorem itemsOf_lst (st : Store) (l : List P) : itemsOf st (.p (.lst l)) = some (l.map S.p) := rfl
@[simp] theorem isDict_tup (st : Store) (l : List P) : isDict st (.p (.tup l)) = false := rfl
@[simp] theorem isDict_lst (st : Store) (l : List P) : isDict st (.p (.lst l)) = false := rfl
@[simp] theorem isDict_ktup (st : Store) (l : List P) : isDict st (.p (.ktup l)) = false := rfl
@[simp] theorem isDict_dk (st : Store) (l : List (Key × P)) : isDict st (.p (.dk l)) = true := rfl
@[simp] theorem isDict_dt (st : Store) (l : List (List Key × P)) : isDict st (.p (.dt l)) = true := rfl
@[simp] theorem isDict_kdk (st : Store) (l : List (Key × P)) : isDict st (.p (.kdk l)) = true := rfl
@[simp] theorem isDict_str (st : Store) (x : Str) : isDict st (.p (.str x)) = false := rfl
@[simp] theorem lookP_p (st : Store) (x : P) : lookP st (.p x) = some x := rfl
/-- x[i] of a tuple or list -/
theorem gIx_tup (l : List P) (i : Int) (st : Store) : gIx (.p (.tup l)) (.p (.int i)) st = match atI (l.map S.p) i with
  | some z => .ok z st
  | none => .stuck := rfl
theorem gIx_lst (l : List P) (i : Int) (st : Store) : gIx (.p (.lst l)) (.p (.int i)) st = match atI (l.map S.p) i with
  | some z => .ok z st
  | none => .stuck := rfl
theorem atI_nat' {α : Type} {xs : List α} {k : Nat} (h : k < xs.length) : atI xs (k : Int) = xs[k]? := by
  unfold atI ixN
  rw [if_pos (by omega), if_pos (by omega)]
  simp
@[simp] theorem atI_0 {α : Type} (x : α) (r : List α) : atI (x :: r) 0 = some x := by rw [show (0 : Int) = ((0 : Nat) : Int) from rfl, atI_nat' (by simp)]; rfl
@[simp] theorem atI_1 {α : Type} (a x : α) (r : List α) : atI (a :: x :: r) 1 = some x := by rw [show (1 : Int) = ((1 : Nat) : Int) from rfl, atI_nat' (by simp)]; rfl
@[simp] theorem atI_2 {α : Type} (a b x : α) (r : List α) : atI (a :: b :: x :: r) 2 = some x := by rw [show (2 : Int) = ((2 : Nat) : Int) from rfl, atI_nat' (by simp)]; rfl
@[simp] theorem atI_3 {α : Type} (a b c x : α) (r : List α) : atI (a :: b :: c :: x :: r) 3 = some x := by rw [show (3 : Int) = ((3 : Nat) : Int) from rfl, atI_nat' (by simp)]; rfl
@[simp] theorem atI_4 {α : Type} (a b c d x : α) (r : List α) : atI (a :: b :: c :: d :: x :: r) 4 = some x := by rw [show (4 : Int) = ((4 : Nat) : Int) from rfl, atI_nat' (by simp)]; rfl
@[simp] theorem atI_5 {α : Type} (a b c d e x : α) (r : List α) : atI (a :: b :: c :: d :: e :: x :: r) 5 = some x := by rw [show (5 : Int) = ((5 : Nat) : Int) from rfl, atI_nat' (by simp)]; rfl
theorem atI_last {α : Type} (xs : List α) (x : α) : atI (xs ++ [x]) (-1) = some x := by
  unfold atI ixN
  rw [if_neg (by omega), if_pos (by simp; omega)]
  have : (-1 + ((xs ++ [x]).length : Int)).toNat = xs.length := by simp; omega
  simp only [Option.bind_some, this]
  simp
@[simp] theorem gIx_tup0 (x : P) (l : List P) (i : Int) (st : Store) : gIx (.p (.tup (x :: l))) (.p (.int i)) st = match atI (S.p x :: l.map S.p) i with
  | some z => .ok z st
  | none => .stuck := rfl
@[simp] theorem gIx_lst0 (x : P) (l : List P) (i : Int) (st : Store) : gIx (.p (.lst (x :: l))) (.p (.int i)) st = match atI (S.p x :: l.map S.p) i with
  | some z => .ok z st
  | none => .stuck := rfl
@[simp] theorem gIx_ktup0 (x : P) (l : List P) (i : Int) (st : Store) : gIx (.p (.ktup (x :: l))) (.p (.int i)) st = match atI (S.p x :: l.map S.p) i with
  | some z => .ok z st
  | none => .stuck := rfl
/-! ### words -/
inductive Wo where
  | ask | hold | cancel | firm | lapse | longer | move | cells | walls | first | last | tight | blocks | yields | any | steps | checking | giving | holding | places | clash | crowded | dropped | refused | rows | told | found
  deriving DecidableEq, Inhabited
def Wo.s : Wo → Str
  | .ask => "ask"
  | .hold => "hold"
  | .cancel => "cancel"
  | .firm => "firm"
  | .lapse => "lapse"
  | .longer => "longer"
  | .move => "move"
  | .cells => "cells"
  | .walls => "walls"
  | .first => "first"
  | .last => "last"
  | .tight => "tight"
  | .blocks => "blocks"
  | .yields => "yields"
  | .any => "any"
  | .steps => "steps"
  | .checking => "checking"
  | .giving => "giving"
  | .holding => "holding"
  | .places => "places"
  | .clash => "clash"
  | .crowded => "crowded"
  | .dropped => "dropped"
  | .refused => "refused"
  | .rows => "rows"
  | .told => "told"
  | .found => "found"
def Wo.n : Wo → Nat
  | .ask => 0
  | .hold => 1
  | .cancel => 2
  | .firm => 3
  | .lapse => 4
  | .longer => 5
  | .move => 6
  | .cells => 7
  | .walls => 8
  | .first => 9
  | .last => 10
  | .tight => 11
  | .blocks => 12
  | .yields => 13
  | .any => 14
  | .steps => 15
  | .checking => 16
  | .giving => 17
  | .holding => 18
  | .places => 19
  | .clash => 20
  | .crowded => 21
  | .dropped => 22
  | .refused => 23
  | .rows => 24
  | .told => 25
  | .found => 26
def Wo.un (x : Str) : Nat := (["ask", "hold", "cancel", "firm", "lapse", "longer", "move", "cells", "walls", "first", "last", "tight", "blocks", "yields", "any", "steps", "checking", "giving", "holding", "places", "clash", "crowded", "dropped", "refused", "rows", "told", "found"] : List Str).findIdx (fun y => decide (y = x))
theorem Wo.un_s (a : Wo) : Wo.un a.s = a.n := by cases a <;> decide +kernel
theorem Wo.n_inj {a b : Wo} (h : a.n = b.n) : a = b := by cases a <;> cases b <;> first | rfl | (simp [Wo.n] at h)
@[simp] theorem Wo.s_inj {a b : Wo} : a.s = b.s ↔ a = b := ⟨fun h => Wo.n_inj (by rw [← Wo.un_s, ← Wo.un_s, h]), fun h => by rw [h]⟩
theorem Wo.ok (a : Wo) : PyData.canLay0 (.str a.s) = true := by cases a <;> decide +kernel
@[simp] theorem lit_ask : Str.ofString "ask" = Wo.s .ask := rfl
@[simp] theorem lit_hold : Str.ofString "hold" = Wo.s .hold := rfl
@[simp] theorem lit_cancel : Str.ofString "cancel" = Wo.s .cancel := rfl
@[simp] theorem lit_firm : Str.ofString "firm" = Wo.s .firm := rfl
@[simp] theorem lit_lapse : Str.ofString "lapse" = Wo.s .lapse := rfl
@[simp] theorem lit_longer : Str.ofString "longer" = Wo.s .longer := rfl
@[simp] theorem lit_move : Str.ofString "move" = Wo.s .move := rfl
@[simp] theorem lit_cells : Str.ofString "cells" = Wo.s .cells := rfl
@[simp] theorem lit_walls : Str.ofString "walls" = Wo.s .walls := rfl
@[simp] theorem lit_first : Str.ofString "first" = Wo.s .first := rfl
@[simp] theorem lit_last : Str.ofString "last" = Wo.s .last := rfl
@[simp] theorem lit_tight : Str.ofString "tight" = Wo.s .tight := rfl
@[simp] theorem lit_blocks : Str.ofString "blocks" = Wo.s .blocks := rfl
@[simp] theorem lit_yields : Str.ofString "yields" = Wo.s .yields := rfl
@[simp] theorem lit_any : Str.ofString "any" = Wo.s .any := rfl
@[simp] theorem lit_steps : Str.ofString "steps" = Wo.s .steps := rfl
@[simp] theorem lit_checking : Str.ofString "checking" = Wo.s .checking := rfl
@[simp] theorem lit_giving : Str.ofString "giving" = Wo.s .giving := rfl
@[simp] theorem lit_holding : Str.ofString "holding" = Wo.s .holding := rfl
@[simp] theorem lit_places : Str.ofString "places" = Wo.s .places := rfl
@[simp] theorem lit_clash : Str.ofString "clash" = Wo.s .clash := rfl
@[simp] theorem lit_crowded : Str.ofString "crowded" = Wo.s .crowded := rfl
@[simp] theorem lit_dropped : Str.ofString "dropped" = Wo.s .dropped := rfl
@[simp] theorem lit_refused : Str.ofString "refused" = Wo.s .refused := rfl
@[simp] theorem lit_rows : Str.ofString "rows" = Wo.s .rows := rfl
@[simp] theorem lit_told : Str.ofString "told" = Wo.s .told := rfl
@[simp] theorem lit_found : Str.ofString "found" = Wo.s .found := rfl

/-! ### data -/
class Enc (α : Type) where
  enc : α → P
  dat : α → PyData
  n : Nat
  toD : ∀ a, toD (enc a) = some (dat a)
  lay : ∀ a, (dat a).canLay0 = true
  dep : ∀ a, (dat a).depth ≤ n
  eqv : ∀ a b, PyData.eqv (dat a) (dat b) = true ↔ a = b
open Enc
instance : Enc Int := ⟨P.int, PyData.int, 0, fun _ => rfl, fun _ => rfl, fun _ => Nat.le_refl _, fun a b => by simp [PyData.eqv]⟩
instance : Enc Bool := ⟨P.bl, PyData.bool, 0, fun _ => rfl, fun _ => rfl, fun _ => Nat.le_refl _, fun a b => by simp [PyData.eqv]⟩
instance : Enc Wo := ⟨fun w => .str w.s, fun w => .str w.s, 0, fun _ => rfl, Wo.ok, fun _ => Nat.le_refl _, fun a b => by simp [PyData.eqv]⟩
section
variable {α β : Type} [Enc α] [Enc β]
def encT (l : List α) : P := .tup (l.map enc)
def encL (l : List α) : P := .lst (l.map enc)
theorem toDs_map : ∀ l : List α, toDs (l.map enc) = some (l.map dat)
  | [] => rfl
  | x :: r => by simp [toDs, Enc.toD, toDs_map r]
theorem layAll : ∀ l : List α, PyData.canLayAll0 (l.map dat) = true
  | [] => rfl
  | x :: r => by simp [PyData.canLayAll0, Enc.lay, layAll r]
theorem depAll : ∀ l : List α, PyData.depthAll (l.map dat) ≤ n α
  | [] => Nat.zero_le _
  | x :: r => by simp only [List.map_cons, PyData.depthAll]; exact Nat.max_le.mpr ⟨Enc.dep x, depAll r⟩
theorem eqvAll_map : ∀ l m : List α, PyData.eqvAll (l.map dat) (m.map dat) = true ↔ l = m
  | [], [] => by simp [PyData.eqvAll]
  | [], _ :: _ => by simp [PyData.eqvAll]
  | _ :: _, [] => by simp [PyData.eqvAll]
  | x :: r, y :: s => by simp [PyData.eqvAll, Enc.eqv, eqvAll_map r s]
/-- lists and tuples of such -/
structure Lst (α : Type) where
  l : List α
structure Tup (α : Type) where
  l : List α
instance : Enc (Lst α) := ⟨fun x => .lst (x.l.map enc), fun x => .list (x.l.map dat), n α + 1, fun a => by simp [Q.toD, toDs_map], fun a => layAll a.l, fun a => Nat.succ_le_succ (depAll a.l), fun a b => by cases a; cases b; simp [PyData.eqv, eqvAll_map]⟩
instance : Enc (Tup α) := ⟨fun x => .tup (x.l.map enc), fun x => .tuple (x.l.map dat), n α + 1, fun a => by simp [Q.toD, toDs_map], fun a => layAll a.l, fun a => Nat.succ_le_succ (depAll a.l), fun a b => by cases a; cases b; simp [PyData.eqv, eqvAll_map]⟩
instance : Enc (α × β) := ⟨fun x => .tup [enc x.1, enc x.2], fun x => .tuple [dat x.1, dat x.2], max (n α) (n β) + 1, fun a => by simp [Q.toD, toDs, Enc.toD], fun a => by simp [PyData.canLay0, PyData.canLayAll0, Enc.lay],
  fun a => by simp only [PyData.depth, PyData.depthAll]; have := Enc.dep a.1; have := Enc.dep a.2; omega, fun a b => by cases a; cases b; simp [PyData.eqv, PyData.eqvAll, Enc.eqv]⟩
theorem dataOf_enc (st : Store) (a : α) (h : n α ≤ 64 := by decide) : dataOf st (.p (enc a)) = some (dat a) := by
  unfold dataOf
  have hd := Enc.dep a
  simp only [lookD, Enc.toD]
  rw [if_pos]
  show (PyData.canLay0 _ && decide (PyData.depth _ ≤ 64)) = true
  rw [Enc.lay, decide_eq_true (Nat.le_trans hd h)]; rfl
theorem eqv_dec [DecidableEq α] (a b : α) : PyData.eqv (dat a) (dat b) = decide (a = b) := by
  by_cases h : a = b
  · rw [decide_eq_true h]; exact (Enc.eqv a b).mpr h
  · rw [decide_eq_false h]
    cases z : PyData.eqv (dat a) (dat b) with
    | false => rfl
    | true => exact absurd ((Enc.eqv a b).mp z) h
theorem gEq_enc [DecidableEq α] (st : Store) (a b : α) (h : n α ≤ 64 := by decide) : gEqD false (.p (enc a)) (.p (enc b)) st = .ok (.p (.bl (decide (a = b)))) st := by
  rw [gEqD_of false (dataOf_enc st a h) (dataOf_enc st b h), eqv_dec]; rfl
theorem gNe_enc [DecidableEq α] (st : Store) (a b : α) (h : n α ≤ 64 := by decide) : gEqD true (.p (enc a)) (.p (enc b)) st = .ok (.p (.bl (!decide (a = b)))) st := by
  rw [gEqD_of true (dataOf_enc st a h) (dataOf_enc st b h), eqv_dec]; rfl
@[simp] theorem gEq_int (st : Store) (a b : Int) : gEqD false (.p (.int a)) (.p (.int b)) st = .ok (.p (.bl (decide (a = b)))) st := gEq_enc st a b
@[simp] theorem gNe_int (st : Store) (a b : Int) : gEqD true (.p (.int a)) (.p (.int b)) st = .ok (.p (.bl (!decide (a = b)))) st := gNe_enc st a b
@[simp] theorem gEq_wo (st : Store) (a b : Wo) : gEqD false (.p (.str a.s)) (.p (.str b.s)) st = .ok (.p (.bl (decide (a = b)))) st := gEq_enc st a b
@[simp] theorem gNe_wo (st : Store) (a b : Wo) : gEqD true (.p (.str a.s)) (.p (.str b.s)) st = .ok (.p (.bl (!decide (a = b)))) st := gNe_enc st a b
@[simp] theorem gEq_ii (st : Store) (a b c d : Int) : gEqD false (.p (.tup [.int a, .int b])) (.p (.tup [.int c, .int d])) st = .ok (.p (.bl (decide (a = c) && decide (b = d)))) st := by
  have := gEq_enc st (a, b) (c, d) (by decide)
  simpa [Enc.enc] using this
/-- lists are equal -/
theorem gEq_lst [DecidableEq α] (st : Store) (l m : List α) (h : n α ≤ 63 := by decide) : gEqD false (.p (.lst (l.map enc))) (.p (.lst (m.map enc))) st = .ok (.p (.bl (decide (l = m)))) st := by
  show gEqD false (.p (enc (Lst.mk l))) (.p (enc (Lst.mk m))) st = _
  rw [gEqD_of (d := dat (Lst.mk l)) (e := dat (Lst.mk m)) false (dataOf_enc st (Lst.mk l) (Nat.succ_le_succ h)) (dataOf_enc st (Lst.mk m) (Nat.succ_le_succ h))]
  have : PyData.eqv (dat (Lst.mk l)) (dat (Lst.mk m)) = decide (l = m) := by
    rw [Bool.eq_iff_iff, Enc.eqv]; simp
  simp [this]
theorem gNe_lst [DecidableEq α] (st : Store) (l m : List α) (h : n α ≤ 63 := by decide) : gEqD true (.p (.lst (l.map enc))) (.p (.lst (m.map enc))) st = .ok (.p (.bl (!decide (l = m)))) st := by
  show gEqD true (.p (enc (Lst.mk l))) (.p (enc (Lst.mk m))) st = _
  rw [gEqD_of (d := dat (Lst.mk l)) (e := dat (Lst.mk m)) true (dataOf_enc st (Lst.mk l) (Nat.succ_le_succ h)) (dataOf_enc st (Lst.mk m) (Nat.succ_le_succ h))]
  have : PyData.eqv (dat (Lst.mk l)) (dat (Lst.mk m)) = decide (l = m) := by
    rw [Bool.eq_iff_iff, Enc.eqv]; simp
  simp [this]
theorem gEq_tup [DecidableEq α] (st : Store) (l m : List α) (h : n α ≤ 63 := by decide) : gEqD false (.p (.tup (l.map enc))) (.p (.tup (m.map enc))) st = .ok (.p (.bl (decide (l = m)))) st := by
  show gEqD false (.p (enc (Tup.mk l))) (.p (enc (Tup.mk m))) st = _
  rw [gEqD_of (d := dat (Tup.mk l)) (e := dat (Tup.mk m)) false (dataOf_enc st (Tup.mk l) (Nat.succ_le_succ h)) (dataOf_enc st (Tup.mk m) (Nat.succ_le_succ h))]
  have : PyData.eqv (dat (Tup.mk l)) (dat (Tup.mk m)) = decide (l = m) := by
    rw [Bool.eq_iff_iff, Enc.eqv]; simp
  simp [this]
theorem gNe_tup [DecidableEq α] (st : Store) (l m : List α) (h : n α ≤ 63 := by decide) : gEqD true (.p (.tup (l.map enc))) (.p (.tup (m.map enc))) st = .ok (.p (.bl (!decide (l = m)))) st := by
  show gEqD true (.p (enc (Tup.mk l))) (.p (enc (Tup.mk m))) st = _
  rw [gEqD_of (d := dat (Tup.mk l)) (e := dat (Tup.mk m)) true (dataOf_enc st (Tup.mk l) (Nat.succ_le_succ h)) (dataOf_enc st (Tup.mk m) (Nat.succ_le_succ h))]
  have : PyData.eqv (dat (Tup.mk l)) (dat (Tup.mk m)) = decide (l = m) := by
    rw [Bool.eq_iff_iff, Enc.eqv]; simp
  simp [this]
/-- x in a list or a tuple of such -/
theorem any_eqv [DecidableEq α] (a : α) : ∀ l : List α, ((l.map dat).any fun z => PyData.eqv z (dat a)) = decide (a ∈ l)
  | [] => by simp
  | x :: r => by
    simp only [List.map_cons, List.any_cons, any_eqv a r, eqv_dec, List.mem_cons]
    rw [Bool.eq_iff_iff, Bool.or_eq_true, decide_eq_true_iff, decide_eq_true_iff, decide_eq_true_iff]
    exact ⟨fun h => h.imp Eq.symm id, fun h => h.imp Eq.symm id⟩
theorem gIn_lst [DecidableEq α] (neg : Bool) (st : Store) (a : α) (l : List α) (h : n α ≤ 63 := by decide) : gIn neg (.p (enc a)) (.p (.lst (l.map enc))) st = .ok (.p (.bl (if neg = true then !decide (a ∈ l) else decide (a ∈ l)))) st := by
  have h1 := dataOf_enc st a (Nat.le_succ_of_le h)
  have h2 := dataOf_enc st (Lst.mk l) (Nat.succ_le_succ h)
  unfold gIn
  rw [isDict_lst, h1, show dataOf st (S.p (P.lst (l.map enc))) = some (.list (l.map dat)) from h2]
  simp only [any_eqv]
  simp
theorem gIn_tup [DecidableEq α] (neg : Bool) (st : Store) (a : α) (l : List α) (h : n α ≤ 63 := by decide) : gIn neg (.p (enc a)) (.p (.tup (l.map enc))) st = .ok (.p (.bl (if neg = true then !decide (a ∈ l) else decide (a ∈ l)))) st := by
  have h1 := dataOf_enc st a (Nat.le_succ_of_le h)
  have h2 := dataOf_enc st (Tup.mk l) (Nat.succ_le_succ h)
  unfold gIn
  rw [isDict_tup, h1, show dataOf st (S.p (P.tup (l.map enc))) = some (.tuple (l.map dat)) from h2]
  simp only [any_eqv]
  simp
@[simp] theorem gIn_wo2 (st : Store) (a b c : Wo) : gIn false (.p (.str a.s)) (.p (.tup [.str b.s, .str c.s])) st = .ok (.p (.bl (decide (a = b) || decide (a = c)))) st := by
  have := gIn_tup false st a [b, c] (by decide)
  simpa [Enc.enc] using this
@[simp] theorem gIsN_non (neg : Bool) (st : Store) : gIsN neg (.p .non) (.p .non) st = .ok (.p (.bl (!neg))) st := rfl
@[simp] theorem gIsN_int (neg : Bool) (st : Store) (i : Int) : gIsN neg (.p (.int i)) (.p .non) st = .ok (.p (.bl neg)) st := rfl
@[simp] theorem gIsN_tup (neg : Bool) (st : Store) (l : List P) : gIsN neg (.p (.tup l)) (.p .non) st = .ok (.p (.bl neg)) st := rfl
@[simp] theorem gIsN_obj (neg : Bool) (st : Store) (c : Nat) (fs : List (Str × P)) : gIsN neg (.p (.obj c fs)) (.p .non) st = .ok (.p (.bl neg)) st := rfl
/-! ### calls of built-ins -/
theorem asBools_map : ∀ l : List α, ∀ f : α → Bool, asBools (l.map fun x => .bl (f x)) = some (l.map f)
  | [], _ => rfl
  | x :: r, f => by simp [asBools, asBools_map r f]
theorem any_bl (f : α → Bool) (l : List α) (st : Store) : gBools (fun bs => bs.any id) [.p (.lst (l.map fun x => .bl (f x)))] st = .ok (.p (.bl (l.any f))) st := by
  simp [gBools, asBools_map, List.any_map]
theorem all_bl (f : α → Bool) (l : List α) (st : Store) : gBools (fun bs => bs.all id) [.p (.lst (l.map fun x => .bl (f x)))] st = .ok (.p (.bl (l.all f))) st := by
  simp [gBools, asBools_map, List.all_map]
@[simp] theorem gTuple_lst (l : List P) (st : Store) : gTuple [.p (.lst l)] st = .ok (.p (.tup l)) st := rfl
@[simp] theorem gTuple_tup (l : List P) (st : Store) : gTuple [.p (.tup l)] st = .ok (.p (.tup l)) st := rfl
@[simp] theorem gList_lst (l : List P) (st : Store) : gList [.p (.lst l)] st = .ok (.p (.lst l)) st := by simp [gList]
@[simp] theorem gList_tup (l : List P) (st : Store) : gList [.p (.tup l)] st = .ok (.p (.lst l)) st := by simp [gList]
@[simp] theorem gLen_lst (l : List P) (st : Store) : gLen [.p (.lst l)] st = .ok (.p (.int l.length)) st := by simp [gLen, lenS]
@[simp] theorem gLen_tup (l : List P) (st : Store) : gLen [.p (.tup l)] st = .ok (.p (.int l.length)) st := by simp [gLen, lenS]
@[simp] theorem gMax2_int (i j : Int) (st : Store) : gMax2 [.p (.int i), .p (.int j)] st = .ok (.p (.int (if j > i then j else i))) st := rfl
@[simp] theorem gMin2_int (i j : Int) (st : Store) : gMin2 [.p (.int i), .p (.int j)] st = .ok (.p (.int (if j < i then j else i))) st := rfl
@[simp] theorem gIntOf_int (i : Int) (st : Store) : gIntOf [.p (.int i)] st = .ok (.p (.int i)) st := rfl
/-! ### types -/
@[simp] theorem tyS_int (st : Store) (i : Int) : tyS st (.p (.int i)) = some "int" := rfl
@[simp] theorem tyS_bl (st : Store) (i : Bool) : tyS st (.p (.bl i)) = some "bool" := rfl
@[simp] theorem tyS_non (st : Store) : tyS st (.p .non) = some "NoneType" := rfl
@[simp] theorem tyS_str (st : Store) (i : Str) : tyS st (.p (.str i)) = some "str" := rfl
@[simp] theorem tyS_tup (st : Store) (i : List P) : tyS st (.p (.tup i)) = some "tuple" := rfl
@[simp] theorem tyS_lst (st : Store) (i : List P) : tyS st (.p (.lst i)) = some "list" := rfl
@[simp] theorem tyS_dk (st : Store) (i : List (Key × P)) : tyS st (.p (.dk i)) = some "dict" := rfl
@[simp] theorem kitB_NoneType_int : kitB "NoneType" "int" = some false := by decide +kernel
@[simp] theorem kitB_NoneType_bool : kitB "NoneType" "bool" = some false := by decide +kernel
@[simp] theorem kitB_NoneType_str : kitB "NoneType" "str" = some false := by decide +kernel
@[simp] theorem kitB_NoneType_tuple : kitB "NoneType" "tuple" = some false := by decide +kernel
@[simp] theorem kitB_NoneType_list : kitB "NoneType" "list" = some false := by decide +kernel
@[simp] theorem kitB_NoneType_dict : kitB "NoneType" "dict" = some false := by decide +kernel
@[simp] theorem kitB_bool_int : kitB "bool" "int" = some true := by decide +kernel
@[simp] theorem kitB_bool_bool : kitB "bool" "bool" = some true := by decide +kernel
@[simp] theorem kitB_bool_str : kitB "bool" "str" = some false := by decide +kernel
@[simp] theorem kitB_bool_tuple : kitB "bool" "tuple" = some false := by decide +kernel
@[simp] theorem kitB_bool_list : kitB "bool" "list" = some false := by decide +kernel
@[simp] theorem kitB_bool_dict : kitB "bool" "dict" = some false := by decide +kernel
@[simp] theorem kitB_int_int : kitB "int" "int" = some true := by decide +kernel
@[simp] theorem kitB_int_bool : kitB "int" "bool" = some false := by decide +kernel
@[simp] theorem kitB_int_str : kitB "int" "str" = some false := by decide +kernel
@[simp] theorem kitB_int_tuple : kitB "int" "tuple" = some false := by decide +kernel
@[simp] theorem kitB_int_list : kitB "int" "list" = some false := by decide +kernel
@[simp] theorem kitB_int_dict : kitB "int" "dict" = some false := by decide +kernel
@[simp] theorem kitB_str_int : kitB "str" "int" = some false := by decide +kernel
@[simp] theorem kitB_str_bool : kitB "str" "bool" = some false := by decide +kernel
@[simp] theorem kitB_str_str : kitB "str" "str" = some true := by decide +kernel
@[simp] theorem kitB_str_tuple : kitB "str" "tuple" = some false := by decide +kernel
@[simp] theorem kitB_str_list : kitB "str" "list" = some false := by decide +kernel
@[simp] theorem kitB_str_dict : kitB "str" "dict" = some false := by decide +kernel
@[simp] theorem kitB_tuple_int : kitB "tuple" "int" = some false := by decide +kernel
@[simp] theorem kitB_tuple_bool : kitB "tuple" "bool" = some false := by decide +kernel
@[simp] theorem kitB_tuple_str : kitB "tuple" "str" = some false := by decide +kernel
@[simp] theorem kitB_tuple_tuple : kitB "tuple" "tuple" = some true := by decide +kernel
@[simp] theorem kitB_tuple_list : kitB "tuple" "list" = some false := by decide +kernel
@[simp] theorem kitB_tuple_dict : kitB "tuple" "dict" = some false := by decide +kernel
@[simp] theorem kitB_list_int : kitB "list" "int" = some false := by decide +kernel
@[simp] theorem kitB_list_bool : kitB "list" "bool" = some false := by decide +kernel
@[simp] theorem kitB_list_str : kitB "list" "str" = some false := by decide +kernel
@[simp] theorem kitB_list_tuple : kitB "list" "tuple" = some false := by decide +kernel
@[simp] theorem kitB_list_list : kitB "list" "list" = some true := by decide +kernel
@[simp] theorem kitB_list_dict : kitB "list" "dict" = some false := by decide +kernel
@[simp] theorem kitB_dict_int : kitB "dict" "int" = some false := by decide +kernel
@[simp] theorem kitB_dict_bool : kitB "dict" "bool" = some false := by decide +kernel
@[simp] theorem kitB_dict_str : kitB "dict" "str" = some false := by decide +kernel
@[simp] theorem kitB_dict_tuple : kitB "dict" "tuple" = some false := by decide +kernel
@[simp] theorem kitB_dict_list : kitB "dict" "list" = some false := by decide +kernel
@[simp] theorem kitB_dict_dict : kitB "dict" "dict" = some true := by decide +kernel
end
end Q

set_option Elab.async false
set_option linter.all false
set_option maxRecDepth 100000
set_option maxHeartbeats 4000000
/-! V4: bookings and deeds as plain data; what the program's defs about them give. -/
namespace QS
open PySem L2 Q
structure Bk where
  day : Int
  part : Int
  len : Int
  wid : Int
  held : Bool
  deriving DecidableEq, Inhabited
def Bk.enc (b : Bk) : P := .tup [.int b.day, .int b.part, .int b.len, .int b.wid, .bl b.held]
instance : Enc Bk := ⟨Bk.enc, fun b => .tuple [.int b.day, .int b.part, .int b.len, .int b.wid, .bool b.held], 1, fun _ => rfl, fun _ => rfl, fun _ => by simp [PyData.depth, PyData.depthAll], fun a b => by
  cases a; cases b; simp [PyData.eqv, PyData.eqvAll]⟩
/-- range(n) -/
def rg (n : Int) : List Int := (List.range n.toNat).map fun (k : Nat) => (k : Int)
theorem mem_rg {n i : Int} : i ∈ rg n ↔ 0 ≤ i ∧ i < n := by
  unfold rg
  simp only [List.mem_map, List.mem_range]
  constructor
  · rintro ⟨k, h, rfl⟩; omega
  · rintro ⟨h1, h2⟩; exact ⟨i.toNat, by omega, by omega⟩
theorem rg_len (n : Int) : (rg n).length = n.toNat := by simp [rg]
theorem rangeS_rg (n : Int) : rangeS 0 n.toNat = (rg n).map fun i => S.p (.int i) := by
  unfold rangeS rg
  rw [List.map_map]
  apply List.map_congr_left
  intro k _
  simp
theorem rgP_rg (n : Int) : rgP 0 n = (rg n).map P.int := by
  unfold rgP rg
  rw [List.map_map, Int.sub_zero]
  apply List.map_congr_left
  intro k _
  simp
def cells (b : Bk) : List (Int × Int) := (rg b.len).flatMap fun i => (rg b.wid).map fun j => (b.day + i, b.part + j)
theorem mem_cells {b : Bk} {x y : Int} : (x, y) ∈ cells b ↔ (b.day ≤ x ∧ x < b.day + b.len) ∧ (b.part ≤ y ∧ y < b.part + b.wid) := by
  unfold cells
  simp only [List.mem_flatMap, List.mem_map, mem_rg, Prod.mk.injEq]
  constructor
  · rintro ⟨i, hi, j, hj, rfl, rfl⟩; omega
  · rintro ⟨h1, h2⟩; exact ⟨x - b.day, by omega, y - b.part, by omega, by omega, by omega⟩
/-- sizes within reason -/
def Bk.fit (b : Bk) : Prop := (0 ≤ b.len ∧ b.len ≤ 10) ∧ (0 ≤ b.wid ∧ b.wid ≤ 10)
structure Fits (bs : List Bk) : Prop where
  n : bs.length ≤ 1000
  f : ∀ b ∈ bs, b.fit
theorem cells_len {b : Bk} (h : b.fit) : (cells b).length ≤ 100 := by
  have h1 := flatMap_len (f := fun i => (rg b.wid).map fun j => (b.day + i, b.part + j)) (n := b.wid.toNat) (xs := rg b.len) fun x _ => by simp [rg_len]
  rw [rg_len] at h1
  have h2 : b.len.toNat ≤ 10 := by unfold Bk.fit at h; omega
  have h3 : b.wid.toNat ≤ 10 := by unfold Bk.fit at h; omega
  have h4 := Nat.mul_le_mul h2 h3
  exact Nat.le_trans h1 h4
/-- deeds -/
inductive Dd where
  | ask (hold : Bool) (w d l : Int)
  | cancel (d p : Int)
  | firm (d p : Int)
  | lapse
  | longer (d p : Int)
  | move (d p s : Int)
  deriving DecidableEq, Inhabited
def askW (hold : Bool) : Wo := if hold then .hold else .ask
def Dd.word : Dd → Wo
  | .ask h _ _ _ => askW h
  | .cancel _ _ => .cancel
  | .firm _ _ => .firm
  | .lapse => .lapse
  | .longer _ _ => .longer
  | .move _ _ _ => .move
def Dd.enc : Dd → P
  | .ask h w d l => .tup [.str (askW h).s, .int w, .int d, .int l]
  | .cancel d p => .tup [.str Wo.cancel.s, .int d, .int p]
  | .firm d p => .tup [.str Wo.firm.s, .int d, .int p]
  | .lapse => .tup [.str Wo.lapse.s]
  | .longer d p => .tup [.str Wo.longer.s, .int d, .int p]
  | .move d p s => .tup [.str Wo.move.s, .int d, .int p, .int s]
/-- halls -/
structure HD where
  parts : Int
  days : Int
  widths : List Int
  longest : Int
  ck : Wo
  gv : Wo
  hd : Wo
  pl : Wo
  words : List Wo
  deriving DecidableEq, Inhabited
def HD.rule (h : HD) : P := .dk [(.inr Wo.checking.s, .str h.ck.s), (.inr Wo.giving.s, .str h.gv.s), (.inr Wo.holding.s, .str h.hd.s), (.inr Wo.places.s, .str h.pl.s)]
def HD.enc (h : HD) : P := .sob 12 [.int h.parts, .int h.days, .tup (h.widths.map P.int), .int h.longest, h.rule, .tup (h.words.map fun w => .str w.s)]
structure HD.ok (h : HD) : Prop where
  parts : 1 ≤ h.parts ∧ h.parts ≤ 4
  days : 1 ≤ h.days ∧ h.days ≤ 3
  widths : ∀ w ∈ h.widths, 1 ≤ w ∧ w ≤ h.parts
  longest : 1 ≤ h.longest ∧ h.longest ≤ h.days
  ck : h.ck = .cells ∨ h.ck = .walls
  gv : h.gv = .first ∨ h.gv = .last ∨ h.gv = .tight
  hd : h.hd = .blocks ∨ h.hd = .last ∨ h.hd = .yields
  pl : h.pl = .any ∨ h.pl = .steps
  wn : h.widths ≠ []
  wa : h.widths.Pairwise (· < ·)
  ws : h.words.Sublist [.cancel, .firm, .hold, .lapse, .longer, .move]
variable {st : Store}
theorem rule_ck (h : HD) : gIx (.p h.rule) (.p (.str Wo.checking.s)) st = .ok (.p (.str h.ck.s)) st := by simp [HD.rule, gIx, dictAtK, dictAt, asKey, atK]
theorem rule_gv (h : HD) : gIx (.p h.rule) (.p (.str Wo.giving.s)) st = .ok (.p (.str h.gv.s)) st := by simp [HD.rule, gIx, dictAtK, dictAt, asKey, atK]
theorem rule_hd (h : HD) : gIx (.p h.rule) (.p (.str Wo.holding.s)) st = .ok (.p (.str h.hd.s)) st := by simp [HD.rule, gIx, dictAtK, dictAt, asKey, atK]
theorem rule_pl (h : HD) : gIx (.p h.rule) (.p (.str Wo.places.s)) st = .ok (.p (.str h.pl.s)) st := by simp [HD.rule, gIx, dictAtK, dictAt, asKey, atK]
theorem slt_enc (h : HD) : sltS st (.p h.enc) = some (12, [.p (.int h.parts), .p (.int h.days), .p (.tup (h.widths.map P.int)), .p (.int h.longest), .p h.rule, .p (.tup (h.words.map fun w => .str w.s))]) := rfl
/-! ### the defs -/
theorem is_integer_int (i : Int) : g_is_integer [.p (.int i)] st = .ok (.p (.bl true)) st := by
  apply gDef_of
  simp [runF_ap, f_is_integer]
theorem is_between_int (i a b : Int) : g_is_between [.p (.int i), .p (.int a), .p (.int b)] st = .ok (.p (.bl (decide (a ≤ i ∧ i ≤ b)))) st := by
  apply gDef_of
  simp [runF_ap, f_is_between, is_integer_int]
  split <;> simp_all
  omega
theorem cells_of_ok {b : Bk} (h : b.fit) : g_cells_of [.p b.enc] st = .ok (.p (.lst ((cells b).map Enc.enc))) st := by
  apply gDef_of
  have w1 : inWord b.len = true := by simp [inWord]; unfold Bk.fit at h; omega
  have w2 : inWord b.wid = true := by simp [inWord]; unfold Bk.fit at h; omega
  simp [runF_ap, f_cells_of, Bk.enc]
  rw [comp2 (enc := P.int) (enc2 := fun _ => P.int) (ys := fun _ => rg b.wid) (c := fun _ _ => true) (f := fun i j => Enc.enc (b.day + i, b.part + j)) (xs := rg b.len) (st1 := st)]
  · simp [cells, List.map_flatMap, filter_all, Function.comp_def]
  · simp [w1, rangeS_rg]
  · have := cells_len h
    have e : ((rg b.len).flatMap fun i => ((rg b.wid).filter fun _ => true).map fun j => Enc.enc (b.day + i, b.part + j)) = (cells b).map Enc.enc := by simp [cells, List.map_flatMap, filter_all, Function.comp_def]
    rw [e, List.length_map]; omega
  · intro x _
    refine ⟨_, rfl, ?_, fun y _ => ⟨_, rfl, rfl, fun _ => ?_⟩⟩
    · simp [w2, rangeS_rg]
    · simp [Enc.enc]
def shares (a b w x : Int) : Bool := decide (a < b + x) && decide (b < a + w)
theorem do_share_ok (a b c d : Int) : g_do_share [.p (.int a), .p (.int b), .p (.int c), .p (.int d)] st = .ok (.p (.bl (shares a b c d))) st := by
  apply gDef_of
  simp [runF_ap, f_do_share, shares]
  split <;> simp_all
  omega
def clash (a b : Bk) : Bool := if (decide (a.day + a.len = b.day) || decide (b.day + b.len = a.day)) = false ∨ (a.part = b.part ∧ a.wid = b.wid) then false else shares a.part b.part a.wid b.wid
theorem do_clash_ok (a b : Bk) : g_do_clash [.p a.enc, .p b.enc] st = .ok (.p (.bl (clash a b))) st := by
  apply gDef_of
  simp [runF_ap, f_do_clash, clash, Bk.enc, do_share_ok]
  (repeat' split) <;> simp_all <;> (intro _; by_cases h3 : a.part = b.part <;> simp_all)
def clashes (b : Bk) (os : List Bk) : Bool := os.any (clash b)
theorem clashes_tup (b : Bk) {os : List Bk} (h : os.length ≤ 1000) : g_clashes [.p b.enc, .p (.tup (os.map Bk.enc))] st = .ok (.p (.bl (clashes b os))) st := by
  apply gDef_of
  simp [runF_ap, f_clashes]
  rw [comp0 (enc := Bk.enc) (f := fun o => .bl (clash b o)) (xs := os) (st1 := st)]
  · simp [any_bl, clashes]
  · simp
  · omega
  · intro x _
    exact ⟨_, rfl, by simp [do_clash_ok]⟩

theorem clashes_lst (b : Bk) {os : List Bk} (h : os.length ≤ 1000) : g_clashes [.p b.enc, .p (.lst (os.map Bk.enc))] st = .ok (.p (.bl (clashes b os))) st := by
  apply gDef_of
  simp [runF_ap, f_clashes]
  rw [comp0 (enc := Bk.enc) (f := fun o => .bl (clash b o)) (xs := os) (st1 := st)]
  · simp [any_bl, clashes]
  · simp
  · omega
  · intro x _
    exact ⟨_, rfl, by simp [do_clash_ok]⟩
/-- the cells of some -/
def allCells (os : List Bk) : List (Int × Int) := os.flatMap cells
def isFree (b : Bk) (os : List Bk) : Bool := !(cells b).any fun c => decide (c ∈ allCells os)
def keyC (c : Int × Int) : List Key := [.inl c.1, .inl c.2]
theorem keyC_inj {a b : Int × Int} : keyC a = keyC b ↔ a = b := by
  cases a; cases b; simp [keyC]
theorem pureKs_map {κ : Type} : ∀ l : List (κ × P), pureKs (l.map fun p => (p.1, S.p p.2)) = some l
  | [] => rfl
  | (k, x) :: r => by simp [pureKs, pureKs_map r]
/-- what a merge of dicts holds -/
theorem atK_putS {κ : Type} [DecidableEq κ] {α : Type} (kvs : List (κ × α)) (k j : κ) (v : α) : atK (putS kvs k v) j = if k = j then some v else atK kvs j := by
  unfold putS
  by_cases h : (kvs.any fun kv => decide (kv.1 = k)) = true
  · rw [if_pos h]
    induction kvs with
    | nil => simp at h
    | cons p r ih =>
      obtain ⟨a, x⟩ := p
      by_cases ha : a = k
      · subst ha
        by_cases hj : a = j
        · simp [atK, hj]
        · have : ∀ l : List (κ × α), (l.map fun p => if p.1 = a then (p.1, v) else p).find? (fun kv => decide (kv.1 = j)) = l.find? fun kv => decide (kv.1 = j) := fun l => by
            induction l with
            | nil => rfl
            | cons q t ih =>
              simp only [List.map_cons, List.find?_cons]
              by_cases hq : q.1 = a
              · have : ¬ q.1 = j := fun z => hj (hq ▸ z)
                simp [hq, hj, ih]
              · simp [hq, ih]
          simp [atK, hj, this]
      · have h' : (r.any fun kv => decide (kv.1 = k)) = true := by simpa [ha] using h
        have ih := ih h'
        by_cases hj : a = j
        · subst hj
          have : ¬ k = a := fun z => ha z.symm
          simp [atK, ha, this]
        · simp only [atK, List.map_cons, if_neg ha, List.find?_cons, decide_eq_false hj] at ih ⊢
          exact ih
  · rw [if_neg h]
    have hn : kvs.find? (fun kv => decide (kv.1 = k)) = none := by
      rw [List.find?_eq_none]
      intro x hx
      simp only [Bool.not_eq_true, List.any_eq_false] at h
      simpa using h x hx
    by_cases hj : k = j
    · subst hj
      simp [atK, List.find?_append, hn]
    · simp [atK, List.find?_append, hj]
theorem atK_merge {κ : Type} [DecidableEq κ] : ∀ (more kvs : List (κ × S)) (j : κ), (atK (mergeS kvs more) j).isSome = ((atK kvs j).isSome || more.any fun kv => decide (kv.1 = j))
  | [], kvs, j => by simp [mergeS]
  | p :: r, kvs, j => by
    have ih := atK_merge r (putS kvs p.1 p.2) j
    simp only [mergeS, List.foldl_cons] at ih ⊢
    rw [ih, atK_putS]
    by_cases h : p.1 = j <;> simp [h]
theorem putS_p {κ : Type} [DecidableEq κ] (kvs : List (κ × P)) (k : κ) (v : P) : ∃ l : List (κ × P), putS (kvs.map fun p => (p.1, S.p p.2)) k (S.p v) = l.map fun p => (p.1, S.p p.2) := by
  unfold putS
  split
  · refine ⟨kvs.map fun p => if p.1 = k then (p.1, v) else p, ?_⟩
    rw [List.map_map, List.map_map]
    apply List.map_congr_left
    intro p _
    simp only [Function.comp_apply]
    split <;> rfl
  · exact ⟨kvs ++ [(k, v)], by simp⟩
theorem merge_p {κ : Type} [DecidableEq κ] : ∀ (more kvs : List (κ × P)), ∃ l : List (κ × P), mergeS (kvs.map fun p => (p.1, S.p p.2)) (more.map fun p => (p.1, S.p p.2)) = l.map fun p => (p.1, S.p p.2)
  | [], kvs => ⟨kvs, rfl⟩
  | p :: r, kvs => by
    obtain ⟨l, h⟩ := putS_p kvs p.1 p.2
    obtain ⟨m, h2⟩ := merge_p r l
    refine ⟨m, ?_⟩
    rw [← h2]
    show mergeS (putS (kvs.map fun p => (p.1, S.p p.2)) p.1 (S.p p.2)) _ = _
    rw [h]
theorem allCells_len {os : List Bk} (h : Fits os) : (allCells os).length ≤ 100000 := by
  have h1 := flatMap_len (f := cells) (n := 100) (xs := os) fun x hx => cells_len (h.f x hx)
  have h2 := h.n
  unfold allCells
  omega
theorem is_free_gen {b : Bk} {os : List Bk} (hb : b.fit) (h : Fits os) {u : P} (hu : frozen (.p u) = some (os.map fun o => S.p o.enc)) : g_is_free [.p b.enc, .p u] st = .ok (.p (.bl (isFree b os))) st := by
  apply gDef_new (new := [.dead])
  have hl := allCells_len h
  have hlb := cells_len hb
  obtain ⟨l, hm⟩ := merge_p (os.flatMap fun x => (cells x).map fun y => (keyC y, P.bl true)) []
  have hm' : mergeS [] (os.flatMap fun x => (cells x).map fun y => (keyC y, S.p (P.bl true))) = l.map fun p => (p.1, S.p p.2) := by
    rw [← hm]; simp [List.map_flatMap, Function.comp_def]
  have key : ∀ c : Int × Int, (atK l (keyC c)).isSome = decide (c ∈ allCells os) := fun c => by
    have h1 := atK_merge (os.flatMap fun x => (cells x).map fun y => (keyC y, S.p (P.bl true))) [] (keyC c)
    rw [hm', atK_p] at h1
    have h2 : (atK l (keyC c)).isSome = (os.flatMap fun x => (cells x).map fun y => (keyC y, S.p (P.bl true))).any fun kv => decide (kv.1 = keyC c) := by
      rw [← Option.isSome_map (f := S.p), h1]; simp [atK]
    rw [h2, Bool.eq_iff_iff, List.any_eq_true, decide_eq_true_iff]
    simp only [List.mem_flatMap, List.mem_map, decide_eq_true_iff, allCells]
    constructor
    · rintro ⟨x, ⟨o, ho, y, hy, rfl⟩, e⟩
      exact ⟨o, ho, keyC_inj.mp e ▸ hy⟩
    · rintro ⟨o, ho, hc⟩
      exact ⟨_, ⟨o, ho, c, hc, rfl⟩, rfl⟩
  simp [runF_ap, f_is_free]
  rw [compDT2 (enc := Bk.enc) (enc2 := fun _ => Enc.enc) (ys := cells) (k := fun _ => keyC) (q := fun _ c => Enc.enc c) (f := fun _ _ => .bl true) (xs := os) (st1 := st)]
  · simp only [R.bind_ok, frzS, List.getElem?_concat_length, frzC, frzO, frzD, hm', pureKs_map, Option.map_some]
    simp
    rw [comp0 (enc := Enc.enc) (f := fun c => .bl (decide (c ∈ allCells os))) (xs := cells b) (st1 := st ++ [.dead])]
    · simp [any_bl, isFree]
    · simp [cells_of_ok hb]
    · omega
    · intro c _
      refine ⟨_, rfl, ?_⟩
      have hk : dictAtK (st ++ [Cell.dead]) (.p (.dt l)) (.p (Enc.enc c)) = some ((atK l (keyC c)).map S.p) := rfl
      simp [gIn, hk, key]
  · simp [hu]
  · show (allCells os).length ≤ _; omega
  · intro x hx
    refine ⟨_, rfl, ?_, fun y _ => ⟨_, rfl, ?_, rfl, rfl⟩⟩
    · simp [cells_of_ok (h.f x hx)]
    · simp
theorem is_free_tup {b : Bk} {os : List Bk} (hb : b.fit) (h : Fits os) : g_is_free [.p b.enc, .p (.tup (os.map Bk.enc))] st = .ok (.p (.bl (isFree b os))) st := is_free_gen hb h (by simp)
theorem is_free_lst {b : Bk} {os : List Bk} (hb : b.fit) (h : Fits os) : g_is_free [.p b.enc, .p (.lst (os.map Bk.enc))] st = .ok (.p (.bl (isFree b os))) st := is_free_gen hb h (by simp)
end QS

set_option Elab.async false
set_option linter.all false
set_option maxRecDepth 100000
set_option maxHeartbeats 4000000
/-! V5: what is let, given, and what the deeds do. -/
namespace QS
open PySem L2 Q
variable {st : Store}
/-! the items of what is coded -/
@[simp] theorem bk_ix0 (b : Bk) : gIx (.p b.enc) (.p (.int 0)) st = .ok (.p (.int b.day)) st := rfl
@[simp] theorem bk_ix1 (b : Bk) : gIx (.p b.enc) (.p (.int 1)) st = .ok (.p (.int b.part)) st := rfl
@[simp] theorem bk_ix2 (b : Bk) : gIx (.p b.enc) (.p (.int 2)) st = .ok (.p (.int b.len)) st := rfl
@[simp] theorem bk_ix3 (b : Bk) : gIx (.p b.enc) (.p (.int 3)) st = .ok (.p (.int b.wid)) st := rfl
@[simp] theorem bk_ix4 (b : Bk) : gIx (.p b.enc) (.p (.int 4)) st = .ok (.p (.bl b.held)) st := rfl
@[simp] theorem bk_tup (b : Bk) : tupOf (.p b.enc) = some [.p (.int b.day), .p (.int b.part), .p (.int b.len), .p (.int b.wid), .p (.bl b.held)] := rfl
@[simp] theorem dd_ix0 (x : Dd) : gIx (.p x.enc) (.p (.int 0)) st = .ok (.p (.str x.word.s)) st := by cases x <;> rfl
@[simp] theorem ask_ix1 (h : Bool) (w d l : Int) : gIx (.p (Dd.ask h w d l).enc) (.p (.int 1)) st = .ok (.p (.int w)) st := rfl
@[simp] theorem ask_ix2 (h : Bool) (w d l : Int) : gIx (.p (Dd.ask h w d l).enc) (.p (.int 2)) st = .ok (.p (.int d)) st := rfl
@[simp] theorem ask_ix3 (h : Bool) (w d l : Int) : gIx (.p (Dd.ask h w d l).enc) (.p (.int 3)) st = .ok (.p (.int l)) st := rfl
@[simp] theorem ask_tup (h : Bool) (w d l : Int) : tupOf (.p (Dd.ask h w d l).enc) = some [.p (.str (askW h).s), .p (.int w), .p (.int d), .p (.int l)] := rfl
@[simp] theorem ask_word (h : Bool) (w d l : Int) : (Dd.ask h w d l).word = askW h := rfl
@[simp] theorem bk_isN (b : Bk) (neg : Bool) : gIsN neg (.p b.enc) (.p .non) st = .ok (.p (.bl neg)) st := rfl
@[simp] theorem slt_enc' (h : HD) : sltS st (.p h.enc) = some (12, [.p (.int h.parts), .p (.int h.days), .p (.tup (h.widths.map P.int)), .p (.int h.longest), .p h.rule, .p (.tup (h.words.map fun w => .str w.s))]) := rfl
@[simp] theorem rule_ck' (h : HD) : gIx (.p h.rule) (.p (.str Wo.checking.s)) st = .ok (.p (.str h.ck.s)) st := rule_ck h
@[simp] theorem rule_gv' (h : HD) : gIx (.p h.rule) (.p (.str Wo.giving.s)) st = .ok (.p (.str h.gv.s)) st := rule_gv h
@[simp] theorem rule_hd' (h : HD) : gIx (.p h.rule) (.p (.str Wo.holding.s)) st = .ok (.p (.str h.hd.s)) st := rule_hd h
@[simp] theorem rule_pl' (h : HD) : gIx (.p h.rule) (.p (.str Wo.places.s)) st = .ok (.p (.str h.pl.s)) st := rule_pl h
def suits (b : Bk) (os : List Bk) : Bool := isFree b os && !clashes b os
theorem does_suit_tup {b : Bk} {os : List Bk} (hb : b.fit) (h : Fits os) : g_does_suit [.p b.enc, .p (.tup (os.map Bk.enc))] st = .ok (.p (.bl (suits b os))) st := by
  apply gDef_of
  simp [runF_ap, f_does_suit, is_free_tup hb h, clashes_tup b h.n, suits]
  split <;> simp_all
theorem does_suit_lst {b : Bk} {os : List Bk} (hb : b.fit) (h : Fits os) : g_does_suit [.p b.enc, .p (.lst (os.map Bk.enc))] st = .ok (.p (.bl (suits b os))) st := by
  apply gDef_of
  simp [runF_ap, f_does_suit, is_free_lst hb h, clashes_lst b h.n, suits]
  split <;> simp_all
/-- the booking of an ask at a first part -/
def bkAt (h : Bool) (w d l s : Int) : Bk := ⟨d, s, l, w, h⟩
theorem askW_hold (h : Bool) : decide (askW h = Wo.hold) = h := by cases h <;> rfl
theorem asked_at_ok (h : Bool) (w d l s : Int) : g_asked_at [.p (Dd.ask h w d l).enc, .p (.int s)] st = .ok (.p (bkAt h w d l s).enc) st := by
  apply gDef_of
  simp [runF_ap, f_asked_at, c_HOLD, bkAt, Bk.enc, askW_hold]
def starts (H : HD) (w : Int) : List Int := rg (H.parts - w + 1)
theorem starts_for_ok {H : HD} (hH : H.ok) {w : Int} (hw : 0 ≤ w ∧ w ≤ 10) : g_starts_for [.p H.enc, .p (.int w)] st = .ok (.p (.lst ((starts H w).map P.int))) st := by
  apply gDef_of
  have := hH.parts
  simp [runF_ap, f_starts_for, rgP_rg, starts]
  omega
theorem starts_len {H : HD} (hH : H.ok) {w : Int} (hw : 0 ≤ w ∧ w ≤ 10) : (starts H w).length ≤ 5 := by
  have := hH.parts
  unfold starts; rw [rg_len]; omega
/-- an ask within reason -/
def askFit (w l : Int) : Prop := (0 ≤ l ∧ l ≤ 10) ∧ (0 ≤ w ∧ w ≤ 10)
theorem bkAt_fit {h : Bool} {w d l s : Int} (k : askFit w l) : (bkAt h w d l s).fit := k
def suiting (H : HD) (h : Bool) (w d l : Int) (bs : List Bk) : List Int := (starts H w).filter fun s => suits (bkAt h w d l s) bs
theorem suiting_ok {H : HD} (hH : H.ok) {h : Bool} {w d l : Int} (ha : askFit w l) {bs : List Bk} (hb : Fits bs) :
    g_suiting [.p H.enc, .p (Dd.ask h w d l).enc, .p (.tup (bs.map Bk.enc))] st = .ok (.p (.lst ((suiting H h w d l bs).map P.int))) st := by
  apply gDef_of
  have hl := starts_len hH ha.2
  simp [runF_ap, f_suiting]
  rw [comp1 (enc := P.int) (c := fun s => suits (bkAt h w d l s) bs) (f := P.int) (xs := starts H w) (st1 := st)]
  · simp [suiting]
  · simp [starts_for_ok hH ha.2]
  · omega
  · intro s _
    refine ⟨_, rfl, ?_, fun _ => ?_⟩
    · simp [asked_at_ok, does_suit_tup (bkAt_fit ha) hb]
    · simp
def stepOk (H : HD) (w s : Int) : Bool := if H.pl = .steps then decide (s % w = 0) else true
def letOk (H : HD) (h : Bool) (w d l : Int) (bs : List Bk) (s : Int) : Bool := if H.ck = .walls then suits (bkAt h w d l s) bs else isFree (bkAt h w d l s) bs
def letStarts (H : HD) (h : Bool) (w d l : Int) (bs : List Bk) : List Int := ((starts H w).filter (stepOk H w)).filter (letOk H h w d l bs)
theorem let_starts_ok {H : HD} (hH : H.ok) {h : Bool} {w d l : Int} (ha : askFit w l) (hw : 0 < w) {bs : List Bk} (hb : Fits bs) :
    g_let_starts [.p H.enc, .p (Dd.ask h w d l).enc, .p (.tup (bs.map Bk.enc))] st = .ok (.p (.lst ((letStarts H h w d l bs).map P.int))) st := by
  apply gDef_of
  have hl := starts_len hH ha.2
  have k1 : eComp fzL (iSeq (eVar 3)) (.one 4) [4] (tOf (eBin (gEqD false) (eBin gMod (eVar 4) (eBin gIx (eVar 1) (eC (P.int 1)))) (eC (P.int 0)))) (nEmit (eVar 4))
      [some (S.p H.enc), some (S.p (Dd.ask h w d l).enc), some (S.p (P.tup (List.map Bk.enc bs))), some (S.p (P.lst (List.map P.int (starts H w)))), none] st = .ok (.p (.lst (((starts H w).filter fun s => decide (s % w = 0)).map P.int))) st := by
    rw [comp1 (enc := P.int) (c := fun s => decide (s % w = 0)) (f := P.int) (xs := starts H w) (st1 := st)]
    · simp
    · omega
    · intro s _
      exact ⟨_, rfl, by simp [hw], fun _ => by simp⟩
  have k2 : ∀ ss : List Int, ss.length ≤ 5 → eComp fzL (iSeq (eVar 3)) (.one 4) [4] (tOf (eCall 2 g_does_suit (aCons (eCall 2 g_asked_at (aCons (eVar 1) (aCons (eVar 4) aNil))) (aCons (eVar 2) aNil)))) (nEmit (eVar 4))
      [some (S.p H.enc), some (S.p (Dd.ask h w d l).enc), some (S.p (P.tup (List.map Bk.enc bs))), some (S.p (P.lst (List.map P.int ss))), none] st = .ok (.p (.lst ((ss.filter fun s => suits (bkAt h w d l s) bs).map P.int))) st := fun ss hl => by
    rw [comp1 (enc := P.int) (c := fun s => suits (bkAt h w d l s) bs) (f := P.int) (xs := ss) (st1 := st)]
    · simp
    · omega
    · intro s _
      exact ⟨_, rfl, by simp [asked_at_ok, does_suit_tup (bkAt_fit ha) hb], fun _ => by simp⟩
  have k3 : ∀ ss : List Int, ss.length ≤ 5 → eComp fzL (iSeq (eVar 3)) (.one 4) [4] (tOf (eCall 2 g_is_free (aCons (eCall 2 g_asked_at (aCons (eVar 1) (aCons (eVar 4) aNil))) (aCons (eVar 2) aNil)))) (nEmit (eVar 4))
      [some (S.p H.enc), some (S.p (Dd.ask h w d l).enc), some (S.p (P.tup (List.map Bk.enc bs))), some (S.p (P.lst (List.map P.int ss))), none] st = .ok (.p (.lst ((ss.filter fun s => isFree (bkAt h w d l s) bs).map P.int))) st := fun ss hl => by
    rw [comp1 (enc := P.int) (c := fun s => isFree (bkAt h w d l s) bs) (f := P.int) (xs := ss) (st1 := st)]
    · simp
    · omega
    · intro s _
      exact ⟨_, rfl, by simp [asked_at_ok, is_free_tup (bkAt_fit ha) hb], fun _ => by simp⟩
  have hl2 : ((starts H w).filter fun s => decide (s % w = 0)).length ≤ 5 := Nat.le_trans (List.length_filter_le _ _) hl
  have e1 : ∀ c : Bool, (if c then (starts H w).filter fun s => decide (s % w = 0) else starts H w).length ≤ 5 := fun c => by cases c <;> simp_all
  by_cases h1 : H.pl = .steps <;> by_cases h2 : H.ck = .walls <;> simp [runF_ap, f_let_starts, starts_for_ok hH ha.2, h1, h2, k1, k2 _ hl, k3 _ hl, k2 _ hl2, k3 _ hl2, letStarts, stepOk, letOk, filter_all]
/-! ### the gap -/
/-- the cell of a day and part, on some days -/
def cellB (d l p : Int) : Bk := ⟨d, p, l, 1, false⟩
def lowF (d l : Int) (bs : List Bk) : Nat → Int → Int
  | 0, f => f
  | n + 1, f => if 0 < f ∧ isFree (cellB d l (f - 1)) bs = true then lowF d l bs n (f - 1) else f
def highF (d l m : Int) (bs : List Bk) : Nat → Int → Int
  | 0, f => f
  | n + 1, f => if f < m ∧ isFree (cellB d l f) bs = true then highF d l m bs n (f + 1) else f
def gapOf (H : HD) (w d l s : Int) (bs : List Bk) : Int := highF d l H.parts bs (H.parts - (s + w)).toNat (s + w) - lowF d l bs s.toNat s
theorem gap_of_ok {H : HD} (hH : H.ok) {h : Bool} {w d l s : Int} (ha : askFit w l) (hs : 0 ≤ s ∧ s ≤ 10) {bs : List Bk} (hb : Fits bs) :
    g_gap_of [.p H.enc, .p (Dd.ask h w d l).enc, .p (.int s), .p (.tup (bs.map Bk.enc))] st = .ok (.p (.int (gapOf H w d l s bs))) st := by
  apply gDef_of
  have hp := hH.parts
  have hc : ∀ p, (cellB d l p).fit := fun p => ⟨ha.1, by simp [cellB]⟩
  have hf : ∀ p, g_is_free [.p (.tup [.int d, .int p, .int l, .int 1, .bl false]), .p (.tup (bs.map Bk.enc))] st = .ok (.p (.bl (isFree (cellB d l p) bs))) st := fun p => is_free_tup (hc p) hb
  have lw : ∀ (n : Nat) (f : Int) (m : Nat), n < m → f.toNat ≤ n → whileLoop (eAnd (eBin gGt (eVar 8) (eC (P.int 0))) (eCall 2 g_is_free (aCons (eTup (aCons (eVar 6) (aCons (eBin Q.gSub (eVar 8) (eC (P.int 1))) (aCons (eVar 7) (aCons (eC (P.int 1)) (aCons (eC (P.bl false)) aNil)))))) (aCons (eVar 3) aNil)))) (sAug 8 (gInt (fun i j => P.int (i - j)) fun x x_1 => true) (eC (P.int 1))) m
      [some (S.p H.enc), some (S.p (Dd.ask h w d l).enc), some (S.p (P.int s)), some (S.p (P.tup (List.map Bk.enc bs))), some (S.p (P.str (askW h).s)), some (S.p (P.int w)), some (S.p (P.int d)), some (S.p (P.int l)), some (S.p (P.int f)), some (S.p (P.int (s + w)))] st =
      .ok (.nx [some (S.p H.enc), some (S.p (Dd.ask h w d l).enc), some (S.p (P.int s)), some (S.p (P.tup (List.map Bk.enc bs))), some (S.p (P.str (askW h).s)), some (S.p (P.int w)), some (S.p (P.int d)), some (S.p (P.int l)), some (S.p (P.int (lowF d l bs n f))), some (S.p (P.int (s + w)))]) st := by
    intro n
    induction n with
    | zero =>
      intro f m hm hfn
      obtain ⟨m, rfl⟩ : ∃ k, m = k + 1 := ⟨m - 1, by omega⟩
      have : ¬ 0 < f := by omega
      simp [whileLoop_succ, this, lowF]
    | succ n ih =>
      intro f m hm hfn
      obtain ⟨m, rfl⟩ : ∃ k, m = k + 1 := ⟨m - 1, by omega⟩
      by_cases h0 : 0 < f
      · cases e : isFree (cellB d l (f - 1)) bs with
        | true =>
          have := ih (f - 1) m (by omega) (by omega)
          simp [whileLoop_succ, h0, hf, e, lowF, this]
        | false => simp [whileLoop_succ, h0, hf, e, lowF]
      · simp [whileLoop_succ, h0, lowF]
  have hw : ∀ (L : Int) (n : Nat) (f : Int) (m : Nat), n < m → (H.parts - f).toNat ≤ n → whileLoop (eAnd (eBin gLt (eVar 9) (eSlt 12 0 (eVar 0))) (eCall 2 g_is_free (aCons (eTup (aCons (eVar 6) (aCons (eVar 9) (aCons (eVar 7) (aCons (eC (P.int 1)) (aCons (eC (P.bl false)) aNil)))))) (aCons (eVar 3) aNil)))) (sAug 9 (gInt (fun i j => P.int (i + j)) fun x x_1 => true) (eC (P.int 1))) m
      [some (S.p H.enc), some (S.p (Dd.ask h w d l).enc), some (S.p (P.int s)), some (S.p (P.tup (List.map Bk.enc bs))), some (S.p (P.str (askW h).s)), some (S.p (P.int w)), some (S.p (P.int d)), some (S.p (P.int l)), some (S.p (P.int L)), some (S.p (P.int f))] st =
      .ok (.nx [some (S.p H.enc), some (S.p (Dd.ask h w d l).enc), some (S.p (P.int s)), some (S.p (P.tup (List.map Bk.enc bs))), some (S.p (P.str (askW h).s)), some (S.p (P.int w)), some (S.p (P.int d)), some (S.p (P.int l)), some (S.p (P.int L)), some (S.p (P.int (highF d l H.parts bs n f)))]) st := by
    intro L n
    induction n with
    | zero =>
      intro f m hm hfn
      obtain ⟨m, rfl⟩ : ∃ k, m = k + 1 := ⟨m - 1, by omega⟩
      have : ¬ f < H.parts := by omega
      simp [whileLoop_succ, this, highF]
    | succ n ih =>
      intro f m hm hfn
      obtain ⟨m, rfl⟩ : ∃ k, m = k + 1 := ⟨m - 1, by omega⟩
      by_cases h0 : f < H.parts
      · cases e : isFree (cellB d l f) bs with
        | true =>
          have := ih (f + 1) m (by omega) (by omega)
          simp [whileLoop_succ, h0, hf, e, highF, this]
        | false => simp [whileLoop_succ, h0, hf, e, highF]
      · simp [whileLoop_succ, h0, highF]
  have hw0 := ha.2
  simp [runF_ap, f_gap_of]
  rw [lw s.toNat s 100000 (by omega) (by omega)]
  simp
  rw [hw _ (H.parts - (s + w)).toNat (s + w) 100000 (by omega) (by omega)]
  simp [gapOf]
end QS

set_option Elab.async false
set_option linter.all false
set_option maxRecDepth 100000
set_option maxHeartbeats 4000000
/-! V6: the least and the greatest; what is given. -/
namespace Q
open PySem L2
class Alk (α : Type) [Enc α] : Prop where
  alk : ∀ a b : α, PySem.W.alike (Enc.dat a) (Enc.dat b) = true
  nn : ∀ a : α, Enc.dat a ≠ PyData.none
instance : Alk Int := ⟨fun _ _ => rfl, fun _ h => by cases h⟩
instance : Alk Bool := ⟨fun _ _ => rfl, fun _ h => by cases h⟩
instance {α β : Type} [Enc α] [Enc β] [Alk α] [Alk β] : Alk (α × β) := ⟨fun a b => by
  show PySem.W.alike (.tuple [_, _]) (.tuple [_, _]) = true
  simp [PySem.W.alike, PySem.W.alikeAll, Alk.alk], fun _ h => by cases h⟩
section
variable {α : Type} [Enc α] [Alk α]
theorem dat_inj {a b : α} (h : Enc.dat a = Enc.dat b) : a = b := (Enc.eqv a b).mp (by rw [h]; exact (Enc.eqv b b).mpr rfl)
theorem all_alike (l : List α) : ((l.map Enc.dat).all fun d => (l.map Enc.dat).all fun e => PySem.W.alike d e) = true := by
  rw [List.all_eq_true]
  intro d hd
  rw [List.all_eq_true]
  intro e he
  obtain ⟨a, _, rfl⟩ := List.mem_map.mp hd
  obtain ⟨b, _, rfl⟩ := List.mem_map.mp he
  exact Alk.alk a b
theorem alikeB_map (l : List α) : alikeB (l.map Enc.dat) = true := by
  unfold alikeB
  rw [all_alike, Bool.true_and, List.all_eq_true]
  intro d hd
  obtain ⟨a, _, rfl⟩ := List.mem_map.mp hd
  have := Alk.nn a
  split
  · rename_i e; exact absurd e this
  · rfl
def bestF (lt : α → α → Bool) (x : α) (xs : List α) : α := xs.foldl (fun a y => if lt y a = true then y else a) x
theorem fold_dat {lt : PyData → PyData → Bool} {lt' : α → α → Bool} (hlt : ∀ a b, lt (Enc.dat a) (Enc.dat b) = lt' a b) : ∀ (xs : List α) (x : α), (xs.map Enc.dat).foldl (fun a y => if lt y a = true then y else a) (Enc.dat x) = Enc.dat (bestF lt' x xs)
  | [], _ => rfl
  | y :: r, x => by
    simp only [List.map_cons, List.foldl_cons, bestF, hlt]
    have := fold_dat hlt r (if lt' y x = true then y else x)
    unfold bestF at this
    rw [← this]
    congr 1
    split <;> rfl
theorem gBest_ok {lt : PyData → PyData → Bool} {lt' : α → α → Bool} (hlt : ∀ a b, lt (Enc.dat a) (Enc.dat b) = lt' a b) (x : α) (xs : List α) (st : Store) (hn : Enc.n α ≤ 64 := by decide) :
    gBest lt [.p (.lst ((x :: xs).map Enc.enc))] st = .ok (.p (Enc.enc (bestF lt' x xs))) st := by
  have hd : PyData.depthAll ((x :: xs).map Enc.dat) ≤ 64 := Nat.le_trans (depAll (x :: xs)) hn
  unfold gBest
  simp only [lookP_p, toDs_map]
  rw [if_pos (by rw [alikeB_map, decide_eq_true hd]; rfl)]
  obtain ⟨h1, h2⟩ := PySem.W.argBest_fold lt PyData.none (Enc.dat x) (xs.map Enc.dat) xs.length (by simp)
  have hb : bestD lt ((x :: xs).map Enc.dat) = PySem.argBest (fun i j => lt ((Enc.dat x :: xs.map Enc.dat).getD i PyData.none) ((Enc.dat x :: xs.map Enc.dat).getD j PyData.none)) xs.length := by
    unfold bestD
    simp
  rw [← hb] at h1 h2
  have hlt2 : bestD lt ((x :: xs).map Enc.dat) < (x :: xs).length := by rw [List.length_cons]; exact Nat.lt_succ_of_le h1
  have e1 : (Enc.dat x :: xs.map Enc.dat).getD (bestD lt ((x :: xs).map Enc.dat)) PyData.none = Enc.dat ((x :: xs)[bestD lt ((x :: xs).map Enc.dat)]) := by
    rw [List.getD_eq_getElem?_getD, show (Enc.dat x :: xs.map Enc.dat) = (x :: xs).map Enc.dat from rfl, List.getElem?_map, List.getElem?_eq_getElem hlt2]
    rfl
  rw [e1, List.take_of_length_le (by simp), fold_dat hlt] at h2
  rw [List.getElem?_map, List.getElem?_eq_getElem hlt2, dat_inj h2]
  rfl
end
/-- what the least is -/
theorem bestF_spec {α : Type} {lt : α → α → Bool} (tr : ∀ a b c, lt a b = false → lt b c = false → lt a c = false) (ir : ∀ a, lt a a = false) (as : ∀ a b, lt a b = true → lt b a = false) :
    ∀ (xs : List α) (x : α), bestF lt x xs ∈ x :: xs ∧ ∀ y ∈ x :: xs, lt y (bestF lt x xs) = false
  | [], x => ⟨.head _, fun y hy => by simp at hy; subst hy; exact ir _⟩
  | z :: r, x => by
    obtain ⟨h1, h2⟩ := bestF_spec tr ir as r (if lt z x = true then z else x)
    have e : bestF lt x (z :: r) = bestF lt (if lt z x = true then z else x) r := rfl
    rw [e]
    by_cases hz : lt z x = true
    · rw [if_pos hz] at h1 h2 ⊢
      refine ⟨.tail _ h1, fun y hy => ?_⟩
      rcases List.mem_cons.mp hy with rfl | hy
      · exact tr _ _ _ (as _ _ hz) (h2 z (.head _))
      · exact h2 y hy
    · rw [if_neg hz] at h1 h2 ⊢
      refine ⟨?_, fun y hy => ?_⟩
      · rcases List.mem_cons.mp h1 with h | h
        · rw [h]; exact .head _
        · exact .tail _ (.tail _ h)
      · rcases List.mem_cons.mp hy with rfl | hy
        · exact h2 _ (.head _)
        · rcases List.mem_cons.mp hy with rfl | hy
          · exact tr _ _ _ (by simpa using hz) (h2 x (.head _))
          · exact h2 y (.tail _ hy)
theorem lt_int (a b : Int) : PySem.W.dataLt (Enc.dat a) (Enc.dat b) = decide (a < b) := PySem.W.dataLt_int a b
theorem gt_int (a b : Int) : (fun x y => PySem.W.dataLt y x) (Enc.dat a) (Enc.dat b) = decide (b < a) := PySem.W.dataLt_int b a
/-- pairs of numbers -/
def ltII (a b : Int × Int) : Bool := decide (a.1 < b.1) || (decide (a.1 = b.1) && decide (a.2 < b.2))
theorem lexInt (a b : Int) (r s : List (Int ⊕ List Nat)) : PyProof.Rows.lexLt PyProof.Rows.itemOrd (.inl a :: r) (.inl b :: s) = (decide (a < b) || (!decide (b < a) && PyProof.Rows.lexLt PyProof.Rows.itemOrd r s)) := PyProof.Rows.lex_cons (O := PyProof.Rows.itemOrd) (Sum.inl a) (Sum.inl b) r s
theorem lexNil : PyProof.Rows.lexLt PyProof.Rows.itemOrd [] [] = false := rfl
theorem lt_ii (a b : Int × Int) : PySem.W.dataLt (Enc.dat a) (Enc.dat b) = ltII a b := by
  show PySem.W.dataLt (.tuple [.int a.1, .int a.2]) (.tuple [.int b.1, .int b.2]) = _
  rw [PySem.W.dataLt_tuple]
  obtain ⟨a1, a2⟩ := a
  obtain ⟨b1, b2⟩ := b
  simp only [PySem.W.keyToksAll, PySem.W.keyToks, List.cons_append, List.nil_append, ltII]
  rw [lexInt, lexInt, lexInt, lexInt, lexInt, lexNil]
  rw [Bool.eq_iff_iff]
  simp
  omega
end Q

set_option Elab.async false
set_option linter.all false
set_option maxRecDepth 100000
set_option maxHeartbeats 4000000
/-! V7: what is given; takers; deeds that can be; what comes of a deed. -/
namespace Q
open PySem L2
section
variable {α : Type}
theorem forLoop_find {t : Tg} {body : XS} {st : Store} (I : Q.Env → Prop) (enc : α → P) (c : α → Bool) (r : α → S) : ∀ {xs : List α} {env : Q.Env}, I env →
    (∀ x ∈ xs, ∀ env, I env → ∃ env1, t.set (.p (enc x)) env = some env1 ∧ (c x = true → body env1 st = .ok (.rt (r x)) st) ∧ (c x = false → ∃ e, body env1 st = .ok (.nx e) st ∧ I e)) →
    (∃ x, xs.find? c = some x ∧ forLoop t body (xs.map fun x => S.p (enc x)) env st = .ok (.rt (r x)) st) ∨ (xs.find? c = none ∧ ∃ e, forLoop t body (xs.map fun x => S.p (enc x)) env st = .ok (.nx e) st ∧ I e)
  | [], env, h0, _ => .inr ⟨rfl, env, rfl, h0⟩
  | x :: r', env, h0, h => by
    obtain ⟨env1, h1, h2, h3⟩ := h x (.head _) env h0
    cases hc : c x with
    | true => exact .inl ⟨x, by simp [List.find?_cons, hc], by simp [forLoop_cons, h1, h2 hc]⟩
    | false =>
      obtain ⟨e, h4, h5⟩ := h3 hc
      rcases forLoop_find I enc c r (xs := r') h5 fun y hy => h y (.tail _ hy) with ⟨y, k1, k2⟩ | ⟨k1, e2, k2, k3⟩
      · exact .inl ⟨y, by simp [List.find?_cons, hc, k1], by simp [forLoop_cons, h1, h4, k2]⟩
      · exact .inr ⟨by simp [List.find?_cons, hc, k1], e2, by simp [forLoop_cons, h1, h4, k2], k3⟩
end
section
variable {α : Type} [Enc α]
/-- a sorted list -/
def sortE (l : List α) : List α := l.mergeSort (PySem.W.dataLe false Enc.dat)
theorem sortP_map (l : List α) : sortP (l.map Enc.enc) = (sortE l).map Enc.enc := by
  unfold sortP sortE
  rw [List.map_mergeSort]
  intro a _ b _
  show PySem.W.dataLe false Enc.dat a b = PySem.W.dataLe false encP (Enc.enc a) (Enc.enc b)
  have : ∀ a : α, encP (Enc.enc a) = Enc.dat a := fun a => by unfold encP; rw [Enc.toD]; rfl
  simp only [PySem.W.dataLe, PySem.W.sortLe, this]
theorem gSorted_ok (l : List α) (st : Store) (hs : sortableB (l.map Enc.dat) = true) (hn : Enc.n α ≤ 64 := by decide) : gSorted [.p (.lst (l.map Enc.enc))] st = .ok (.p (.lst ((sortE l).map Enc.enc))) st := by
  have hd : PyData.depthAll (l.map Enc.dat) ≤ 64 := Nat.le_trans (depAll l) hn
  unfold gSorted
  simp only [lookP_p, toDs_map]
  rw [if_pos (by rw [hs, decide_eq_true hd]; rfl), sortP_map]
theorem sortE_len (l : List α) : (sortE l).length = l.length := List.length_mergeSort l
theorem sortE_mem {l : List α} {a : α} : a ∈ sortE l ↔ a ∈ l := List.mem_mergeSort
end
end Q
namespace QS
open PySem L2 Q
variable {st : Store}
instance : Alk Bk := ⟨fun a b => rfl, fun _ h => by cases h⟩
theorem sortable_bk (l : List Bk) : sortableB (l.map Enc.dat) = true := by
  unfold sortableB
  rw [all_alike, Bool.true_and, Bool.true_and, Bool.or_eq_true]
  left
  rw [List.all_eq_true]
  intro d hd
  obtain ⟨a, _, rfl⟩ := List.mem_map.mp hd
  rfl
theorem sorted_bk (l : List Bk) : gSorted [.p (.lst (l.map Bk.enc))] st = .ok (.p (.lst ((sortE l).map Bk.enc))) st := gSorted_ok l st (sortable_bk l)
def minI (x : Int) (xs : List Int) : Int := bestF (fun a b => decide (a < b)) x xs
def maxI (x : Int) (xs : List Int) : Int := bestF (fun a b => decide (b < a)) x xs
def givenOf (H : HD) (w d l : Int) (ss : List Int) (bs : List Bk) : Int := match ss with
  | [] => 0
  | x :: xs => if H.gv = .first then minI x xs else if H.gv = .last then maxI x xs else (bestF ltII (gapOf H w d l x bs, x) (xs.map fun s => (gapOf H w d l s bs, s))).2
theorem given_of_ok {H : HD} (hH : H.ok) {h : Bool} {w d l : Int} (ha : askFit w l) {ss : List Int} (hs : ∀ s ∈ ss, 0 ≤ s ∧ s ≤ 10) (hn : ss ≠ []) (hl : ss.length ≤ 5) {bs : List Bk} (hb : Fits bs) :
    g_given_of [.p H.enc, .p (Dd.ask h w d l).enc, .p (.lst (ss.map P.int)), .p (.tup (bs.map Bk.enc))] st = .ok (.p (.int (givenOf H w d l ss bs))) st := by
  apply gDef_of
  cases ss with
  | nil => exact absurd rfl hn
  | cons x xs =>
    have e1 : gBest PySem.W.dataLt [S.p (P.lst (P.int x :: List.map P.int xs))] st = .ok (.p (.int (minI x xs))) st := gBest_ok lt_int x xs st
    have e2 : gBest (fun x y => PySem.W.dataLt y x) [S.p (P.lst (P.int x :: List.map P.int xs))] st = .ok (.p (.int (maxI x xs))) st := gBest_ok gt_int x xs st
    by_cases h1 : H.gv = .first
    · simp [runF_ap, f_given_of, h1, e1, givenOf]
    · by_cases h2 : H.gv = .last
      · simp [runF_ap, f_given_of, h2, e2, givenOf]
      · simp [runF_ap, f_given_of, h1, h2, givenOf]
        rw [comp0 (enc := P.int) (f := fun s => Enc.enc (gapOf H w d l s bs, s)) (xs := x :: xs) (st1 := st)]
        · have e3 := gBest_ok lt_ii (gapOf H w d l x bs, x) (xs.map fun s => (gapOf H w d l s bs, s)) st
          simp only [List.map_cons, List.map_map, Function.comp_def] at e3
          simp [e3]
          rfl
        · simp
        · omega
        · intro s hs'
          refine ⟨_, rfl, ?_⟩
          simp [gap_of_ok hH ha (hs s hs') hb]
          rfl
def firmB (bs : List Bk) : List Bk := bs.filter fun b => !b.held
def countingF (H : HD) (h : Bool) (w d l : Int) (bs : List Bk) : List Int × List Bk :=
  if h = true ∨ H.hd = .blocks ∨ (H.hd = .last ∧ letStarts H h w d l bs ≠ []) then (letStarts H h w d l bs, bs) else (letStarts H h w d l (firmB bs), firmB bs)
theorem letStarts_len {H : HD} (hH : H.ok) {h : Bool} {w d l : Int} (hw : 0 ≤ w ∧ w ≤ 10) (bs : List Bk) : (letStarts H h w d l bs).length ≤ 5 :=
  Nat.le_trans (List.length_filter_le _ _) (Nat.le_trans (List.length_filter_le _ _) (starts_len hH hw))
theorem letStarts_mem {H : HD} (hH : H.ok) {h : Bool} {w d l : Int} (hw : 0 ≤ w) {bs : List Bk} {s : Int} (hs : s ∈ letStarts H h w d l bs) : 0 ≤ s ∧ s ≤ 10 := by
  have := (List.mem_filter.mp (List.mem_filter.mp hs).1).1
  unfold starts at this
  have := mem_rg.mp this
  have := hH.parts
  omega
theorem Fits.filter {bs : List Bk} (h : Fits bs) (p : Bk → Bool) : Fits (bs.filter p) := ⟨Nat.le_trans (List.length_filter_le _ _) h.n, fun b hb => h.f b (List.mem_filter.mp hb).1⟩
theorem lst_nil_ne (ss : List Int) : gEqD true (.p (.lst (ss.map P.int))) (.p (.lst [])) st = .ok (.p (.bl (!decide (ss = [])))) st := gNe_lst st ss []
theorem lst_nil_eq (ss : List Int) : gEqD false (.p (.lst (ss.map P.int))) (.p (.lst [])) st = .ok (.p (.bl (decide (ss = [])))) st := gEq_lst st ss []
theorem counting_ok {H : HD} (hH : H.ok) {h : Bool} {w d l : Int} (ha : askFit w l) (hw : 0 < w) {bs : List Bk} (hb : Fits bs) :
    g_counting [.p H.enc, .p (Dd.ask h w d l).enc, .p (.tup (bs.map Bk.enc))] st = .ok (.p (.tup [.lst ((countingF H h w d l bs).1.map P.int), .tup ((countingF H h w d l bs).2.map Bk.enc)])) st := by
  apply gDef_of
  have k1 : eComp fzL (iSeq (eVar 2)) (.one 6) [6] (tOf (eNot (eBin gIx (eVar 6) (eC (P.int 4))))) (nEmit (eVar 6))
      [some (S.p H.enc), some (S.p (Dd.ask h w d l).enc), some (S.p (P.tup (List.map Bk.enc bs))), some (S.p (P.lst ((letStarts H h w d l bs).map P.int))), some (S.p (.str H.hd.s)), none, none] st = .ok (.p (.lst ((firmB bs).map Bk.enc))) st := by
    rw [comp1 (enc := Bk.enc) (c := fun b => !b.held) (f := Bk.enc) (xs := bs) (st1 := st)]
    · rfl
    · simp
    · have := hb.n; omega
    · intro b _
      exact ⟨_, rfl, by simp, fun _ => by simp⟩
  have hf : Fits (firmB bs) := hb.filter _
  have a1 := askW_hold h
  rcases hH.hd with e | e | e
  · cases h <;> simp [runF_ap, f_counting, let_starts_ok hH ha hw hb, c_HOLD, e, askW, countingF]
  · cases h with
    | true => simp [runF_ap, f_counting, let_starts_ok hH ha hw hb, c_HOLD, e, askW, countingF]
    | false =>
      by_cases e2 : letStarts H false w d l bs = []
      · rw [e] at k1
        simp [runF_ap, f_counting, let_starts_ok hH ha hw hb, let_starts_ok hH ha hw hf, c_HOLD, e, askW, countingF, lst_nil_ne, k1]
        simp [e2]
      · simp [runF_ap, f_counting, let_starts_ok hH ha hw hb, c_HOLD, e, askW, countingF, lst_nil_ne, e2]
  · cases h with
    | true => simp [runF_ap, f_counting, let_starts_ok hH ha hw hb, c_HOLD, e, askW, countingF]
    | false =>
      rw [e] at k1
      simp [runF_ap, f_counting, let_starts_ok hH ha hw hb, let_starts_ok hH ha hw hf, c_HOLD, e, askW, countingF, k1]
def startGiven (H : HD) (h : Bool) (w d l : Int) (bs : List Bk) : Option Int := if (countingF H h w d l bs).1 = [] then none else some (givenOf H w d l (countingF H h w d l bs).1 (countingF H h w d l bs).2)
def encOI : Option Int → P
  | none => .non
  | some i => .int i
theorem counting_len {H : HD} (hH : H.ok) {h : Bool} {w d l : Int} (hw : 0 ≤ w ∧ w ≤ 10) (bs : List Bk) : (countingF H h w d l bs).1.length ≤ 5 := by
  unfold countingF; split <;> exact letStarts_len hH hw _
theorem counting_mem {H : HD} (hH : H.ok) {h : Bool} {w d l : Int} (hw : 0 ≤ w) {bs : List Bk} {s : Int} (hs : s ∈ (countingF H h w d l bs).1) : 0 ≤ s ∧ s ≤ 10 := by
  unfold countingF at hs; split at hs <;> exact letStarts_mem hH hw hs
theorem counting_fits {H : HD} {h : Bool} {w d l : Int} {bs : List Bk} (hb : Fits bs) : Fits (countingF H h w d l bs).2 := by
  unfold countingF; split
  · exact hb
  · exact hb.filter _
theorem start_given_ok {H : HD} (hH : H.ok) {h : Bool} {w d l : Int} (ha : askFit w l) (hw : 0 < w) {bs : List Bk} (hb : Fits bs) :
    g_start_given [.p H.enc, .p (Dd.ask h w d l).enc, .p (.tup (bs.map Bk.enc))] st = .ok (.p (encOI (startGiven H h w d l bs))) st := by
  apply gDef_of
  simp [runF_ap, f_start_given, counting_ok hH ha hw hb, lst_nil_eq]
  by_cases e : (countingF H h w d l bs).1 = []
  · simp [e, startGiven, encOI]
  · simp [e, startGiven, encOI, given_of_ok hH ha (fun s hs => counting_mem hH (by omega) hs) e (counting_len hH ha.2 bs) (counting_fits hb)]
/-! ### takers -/
def taker (bs : List Bk) (d p : Int) : Option Bk := bs.find? fun b => decide ((d, p) ∈ cells b)
def encOB : Option Bk → P
  | none => .non
  | some b => b.enc
theorem in_cells (d p : Int) (b : Bk) : gIn false (.p (.tup [.int d, .int p])) (.p (.lst ((cells b).map Enc.enc))) st = .ok (.p (.bl (decide ((d, p) ∈ cells b)))) st := by
  rw [show (P.tup [P.int d, P.int p]) = Enc.enc (d, p) from rfl, gIn_lst]; simp
theorem taker_ok {bs : List Bk} (hb : Fits bs) (d p : Int) : g_taker [.p (.tup (bs.map Bk.enc)), .p (.int d), .p (.int p)] st = .ok (.p (encOB (taker bs d p))) st := by
  apply gDef_of
  simp [runF_ap, f_taker]
  rcases forLoop_find (t := .one 3) (body := (sIf (eBin (gIn false) (eTup (aCons (eVar 1) (aCons (eVar 2) aNil))) (eCall 1 g_cells_of (aCons (eVar 3) aNil))) (sRet (eVar 3)) sNext)) (st := st)
    (fun e => ∃ z, e = [some (S.p (.tup (bs.map Bk.enc))), some (S.p (.int d)), some (S.p (.int p)), z]) Bk.enc (fun b => decide ((d, p) ∈ cells b)) (fun b => S.p b.enc) (xs := bs) (env := [some (S.p (.tup (bs.map Bk.enc))), some (S.p (.int d)), some (S.p (.int p)), none]) ⟨none, rfl⟩ (by
      rintro x hx env ⟨z, rfl⟩
      refine ⟨[some (S.p (.tup (bs.map Bk.enc))), some (S.p (.int d)), some (S.p (.int p)), some (S.p x.enc)], by simp, fun hc => ?_, fun hc => ⟨_, ?_, ⟨some (S.p x.enc), rfl⟩⟩⟩
      · simp [cells_of_ok (hb.f x hx), in_cells]
        simpa using hc
      · simp [cells_of_ok (hb.f x hx), in_cells]
        simpa using hc) with ⟨x, h1, h2⟩ | ⟨h1, e, h2, _⟩
  · simp only [Function.comp_def]
    rw [h2]
    simp [taker, h1, encOB]
  · simp only [Function.comp_def]
    rw [h2]
    simp [taker, h1, encOB]
end QS

set_option Elab.async false
set_option linter.all false
set_option maxRecDepth 100000
set_option maxHeartbeats 4000000
/-! V8: deeds that can be, what comes of them. -/
namespace QS
open PySem L2 Q
variable {st : Store}
def canBe (H : HD) (bs : List Bk) : Dd → Bool
  | .ask _ _ _ _ => true
  | .lapse => bs.any fun b => b.held
  | .cancel d p => (taker bs d p).isSome
  | .firm d p => match taker bs d p with
    | none => false
    | some b => b.held
  | .longer d p => match taker bs d p with
    | none => false
    | some b => decide (b.day + b.len < H.days)
  | .move d p s => match taker bs d p with
    | none => false
    | some b => !decide (s = b.part) && decide (s + b.wid ≤ H.parts)
@[simp] theorem encOB_none : encOB none = .non := rfl
@[simp] theorem encOB_some (b : Bk) : encOB (some b) = b.enc := rfl
@[simp] theorem cancel_ix1 (d p : Int) : gIx (.p (Dd.cancel d p).enc) (.p (.int 1)) st = .ok (.p (.int d)) st := rfl
@[simp] theorem cancel_ix2 (d p : Int) : gIx (.p (Dd.cancel d p).enc) (.p (.int 2)) st = .ok (.p (.int p)) st := rfl
@[simp] theorem firm_ix1 (d p : Int) : gIx (.p (Dd.firm d p).enc) (.p (.int 1)) st = .ok (.p (.int d)) st := rfl
@[simp] theorem firm_ix2 (d p : Int) : gIx (.p (Dd.firm d p).enc) (.p (.int 2)) st = .ok (.p (.int p)) st := rfl
@[simp] theorem longer_ix1 (d p : Int) : gIx (.p (Dd.longer d p).enc) (.p (.int 1)) st = .ok (.p (.int d)) st := rfl
@[simp] theorem longer_ix2 (d p : Int) : gIx (.p (Dd.longer d p).enc) (.p (.int 2)) st = .ok (.p (.int p)) st := rfl
@[simp] theorem move_ix1 (d p s : Int) : gIx (.p (Dd.move d p s).enc) (.p (.int 1)) st = .ok (.p (.int d)) st := rfl
@[simp] theorem move_ix2 (d p s : Int) : gIx (.p (Dd.move d p s).enc) (.p (.int 2)) st = .ok (.p (.int p)) st := rfl
@[simp] theorem move_ix3 (d p s : Int) : gIx (.p (Dd.move d p s).enc) (.p (.int 3)) st = .ok (.p (.int s)) st := rfl
theorem can_be_ok {H : HD} {bs : List Bk} (hb : Fits bs) (x : Dd) : g_can_be [.p H.enc, .p (.tup (bs.map Bk.enc)), .p x.enc] st = .ok (.p (.bl (canBe H bs x))) st := by
  apply gDef_of
  cases x with
  | ask h w d l => cases h <;> simp [runF_ap, f_can_be, c_ASK, c_HOLD, askW, canBe]
  | lapse =>
    simp [runF_ap, f_can_be, c_ASK, c_HOLD, c_LAPSE, Dd.word, canBe]
    rw [comp0 (enc := Bk.enc) (f := fun b => .bl b.held) (xs := bs) (st1 := st)]
    · simp [any_bl]
    · simp
    · have := hb.n; omega
    · intro b _
      exact ⟨_, rfl, by simp⟩
  | cancel d p =>
    cases e : taker bs d p <;> simp [runF_ap, f_can_be, c_ASK, c_HOLD, c_LAPSE, c_CANCEL, Dd.word, canBe, taker_ok hb, e]
  | firm d p =>
    cases e : taker bs d p <;> simp [runF_ap, f_can_be, c_ASK, c_HOLD, c_LAPSE, c_CANCEL, c_FIRM, Dd.word, canBe, taker_ok hb, e]
  | longer d p =>
    cases e : taker bs d p <;> simp [runF_ap, f_can_be, c_ASK, c_HOLD, c_LAPSE, c_CANCEL, c_FIRM, c_LONGER, Dd.word, canBe, taker_ok hb, e]
  | move d p s =>
    cases e : taker bs d p with
    | none => simp [runF_ap, f_can_be, c_ASK, c_HOLD, c_LAPSE, c_CANCEL, c_FIRM, c_LONGER, Dd.word, canBe, taker_ok hb, e]
    | some b =>
      simp [runF_ap, f_can_be, c_ASK, c_HOLD, c_LAPSE, c_CANCEL, c_FIRM, c_LONGER, Dd.word, canBe, taker_ok hb, e]
      split <;> simp_all
theorem bk_ne (a b : Bk) : gEqD true (.p a.enc) (.p b.enc) st = .ok (.p (.bl (!decide (a = b)))) st := gNe_enc st a b
def othersOf (bs : List Bk) (own : Bk) : List Bk := bs.filter fun b => !decide (b = own)
theorem others_of_ok {bs : List Bk} (hb : bs.length ≤ 1001) (own : Bk) : g_others_of [.p (.tup (bs.map Bk.enc)), .p own.enc] st = .ok (.p (.tup ((othersOf bs own).map Bk.enc))) st := by
  apply gDef_of
  simp [runF_ap, f_others_of]
  rw [comp1 (enc := Bk.enc) (c := fun b => !decide (b = own)) (f := Bk.enc) (xs := bs) (st1 := st)]
  · simp [othersOf]
  · simp
  · omega
  · intro b _
    exact ⟨_, rfl, by simp [bk_ne], fun _ => by simp⟩
def letThere (H : HD) (b : Bk) (os : List Bk) : Bool := isFree b os && (decide (H.ck = .cells) || !clashes b os)
theorem is_let_there_ok {H : HD} {b : Bk} {os : List Bk} (hb : b.fit) (h : Fits os) : g_is_let_there [.p H.enc, .p b.enc, .p (.tup (os.map Bk.enc))] st = .ok (.p (.bl (letThere H b os))) st := by
  apply gDef_of
  simp [runF_ap, f_is_let_there, is_free_tup hb h, clashes_tup b h.n, letThere]
  (repeat' split) <;> simp_all
def meets (b own : Bk) : Bool := (cells b).any fun c => decide (c ∈ cells own)
def withB (bs : List Bk) (own : Bk) : List Bk := sortE (bs.filter (fun b => !meets b own) ++ [own])
theorem in_cells2 (c : Int × Int) (b : Bk) : gIn false (.p (Enc.enc c)) (.p (.lst ((cells b).map Enc.enc))) st = .ok (.p (.bl (decide (c ∈ cells b)))) st := by
  rw [gIn_lst]; simp
theorem with_booking_ok {own : Bk} {bs : List Bk} (ho : own.fit) (h : Fits bs) : g_with_booking [.p (.tup (bs.map Bk.enc)), .p own.enc] st = .ok (.p (.tup ((withB bs own).map Bk.enc))) st := by
  apply gDef_of
  simp [runF_ap, f_with_booking, cells_of_ok ho]
  rw [comp1 (enc := Bk.enc) (c := fun b => !meets b own) (f := Bk.enc) (xs := bs) (st1 := st)]
  · have hl : (bs.filter fun b => !meets b own).length ≤ 1000 := Nat.le_trans (List.length_filter_le _ _) h.n
    have hs := sorted_bk (st := st) (bs.filter (fun b => !meets b own) ++ [own])
    rw [List.map_append, List.map_singleton] at hs
    have e1 : pureSs ((bs.filter fun b => !meets b own).map (fun b => S.p b.enc) ++ [S.p own.enc]) = some ((bs.filter fun b => !meets b own).map Bk.enc ++ [own.enc]) := by
      have := pureSs_mapp2 ((bs.filter fun b => !meets b own).map Bk.enc) [S.p own.enc]
      simpa [Function.comp_def] using this
    simp [e1, hs, withB, Function.comp_def]
    omega
  · simp
  · have := h.n; omega
  · intro b hb
    refine ⟨_, rfl, ?_, fun _ => by simp⟩
    simp
    rw [comp0 (enc := Enc.enc) (f := fun c => .bl (decide (c ∈ cells own))) (xs := cells b) (st1 := st)]
    · simp [any_bl, meets]
    · simp [cells_of_ok (h.f b hb)]
    · have := cells_len (h.f b hb); omega
    · intro c _
      exact ⟨_, rfl, by simp [in_cells2]⟩
/-! ### what comes of a deed -/
theorem clean_len {p : P} {st st' : Store} (h : st'.length = st.length) : clean (.ok (.p p) st') st = .ok (.p p) st' := by
  unfold clean
  by_cases e : eqSt (st'.take st.length) st = true
  · simp only [e, if_true]
    have := eqSt_ok e
    rw [List.take_of_length_le (by omega)] at this
    rw [this]
  · simp only [e]
    rfl
theorem gDef_len {N : Nat} {f : XS} {us : List S} {p : P} {st' : Store} (h : runF N f us st = .ok (.p p) st') (hl : st'.length = st.length) : gDef N f us st = .ok (.p p) st' := by
  unfold gDef
  rw [h, clean_len hl]
theorem mk_done (a b c : P) : m_Done [.p a, .p b, .p c] st = .ok (.p (.obj 13 [("answer", a), ("behind", b), ("own", c)])) st := by
  have n1 : (("answer" : Str) = "behind") = False := by simp; decide
  have n2 : (("answer" : Str) = "own") = False := by simp; decide
  have n3 : (("behind" : Str) = "own") = False := by simp; decide
  have e : g_Done___init__ [.c st.length, .p a, .p b, .p c] (st ++ [.obj 13 []]) = .ok (.p .non) (st ++ [.obj 13 [("answer", .p a), ("behind", .p b), ("own", .p c)]]) := by
    apply gDef_len
    · simp [runF_ap, f_Done___init__, putFS, n1, n2, n3]
    · simp
  show gMkF (.obj 13 []) g_Done___init__ [.p a, .p b, .p c] st = _
  unfold gMkF
  rw [e]
  simp [frzO, pureKs, eqSt_self]
/-- what a deed tells -/
inductive Ans where
  | non | int (i : Int) | bl (b : Bool)
  deriving DecidableEq, Inhabited
def Ans.enc : Ans → P
  | .non => .non
  | .int i => .int i
  | .bl b => .bl b
structure DN where
  answer : Ans
  behind : List Bk
  own : Option Bk
  deriving DecidableEq, Inhabited
def DN.enc (x : DN) : P := .obj 13 [("answer", x.answer.enc), ("behind", .tup (x.behind.map Bk.enc)), ("own", encOB x.own)]
def doneWith (H : HD) (bs : List Bk) : Dd → DN
  | .ask h w d l => match startGiven H h w d l bs with
    | none => ⟨.non, bs, none⟩
    | some s => ⟨.int s, withB bs (bkAt h w d l s), some (bkAt h w d l s)⟩
  | .lapse => ⟨.bl true, firmB bs, none⟩
  | .cancel d p => match taker bs d p with
    | none => default
    | some b => ⟨.bl true, othersOf bs b, none⟩
  | .firm d p => match taker bs d p with
    | none => default
    | some b => ⟨.bl true, sortE (othersOf bs b ++ [{ b with held := false }]), none⟩
  | .longer d p => match taker bs d p with
    | none => default
    | some b => if letThere H { b with len := b.len + 1 } (othersOf bs b) = true then ⟨.bl true, sortE (othersOf bs b ++ [{ b with len := b.len + 1 }]), some { b with len := b.len + 1 }⟩ else ⟨.bl false, bs, none⟩
  | .move d p s => match taker bs d p with
    | none => default
    | some b => if letThere H { b with part := s } (othersOf bs b) = true then ⟨.bl true, sortE (othersOf bs b ++ [{ b with part := s }]), some { b with part := s }⟩ else ⟨.bl false, bs, none⟩
/-- a deed of the hall, within reason -/
def Dd.fit (H : HD) : Dd → Prop
  | .ask _ w _ l => (1 ≤ w ∧ w ≤ H.parts) ∧ (1 ≤ l ∧ l ≤ H.days)
  | _ => True
theorem taker_mem {bs : List Bk} {d p : Int} {b : Bk} (h : taker bs d p = some b) : b ∈ bs := List.mem_of_find?_eq_some h
theorem others_sorted {os : List Bk} (hl : os.length ≤ 1001) (b : Bk) : ∀ env : Q.Env, True := fun _ => trivial
@[simp] theorem sorted_snoc (os : List Bk) (d p l w : Int) (h : Bool) : gSorted [S.p (P.lst (os.map Bk.enc ++ [P.tup [P.int d, P.int p, P.int l, P.int w, P.bl h]]))] st = .ok (.p (.lst ((sortE (os ++ [⟨d, p, l, w, h⟩])).map Bk.enc))) st := by
  have := sorted_bk (st := st) (os ++ [⟨d, p, l, w, h⟩])
  rw [List.map_append] at this
  exact this
theorem bk_mk (d p l w : Int) (h : Bool) : Bk.enc ⟨d, p, l, w, h⟩ = .tup [.int d, .int p, .int l, .int w, .bl h] := rfl
theorem done_with_ok {H : HD} (hH : H.ok) {bs : List Bk} (hb : Fits bs) (hdy : ∀ b ∈ bs, 0 ≤ b.day) {x : Dd} (hx : x.fit H) (hc : canBe H bs x = true) : g_done_with [.p H.enc, .p (.tup (bs.map Bk.enc)), .p x.enc] st = .ok (.p (doneWith H bs x).enc) st := by
  apply gDef_of
  have hp := hH.parts
  have hd := hH.days
  cases x with
  | ask h w d l =>
    have ha : askFit w l := by simp only [Dd.fit] at hx; unfold askFit; omega
    have hw : 0 < w := by simp only [Dd.fit] at hx; omega
    have hq : (askW h = .ask ∨ askW h = .hold) := by cases h <;> simp [askW]
    have hq' : (decide (askW h = .ask) || decide (askW h = .hold)) = true := by simpa using hq
    cases e : startGiven H h w d l bs with
    | none => cases h <;> simp [runF_ap, f_done_with, c_ASK, c_HOLD, askW, start_given_ok hH ha hw hb, e, encOI, mk_done, doneWith, DN.enc, Ans.enc]
    | some s => cases h <;> simp [runF_ap, f_done_with, c_ASK, c_HOLD, askW, start_given_ok hH ha hw hb, e, encOI, mk_done, doneWith, DN.enc, Ans.enc, asked_at_ok, with_booking_ok (bkAt_fit ha) hb]
  | lapse =>
    simp [runF_ap, f_done_with, c_ASK, c_HOLD, c_LAPSE, Dd.word]
    rw [comp1 (enc := Bk.enc) (c := fun b => !b.held) (f := Bk.enc) (xs := bs) (st1 := st)]
    · simp [mk_done, doneWith, DN.enc, Ans.enc, firmB]
    · simp
    · have := hb.n; omega
    · intro b _
      exact ⟨_, rfl, by simp, fun _ => by simp⟩
  | cancel d p =>
    cases e : taker bs d p with
    | none => simp [canBe, e] at hc
    | some b => simp [runF_ap, f_done_with, c_ASK, c_HOLD, c_LAPSE, c_CANCEL, Dd.word, taker_ok hb, e, others_of_ok (Nat.le_succ_of_le hb.n), mk_done, doneWith, DN.enc, Ans.enc]
  | firm d p =>
    cases e : taker bs d p with
    | none => simp [canBe, e] at hc
    | some b =>
      have hl : (othersOf bs b).length ≤ 1001 := Nat.le_succ_of_le (Nat.le_trans (List.length_filter_le _ _) hb.n)
      have hl2 : (othersOf bs b).length + 1 ≤ 16777216 := by omega
      simp [runF_ap, f_done_with, c_ASK, c_HOLD, c_LAPSE, c_CANCEL, c_FIRM, Dd.word, taker_ok hb, e, others_of_ok (Nat.le_succ_of_le hb.n), mk_done, doneWith, DN.enc, Ans.enc, hl2]
  | longer d p =>
    cases e : taker bs d p with
    | none => simp [canBe, e] at hc
    | some b =>
      have hl : (othersOf bs b).length ≤ 1001 := Nat.le_succ_of_le (Nat.le_trans (List.length_filter_le _ _) hb.n)
      have hl2 : (othersOf bs b).length + 1 ≤ 16777216 := by omega
      have hfb := hb.f b (taker_mem e)
      have hF : Fits (othersOf bs b) := hb.filter _
      have hl3 : b.len ≤ 9 := by
        have h0 := hdy b (taker_mem e)
        simp [canBe, e] at hc
        omega
      have hf : (⟨b.day, b.part, b.len + 1, b.wid, b.held⟩ : Bk).fit := by unfold Bk.fit at hfb ⊢; simp only; omega
      have h1 : g_is_let_there [.p H.enc, .p (P.tup [P.int b.day, P.int b.part, P.int (b.len + 1), P.int b.wid, P.bl b.held]), .p (.tup ((othersOf bs b).map Bk.enc))] st = .ok (.p (.bl (letThere H ⟨b.day, b.part, b.len + 1, b.wid, b.held⟩ (othersOf bs b)))) st := is_let_there_ok (b := ⟨b.day, b.part, b.len + 1, b.wid, b.held⟩) hf hF
      cases e2 : letThere H { b with len := b.len + 1 } (othersOf bs b) <;> simp [runF_ap, f_done_with, c_ASK, c_HOLD, c_LAPSE, c_CANCEL, c_FIRM, c_LONGER, Dd.word, taker_ok hb, e, others_of_ok (Nat.le_succ_of_le hb.n), mk_done, doneWith, DN.enc, Ans.enc, hl2, h1, e2, bk_mk]
  | move d p s =>
    cases e : taker bs d p with
    | none => simp [canBe, e] at hc
    | some b =>
      have hl : (othersOf bs b).length ≤ 1001 := Nat.le_succ_of_le (Nat.le_trans (List.length_filter_le _ _) hb.n)
      have hl2 : (othersOf bs b).length + 1 ≤ 16777216 := by omega
      have hfb := hb.f b (taker_mem e)
      have hF : Fits (othersOf bs b) := hb.filter _
      have hf : (⟨b.day, s, b.len, b.wid, b.held⟩ : Bk).fit := hfb
      have h1 : g_is_let_there [.p H.enc, .p (P.tup [P.int b.day, P.int s, P.int b.len, P.int b.wid, P.bl b.held]), .p (.tup ((othersOf bs b).map Bk.enc))] st = .ok (.p (.bl (letThere H ⟨b.day, s, b.len, b.wid, b.held⟩ (othersOf bs b)))) st := is_let_there_ok (b := ⟨b.day, s, b.len, b.wid, b.held⟩) hf hF
      cases e2 : letThere H { b with part := s } (othersOf bs b) <;> simp [runF_ap, f_done_with, c_ASK, c_HOLD, c_LAPSE, c_CANCEL, c_FIRM, c_LONGER, Dd.word, taker_ok hb, e, others_of_ok (Nat.le_succ_of_le hb.n), mk_done, doneWith, DN.enc, Ans.enc, hl2, h1, e2, bk_mk]
end QS

set_option Elab.async false
set_option linter.all false
set_option maxRecDepth 100000
set_option maxHeartbeats 4000000
/-! V9: room, findings. -/
namespace QS
open PySem L2 Q
variable {st : Store}
def Bk.at (b : Bk) (s : Int) : Bk := { b with part := s }
def hasRoom (H : HD) : List Bk → List Bk → Bool
  | [], _ => true
  | b :: r, laid => (starts H b.wid).any fun s => suits (b.at s) laid && hasRoom H r (laid ++ [b.at s])
@[simp] theorem sl_tail (x : P) (r : List P) : slS (.p (.tup (x :: r))) (some 1) none st = .ok (.p (.tup r)) st := by
  have e : cutL (x :: r) (some 1) none = r := by
    unfold cutL
    simp [HT.sIx]
  show R.ok (S.p (P.tup (cutL (x :: r) (some 1) none))) st = _
  rw [e]
@[simp] theorem sl_tailL (x : P) (r : List P) : slS (.p (.lst (x :: r))) (some 1) none st = .ok (.p (.lst r)) st := by
  have e : cutL (x :: r) (some 1) none = r := by
    unfold cutL
    simp [HT.sIx]
  show R.ok (S.p (P.lst (cutL (x :: r) (some 1) none))) st = _
  rw [e]
theorem tup_eq_nil (bs : List Bk) : gEqD false (.p (.tup (bs.map Bk.enc))) (.p (.tup [])) st = .ok (.p (.bl (decide (bs = [])))) st := gEq_tup st bs []
theorem find_any {α : Type} (c : α → Bool) (xs : List α) : (xs.find? c).isSome = xs.any c := by
  induction xs with
  | nil => rfl
  | cons x r ih => simp only [List.find?_cons, List.any_cons]; cases c x <;> simp [ih]
theorem Fits.snoc {bs : List Bk} {b : Bk} (h : ∀ b ∈ bs, b.fit) (hl : bs.length < 1000) (hb : b.fit) : Fits (bs ++ [b]) := ⟨by simp; omega, fun x hx => by
  rcases List.mem_append.mp hx with h1 | h1
  · exact h x h1
  · simp at h1; subst h1; exact hb⟩
theorem has_room_rec {H : HD} (hH : H.ok) : ∀ (n : Nat) (rows laid : List Bk) (st : Store), rows.length < n → rows.length + laid.length ≤ 1000 → (∀ b ∈ rows, b.fit) → (∀ b ∈ laid, b.fit) →
    gRec 10 f_has_room n [.p H.enc, .p (.tup (rows.map Bk.enc)), .p (.tup (laid.map Bk.enc))] st = .ok (.p (.bl (hasRoom H rows laid))) st
  | 0, rows, laid, st, hn, _, _, _ => absurd hn (Nat.not_lt_zero _)
  | n + 1, [], laid, st, hn, hl, hr, hf => by
    show gDef 10 (f_has_room (gRec 10 f_has_room n)) _ st = _
    apply gDef_of
    have := tup_eq_nil (st := st) []
    simp only [List.map_nil] at this
    simp [runF_ap, f_has_room, hasRoom, this]
  | n + 1, b :: r, laid, st, hn, hl, hr, hf => by
    show gDef 10 (f_has_room (gRec 10 f_has_room n)) _ st = _
    apply gDef_of
    have hb := hr b (.head _)
    have h0 : Fits laid := ⟨by simp at hl; omega, hf⟩
    have h1 := tup_eq_nil (st := st) (b :: r)
    simp only [List.map_cons] at h1
    have hp := hH.parts
    have hw : 0 ≤ b.wid ∧ b.wid ≤ 10 := hb.2
    simp [runF_ap, f_has_room, h1, starts_for_ok hH hw]
    rcases forLoop_find (t := .one 8) (body := (sSeq (sSet 9 (eTup (aCons (eVar 3) (aCons (eVar 8) (aCons (eVar 5) (aCons (eVar 6) (aCons (eVar 7) aNil))))))) (sIf (eAnd (eCall 2 g_does_suit (aCons (eVar 9) (aCons (eVar 2) aNil))) (eCall 3 (gRec 10 f_has_room n) (aCons (eVar 0) (aCons (eSl (eVar 1) (oSome (eC (.int 1))) oNone) (aCons (eTup (aStar (eVar 2) (aCons (eVar 9) aNil))) aNil))))) (sRet (eC (.bl true))) sNext))) (st := st)
      (fun e => ∃ z1 z2, e = [some (S.p H.enc), some (S.p (.tup (b.enc :: r.map Bk.enc))), some (S.p (.tup (laid.map Bk.enc))), some (S.p (.int b.day)), some (S.p (.int b.part)), some (S.p (.int b.len)), some (S.p (.int b.wid)), some (S.p (.bl b.held)), z1, z2]) P.int (fun s => suits (b.at s) laid && hasRoom H r (laid ++ [b.at s])) (fun _ => S.p (.bl true)) (xs := starts H b.wid)
      (env := [some (S.p H.enc), some (S.p (.tup (b.enc :: r.map Bk.enc))), some (S.p (.tup (laid.map Bk.enc))), some (S.p (.int b.day)), some (S.p (.int b.part)), some (S.p (.int b.len)), some (S.p (.int b.wid)), some (S.p (.bl b.held)), none, none]) ⟨none, none, rfl⟩ (by
        rintro s hs env ⟨z1, z2, rfl⟩
        have hsf : (b.at s).fit := hb
        have k1 : g_does_suit [.p (P.tup [P.int b.day, P.int s, P.int b.len, P.int b.wid, P.bl b.held]), .p (.tup (laid.map Bk.enc))] st = .ok (.p (.bl (suits (b.at s) laid))) st := does_suit_tup (b := b.at s) hsf h0
        have k2 := has_room_rec hH n r (laid ++ [b.at s]) st (by simpa using hn) (by simp at hl ⊢; omega) (fun x hx => hr x (.tail _ hx)) (fun x hx => (Fits.snoc hf (by simp at hl; omega) hsf).f x hx)
        rw [List.map_append] at k2
        have k3 : (laid.map Bk.enc ++ [b.at s].map Bk.enc) = laid.map Bk.enc ++ [P.tup [P.int b.day, P.int s, P.int b.len, P.int b.wid, P.bl b.held]] := rfl
        rw [k3] at k2
        have k4 : laid.length + 1 ≤ 16777216 := by simp at hl; omega
        refine ⟨[some (S.p H.enc), some (S.p (.tup (b.enc :: r.map Bk.enc))), some (S.p (.tup (laid.map Bk.enc))), some (S.p (.int b.day)), some (S.p (.int b.part)), some (S.p (.int b.len)), some (S.p (.int b.wid)), some (S.p (.bl b.held)), some (S.p (.int s)), z2], by simp, fun hc => ?_, fun hc => ⟨[some (S.p H.enc), some (S.p (.tup (b.enc :: r.map Bk.enc))), some (S.p (.tup (laid.map Bk.enc))), some (S.p (.int b.day)), some (S.p (.int b.part)), some (S.p (.int b.len)), some (S.p (.int b.wid)), some (S.p (.bl b.held)), some (S.p (.int s)), some (S.p (P.tup [P.int b.day, P.int s, P.int b.len, P.int b.wid, P.bl b.held]))], ?_, ⟨_, _, rfl⟩⟩⟩
        · rw [Bool.and_eq_true] at hc
          simp [k1, k2, hc.1, hc.2, k4]
        · cases e1 : suits (b.at s) laid with
          | false => simp [k1, e1]
          | true =>
            rw [e1, Bool.true_and] at hc
            simp [k1, e1, k2, hc, k4]) with ⟨x, g1, g2⟩ | ⟨g1, e, g2, _⟩
    · simp only [Function.comp_def]
      rw [g2]
      have : (starts H b.wid).any (fun s => suits (b.at s) laid && hasRoom H r (laid ++ [b.at s])) = true := by rw [← find_any, g1]; rfl
      simp [hasRoom, this]
    · simp only [Function.comp_def]
      rw [g2]
      have : (starts H b.wid).any (fun s => suits (b.at s) laid && hasRoom H r (laid ++ [b.at s])) = false := by rw [← find_any, g1]; rfl
      simp [hasRoom, this]
theorem has_room_ok {H : HD} (hH : H.ok) {rows : List Bk} (hn : rows.length < 50) (hr : ∀ b ∈ rows, b.fit) :
    g_has_room [.p H.enc, .p (.tup (rows.map Bk.enc)), .p (.tup [])] st = .ok (.p (.bl (hasRoom H rows []))) st :=
  has_room_rec hH 50 rows [] st hn (by simp; omega) hr (fun _ h => by cases h)
end QS

set_option Elab.async false
set_option linter.all false
set_option maxRecDepth 100000
set_option maxHeartbeats 4000000
/-! V10: findings; what a deed leads to. -/
namespace QS
open PySem L2 Q
variable {st : Store}
inductive Fd where
  | clash (w : Wo) | crowded (w : Int) | dropped (w : Int) | refused (w : Int)
  deriving DecidableEq, Inhabited
def Fd.enc : Fd → P
  | .clash w => .tup [.str Wo.clash.s, .str w.s]
  | .crowded w => .tup [.str Wo.crowded.s, .int w]
  | .dropped w => .tup [.str Wo.dropped.s, .int w]
  | .refused w => .tup [.str Wo.refused.s, .int w]
def nearOf (h : Bool) (w d l : Int) (bs : List Bk) : List Bk := bs.filter fun b => shares d b.day l b.len
def restOf (h : Bool) (w d l : Int) (bs : List Bk) : List Bk := bs.filter fun b => !decide (b ∈ nearOf h w d l bs)
def refusal (H : HD) (h : Bool) (w d l : Int) (bs : List Bk) : List Fd :=
  if suiting H h w d l bs ≠ [] then [.refused w] else if hasRoom H (bkAt h w d l 0 :: (nearOf h w d l bs ++ restOf h w d l bs)) [] = true then [.crowded w] else []
@[simp] theorem nil_ne_nil : gEqD true (.p (.lst [])) (.p (.lst [])) st = .ok (.p (.bl false)) st := gNe_lst (α := Int) st [] []
@[simp] theorem nil_eq_nil : gEqD false (.p (.lst [])) (.p (.lst [])) st = .ok (.p (.bl true)) st := gEq_lst (α := Int) st [] []
theorem in_near (b : Bk) (os : List Bk) : gIn true (.p b.enc) (.p (.tup (os.map Bk.enc))) st = .ok (.p (.bl (!decide (b ∈ os)))) st := by
  have := gIn_tup true st b os (by decide)
  simp only [if_true] at this
  exact this
theorem near_rest (h : Bool) (w d l : Int) (bs : List Bk) : (nearOf h w d l bs ++ restOf h w d l bs).length ≤ bs.length := by
  have key : ∀ (p q : Bk → Bool) (l : List Bk), (∀ b ∈ l, q b = true → p b = false) → (l.filter p).length + (l.filter q).length ≤ l.length := by
    intro p q l
    induction l with
    | nil => intro _; simp
    | cons x r ih =>
      intro hpq
      have ih := ih fun b hb => hpq b (.tail _ hb)
      simp only [List.filter_cons, List.length_cons]
      cases hp : p x <;> cases hq : q x
      · simp; omega
      · simp; omega
      · simp; omega
      · have := hpq x (.head _) hq; rw [hp] at this; cases this
  rw [List.length_append]
  refine key _ _ bs fun b hb hq => ?_
  cases hp : shares d b.day l b.len with
  | false => rfl
  | true =>
    have : b ∈ nearOf h w d l bs := List.mem_filter.mpr ⟨hb, hp⟩
    rw [decide_eq_true this] at hq; cases hq
theorem refusal_ok {H : HD} (hH : H.ok) {h : Bool} {w d l : Int} (ha : askFit w l) {bs : List Bk} (hb : Fits bs) (hn : bs.length ≤ 45) :
    g_refusal_findings [.p H.enc, .p (Dd.ask h w d l).enc, .p (.tup (bs.map Bk.enc))] st = .ok (.p (.lst ((refusal H h w d l bs).map Fd.enc))) st := by
  apply gDef_of
  have hx := near_rest h w d l bs
  by_cases e : suiting H h w d l bs = []
  · simp [runF_ap, f_refusal_findings, suiting_ok hH ha hb, lst_nil_ne, e, refusal, asked_at_ok]
    rw [comp1 (enc := Bk.enc) (c := fun b => shares d b.day l b.len) (f := Bk.enc) (xs := bs) (st1 := st)]
    · rw [show (bs.filter fun b => shares d b.day l b.len) = nearOf h w d l bs from rfl]
      simp
      rw [comp1 (enc := Bk.enc) (c := fun b => !decide (b ∈ nearOf h w d l bs)) (f := Bk.enc) (xs := bs) (st1 := st)]
      · rw [show (bs.filter fun b => !decide (b ∈ nearOf h w d l bs)) = restOf h w d l bs from rfl]
        have hl : (bkAt h w d l 0 :: (nearOf h w d l bs ++ restOf h w d l bs)).length < 50 := by simp at hx ⊢; omega
        have hf : ∀ b ∈ (bkAt h w d l 0 :: (nearOf h w d l bs ++ restOf h w d l bs)), b.fit := by
          intro b hb'
          rcases List.mem_cons.mp hb' with rfl | hb'
          · exact bkAt_fit ha
          · rcases List.mem_append.mp hb' with h1 | h1 <;> exact hb.f b (List.mem_filter.mp h1).1
        have h1 := has_room_ok (st := st) hH hl hf
        simp only [List.map_cons, List.map_append] at h1
        have h2 : (nearOf h w d l bs).length + (restOf h w d l bs).length + 1 ≤ 16777216 := by simp at hl; omega
        cases e2 : hasRoom H (bkAt h w d l 0 :: (nearOf h w d l bs ++ restOf h w d l bs)) [] with
        | true =>
          rw [e2] at h1
          simp [h1, h2, Fd.enc]
        | false =>
          rw [e2] at h1
          simp [h1, h2]
      · simp
      · have := hb.n; omega
      · intro b _
        exact ⟨_, rfl, by simp [in_near], fun _ => by simp⟩
    · simp
    · have := hb.n; omega
    · intro b _
      exact ⟨_, rfl, by simp [do_share_ok, bkAt], fun _ => by simp⟩
  · simp [runF_ap, f_refusal_findings, suiting_ok hH ha hb, lst_nil_ne, e, refusal, Fd.enc]
end QS

set_option Elab.async false
set_option linter.all false
set_option maxRecDepth 100000
set_option maxHeartbeats 4000000
/-! V11: what a deed leads to, with its findings; rows of deeds. -/
namespace QS
open PySem L2 Q
variable {st : Store}
@[simp] theorem lk_answer (a b c : S) : List.lookup (Str.ofString "answer") [(Str.ofString "answer", a), (Str.ofString "behind", b), (Str.ofString "own", c)] = some a := rfl
@[simp] theorem lk_behind (a b c : S) : List.lookup (Str.ofString "behind") [(Str.ofString "answer", a), (Str.ofString "behind", b), (Str.ofString "own", c)] = some b := rfl
@[simp] theorem lk_own (a b c : S) : List.lookup (Str.ofString "own") [(Str.ofString "answer", a), (Str.ofString "behind", b), (Str.ofString "own", c)] = some c := rfl
@[simp] theorem fld_dn (x : DN) : fldS st (.p x.enc) = some (13, [(Str.ofString "answer", .p x.answer.enc), (Str.ofString "behind", .p (.tup (x.behind.map Bk.enc))), (Str.ofString "own", .p (encOB x.own))]) := rfl
def clashF (dn : DN) (w : Wo) : List Fd := match dn.own with
  | none => []
  | some o => if clashes o (othersOf dn.behind o) = true then [.clash w] else []
def dropF (H : HD) (bs : List Bk) (dn : DN) : Dd → List Fd
  | .ask false w d l => if dn.behind.length ≤ bs.length ∧ suiting H false w d l bs ≠ [] then [.dropped w] else []
  | _ => []
def findingsOf (H : HD) (bs : List Bk) (dn : DN) : Dd → List Fd
  | .ask h w d l => if dn.own = none then refusal H h w d l bs else clashF dn (askW h) ++ dropF H bs dn (.ask h w d l)
  | x => clashF dn x.word
@[simp] theorem isLst_last (st : Store) (xs : List S) : isLst (st ++ [.lst xs]) (.c st.length) = true := by simp [isLst]
@[simp] theorem append_last (st : Store) (xs : List S) (v : S) : gAppend (.c st.length) [v] (st ++ [.lst xs]) = if xs.length < 16777216 then .ok (.p .non) (st ++ [.lst (xs ++ [v])]) else .stuck := by
  simp [gAppend]
@[simp] theorem frzS_last (st : Store) (xs : List S) : frzS (.c st.length) (st ++ [.lst xs]) = match (pureSs xs).map P.lst with
  | some x => .ok (.p x) (st ++ [.dead])
  | none => .stuck := by
  simp only [frzS, List.getElem?_concat_length, frzC, frzO]
  cases pureSs xs <;> simp [frzD]
theorem findings_of_ok {H : HD} (hH : H.ok) {bs : List Bk} (hb : Fits bs) (hn : bs.length ≤ 45) {x : Dd} (hx : x.fit H) {dn : DN} (hl : dn.behind.length ≤ 1000) :
    g_findings_of [.p H.enc, .p x.enc, .p (.tup (bs.map Bk.enc)), .p dn.enc] st = .ok (.p (.lst ((findingsOf H bs dn x).map Fd.enc))) st := by
  have hp := hH.parts
  have hd := hH.days
  have ho : ∀ o, (othersOf dn.behind o).length ≤ 1000 := fun o => Nat.le_trans (List.length_filter_le _ _) hl
  have hl' : dn.behind.length ≤ 1001 := by omega
  cases x with
  | ask h w d l =>
    have ha : askFit w l := by simp only [Dd.fit] at hx; unfold askFit; omega
    cases e : dn.own with
    | none =>
      apply gDef_of
      cases h <;> simp [runF_ap, f_findings_of, c_ASK, c_HOLD, askW, e, findingsOf, refusal_ok hH ha hb hn]
    | some o =>
      apply gDef_new (new := [.dead])
      have k1 := clashes_tup (st := st ++ [.lst []]) o (ho o)
      have k2 := others_of_ok (st := st ++ [.lst []]) hl' o
      have k3 : ∀ st : Store, g_suiting [.p H.enc, .p (Dd.ask h w d l).enc, .p (.tup (bs.map Bk.enc))] st = .ok (.p (.lst ((suiting H h w d l bs).map P.int))) st := fun st => suiting_ok hH ha hb
      have e3 : (suiting H h w d l bs = [] ∨ suiting H h w d l bs ≠ []) := by by_cases q : suiting H h w d l bs = [] <;> simp [q]
      cases h with
      | true =>
        cases e1 : clashes o (othersOf dn.behind o) <;> simp [runF_ap, f_findings_of, c_ASK, c_HOLD, askW, e, findingsOf, k1, k2, e1, clashF, dropF, sFrz_ap, frzC, frzO, Fd.enc]
      | false =>
        by_cases e2 : dn.behind.length ≤ bs.length
        · by_cases q : suiting H false w d l bs = []
          · cases e1 : clashes o (othersOf dn.behind o) <;> simp [runF_ap, f_findings_of, c_ASK, c_HOLD, askW, e, findingsOf, k1, k2, k3, e1, e2, q, clashF, dropF, sFrz_ap, frzC, frzO, Fd.enc]
          · cases e1 : clashes o (othersOf dn.behind o) <;> simp [runF_ap, f_findings_of, c_ASK, c_HOLD, askW, e, findingsOf, k1, k2, k3, e1, e2, q, lst_nil_ne, clashF, dropF, sFrz_ap, frzC, frzO, Fd.enc]
        · cases e1 : clashes o (othersOf dn.behind o) <;> simp [runF_ap, f_findings_of, c_ASK, c_HOLD, askW, e, findingsOf, k1, k2, k3, e1, e2, clashF, dropF, sFrz_ap, frzC, frzO, Fd.enc]
  | _ =>
    apply gDef_new (new := [.dead])
    cases e : dn.own with
    | none => simp [runF_ap, f_findings_of, c_ASK, c_HOLD, e, findingsOf, clashF, Dd.word, sFrz_ap, frzC, frzO]
    | some o =>
      have k1 := clashes_tup (st := st ++ [.lst []]) o (ho o)
      have k2 := others_of_ok (st := st ++ [.lst []]) hl' o
      cases e1 : clashes o (othersOf dn.behind o) <;> simp [runF_ap, f_findings_of, c_ASK, c_HOLD, e, findingsOf, clashF, Dd.word, sFrz_ap, frzC, frzO, k1, k2, e1, Fd.enc]
def ledTo (H : HD) (bs : List Bk) (x : Dd) : Option DN := if canBe H bs x = true then some (doneWith H bs x) else none
def encODN : Option DN → P
  | none => .non
  | some x => x.enc
theorem led_to_ok {H : HD} (hH : H.ok) {bs : List Bk} (hb : Fits bs) (hdy : ∀ b ∈ bs, 0 ≤ b.day) {x : Dd} (hx : x.fit H) : g_led_to [.p H.enc, .p (.tup (bs.map Bk.enc)), .p x.enc] st = .ok (.p (encODN (ledTo H bs x))) st := by
  apply gDef_of
  by_cases e : canBe H bs x = true
  · simp [runF_ap, f_led_to, can_be_ok hb, e, done_with_ok hH hb hdy hx e, ledTo, encODN]
  · simp [runF_ap, f_led_to, can_be_ok hb, e, ledTo, encODN]
/-! ### deeds of the hall -/
def Dd.of (H : HD) : Dd → Prop
  | .ask h w d l => (h = true → Wo.hold ∈ H.words) ∧ w ∈ H.widths ∧ (1 ≤ l ∧ l ≤ H.longest) ∧ 0 ≤ d ∧ d ≤ H.days - l
  | .cancel d p => Wo.cancel ∈ H.words ∧ (0 ≤ d ∧ d < H.days) ∧ 0 ≤ p ∧ p < H.parts
  | .firm d p => Wo.firm ∈ H.words ∧ (0 ≤ d ∧ d < H.days) ∧ 0 ≤ p ∧ p < H.parts
  | .lapse => Wo.lapse ∈ H.words
  | .longer d p => Wo.longer ∈ H.words ∧ (0 ≤ d ∧ d < H.days) ∧ 0 ≤ p ∧ p < H.parts
  | .move d p s => Wo.move ∈ H.words ∧ (0 ≤ d ∧ d < H.days) ∧ (0 ≤ p ∧ p < H.parts) ∧ 0 ≤ s ∧ s < H.parts
theorem in_words (w : Wo) (ws : List Wo) (neg : Bool) : gIn neg (.p (.str w.s)) (.p (.tup (ws.map fun w => .str w.s))) st = .ok (.p (.bl (if neg = true then !decide (w ∈ ws) else decide (w ∈ ws)))) st := gIn_tup neg st w ws
theorem in_ints (w : Int) (ws : List Int) (neg : Bool) : gIn neg (.p (.int w)) (.p (.tup (ws.map P.int))) st = .ok (.p (.bl (if neg = true then !decide (w ∈ ws) else decide (w ∈ ws)))) st := gIn_tup neg st w ws
theorem is_asked_ok {H : HD} (hH : H.ok) (h : Bool) (w d l : Int) : g_is_asked [.p H.enc, .p (Dd.ask h w d l).enc] st = .ok (.p (.bl (decide (w ∈ H.widths ∧ (1 ≤ l ∧ l ≤ H.longest) ∧ 0 ≤ d ∧ d ≤ H.days - l)))) st := by
  apply gDef_of
  by_cases e : w ∈ H.widths
  · have := hH.widths w e
    simp [runF_ap, f_is_asked, is_between_int, in_ints, e, this]
    split <;> simp_all <;> omega
  · simp [runF_ap, f_is_asked, is_between_int, in_ints, e]
theorem sizes_get (w : Wo) : gGet (.p c_SIZES) [.p (.str w.s), .p (.int 0)] st = .ok (.p (.int (match w with
  | .ask => 4
  | .hold => 4
  | .cancel => 3
  | .firm => 3
  | .lapse => 1
  | .longer => 3
  | .move => 4
  | _ => 0))) st := by
  cases w <;> simp [gGet, c_SIZES, dictAtK, asKey, atK]
@[simp] theorem sizes_dct : isDct st (.p c_SIZES) = true := rfl
@[simp] theorem dd_ty (x : Dd) : tyS st (.p x.enc) = some "tuple" := by cases x <;> rfl
theorem dd_len (x : Dd) : gLen [.p x.enc] st = .ok (.p (.int (match x with
  | .ask _ _ _ _ => 4
  | .cancel _ _ => 3
  | .firm _ _ => 3
  | .lapse => 1
  | .longer _ _ => 3
  | .move _ _ _ => 4))) st := by cases x <;> simp [gLen, lenS, Dd.enc]
instance (H : HD) : DecidablePred (Dd.of H) := fun x => by
  cases x <;> (simp only [Dd.of]; infer_instance)
theorem is_deed_of {H : HD} (hH : H.ok) {x : Dd} (hx : x.of H) : g_is_deed [.p H.enc, .p x.enc] st = .ok (.p (.bl true)) st := by
  apply gDef_of
  have hp := hH.parts
  have hd := hH.days
  cases x with
  | ask h w d l =>
    have h1 := is_asked_ok (st := st) hH h w d l
    rw [decide_eq_true hx.2] at h1
    cases h with
    | true =>
      have h2 := hx.1 rfl
      simp [runF_ap, f_is_deed, dd_len, askW, sizes_get, c_ASK, c_HOLD, in_words, h1, h2]
    | false => simp [runF_ap, f_is_deed, dd_len, askW, sizes_get, c_ASK, c_HOLD, in_words, h1]
  | cancel d p =>
    obtain ⟨h1, h2, h3⟩ := hx
    have e1 : 0 ≤ d ∧ d ≤ H.days - 1 := by omega
    have e2 : 0 ≤ p ∧ p ≤ H.parts - 1 := by omega
    simp [runF_ap, f_is_deed, dd_len, Dd.word, sizes_get, c_ASK, c_HOLD, c_LAPSE, c_MOVE, in_words, h1, is_between_int, e1, e2]
  | firm d p =>
    obtain ⟨h1, h2, h3⟩ := hx
    have e1 : 0 ≤ d ∧ d ≤ H.days - 1 := by omega
    have e2 : 0 ≤ p ∧ p ≤ H.parts - 1 := by omega
    simp [runF_ap, f_is_deed, dd_len, Dd.word, sizes_get, c_ASK, c_HOLD, c_LAPSE, c_MOVE, in_words, h1, is_between_int, e1, e2]
  | lapse =>
    have h1 : Wo.lapse ∈ H.words := hx
    simp [runF_ap, f_is_deed, dd_len, Dd.word, sizes_get, c_ASK, c_HOLD, c_LAPSE, c_MOVE, in_words, h1]
  | longer d p =>
    obtain ⟨h1, h2, h3⟩ := hx
    have e1 : 0 ≤ d ∧ d ≤ H.days - 1 := by omega
    have e2 : 0 ≤ p ∧ p ≤ H.parts - 1 := by omega
    simp [runF_ap, f_is_deed, dd_len, Dd.word, sizes_get, c_ASK, c_HOLD, c_LAPSE, c_MOVE, in_words, h1, is_between_int, e1, e2]
  | move d p s =>
    obtain ⟨h1, h2, h3, h4⟩ := hx
    have e1 : 0 ≤ d ∧ d ≤ H.days - 1 := by omega
    have e2 : 0 ≤ p ∧ p ≤ H.parts - 1 := by omega
    have e3 : 0 ≤ s ∧ s ≤ H.parts - 1 := by omega
    simp [runF_ap, f_is_deed, dd_len, Dd.word, sizes_get, c_ASK, c_HOLD, c_LAPSE, c_MOVE, in_words, h1, is_between_int, e1, e2, e3]
end QS

set_option Elab.async false
set_option linter.all false
set_option maxRecDepth 100000
set_option maxHeartbeats 4000000
/-! V12: standings: in the hall, apart, in order; every deed keeps it. -/
namespace QS
open PySem L2 Q
structure Inh (H : HD) (b : Bk) : Prop where
  d0 : 0 ≤ b.day
  l1 : 1 ≤ b.len
  dl : b.day + b.len ≤ H.days
  p0 : 0 ≤ b.part
  w1 : 1 ≤ b.wid
  pw : b.part + b.wid ≤ H.parts
def apart (a b : Bk) : Prop := ∀ c, c ∈ cells a → c ∉ cells b
theorem apart_symm {a b : Bk} (h : apart a b) : apart b a := fun c h1 h2 => h c h2 h1
def leB (a b : Bk) : Prop := PySem.W.dataLe false Enc.dat a b = true
structure Std (H : HD) (bs : List Bk) : Prop where
  inh : ∀ b ∈ bs, Inh H b
  ap : bs.Pairwise apart
  srt : bs.Pairwise leB
theorem leB_total : PySem.W.TotalLe (PySem.W.dataLe false (Enc.dat : Bk → PyData)) := PySem.W.sortLe_total _ _ _
theorem sortE_srt (l : List Bk) : (sortE l).Pairwise leB := PySem.W.sort_pairwise leB_total l
theorem sortE_of {l : List Bk} (h : l.Pairwise leB) : sortE l = l := List.mergeSort_of_pairwise h
theorem Std.nil (H : HD) : Std H [] := ⟨(fun _ h => by cases h), List.Pairwise.nil, List.Pairwise.nil⟩
theorem Inh.fit {H : HD} (hH : H.ok) {b : Bk} (h : Inh H b) : b.fit := by
  have h1 := hH.parts; have h2 := hH.days
  obtain ⟨a, b, c, d, e, f⟩ := h
  unfold Bk.fit
  omega
theorem first_cell {H : HD} {b : Bk} (h : Inh H b) : (b.day, b.part) ∈ cells b := by
  have := h.l1; have := h.w1
  exact mem_cells.mpr (by omega)
theorem Std.len {H : HD} (hH : H.ok) {bs : List Bk} (h : Std H bs) : bs.length ≤ 12 := by
  have h1 : (bs.map fun b => (b.day, b.part)).Nodup := by
    unfold List.Nodup
    rw [List.pairwise_map]
    refine List.Pairwise.imp_of_mem ?_ h.ap
    intro a b ha hb hab e
    exact hab _ (first_cell (h.inh a ha)) (by rw [e]; exact first_cell (h.inh b hb))
  have h2 : (bs.map fun b => (b.day, b.part)).length ≤ ((rg 3).flatMap fun i => (rg 4).map fun j => (i, j)).length := by
    refine List.Nodup.length_le_of_subset h1 ?_
    intro c hc
    obtain ⟨b, hb, rfl⟩ := List.mem_map.mp hc
    obtain ⟨a1, a2, a3, a4, a5, a6⟩ := h.inh b hb
    have := hH.parts; have := hH.days
    refine List.mem_flatMap.mpr ⟨b.day, mem_rg.mpr (by omega), List.mem_map.mpr ⟨b.part, mem_rg.mpr (by omega), rfl⟩⟩
  rw [List.length_map] at h2
  exact h2
theorem Std.fits {H : HD} (hH : H.ok) {bs : List Bk} (h : Std H bs) : Fits bs := ⟨Nat.le_trans (h.len hH) (by decide), fun b hb => (h.inh b hb).fit hH⟩
theorem Std.filter {H : HD} {bs : List Bk} (h : Std H bs) (p : Bk → Bool) : Std H (bs.filter p) :=
  ⟨fun b hb => h.inh b (List.mem_filter.mp hb).1, h.ap.filter p, h.srt.filter p⟩
theorem Std.put {H : HD} {bs : List Bk} (h : Std H bs) {b : Bk} (hb : Inh H b) (ha : ∀ x ∈ bs, apart x b) : Std H (sortE (bs ++ [b])) := by
  have hp : (bs ++ [b]).Pairwise apart := by
    rw [List.pairwise_append]
    exact ⟨h.ap, List.pairwise_singleton _ _, fun x hx y hy => by simp at hy; subst hy; exact ha x hx⟩
  refine ⟨fun x hx => ?_, ?_, sortE_srt _⟩
  · rcases List.mem_append.mp (sortE_mem.mp hx) with h1 | h1
    · exact h.inh x h1
    · simp at h1; subst h1; exact hb
  · exact (List.Perm.pairwise_iff (fun h => apart_symm h) (List.mergeSort_perm _ _)).mpr hp
theorem apart_of_meets {b own : Bk} (h : meets b own = false) : apart b own := by
  intro c h1 h2
  unfold meets at h
  rw [List.any_eq_false] at h
  exact h c h1 (decide_eq_true h2)
theorem apart_of_free {b : Bk} {os : List Bk} (h : isFree b os = true) : ∀ x ∈ os, apart x b := by
  intro x hx c h1 h2
  unfold isFree at h
  rw [Bool.not_eq_true', List.any_eq_false] at h
  exact h c h2 (decide_eq_true (List.mem_flatMap.mpr ⟨x, hx, h1⟩))
theorem Std.with {H : HD} {bs : List Bk} (h : Std H bs) {b : Bk} (hb : Inh H b) : Std H (withB bs b) :=
  (h.filter _).put hb fun x hx => apart_of_meets (by simpa using (List.mem_filter.mp hx).2)
theorem bestF_mem {α : Type} (lt : α → α → Bool) : ∀ (xs : List α) (x : α), bestF lt x xs ∈ x :: xs
  | [], x => .head _
  | z :: r, x => by
    have := bestF_mem lt r (if lt z x = true then z else x)
    have e : bestF lt x (z :: r) = bestF lt (if lt z x = true then z else x) r := rfl
    rw [e]
    rcases List.mem_cons.mp this with h | h
    · rw [h]; split
      · exact .tail _ (.head _)
      · exact .head _
    · exact .tail _ (.tail _ h)
theorem givenOf_mem (H : HD) (w d l : Int) {ss : List Int} (hn : ss ≠ []) (bs : List Bk) : givenOf H w d l ss bs ∈ ss := by
  cases ss with
  | nil => exact absurd rfl hn
  | cons x xs =>
    unfold givenOf
    simp only
    split
    · exact bestF_mem _ _ _
    · split
      · exact bestF_mem _ _ _
      · have := bestF_mem ltII (xs.map fun s => (gapOf H w d l s bs, s)) (gapOf H w d l x bs, x)
        rcases List.mem_cons.mp this with h | h
        · rw [h]; exact .head _
        · obtain ⟨s, hs, e⟩ := List.mem_map.mp h
          rw [← e]; exact .tail _ hs
theorem counting_starts {H : HD} {h : Bool} {w d l : Int} {bs : List Bk} {s : Int} (hs : s ∈ (countingF H h w d l bs).1) : s ∈ starts H w := by
  unfold countingF at hs
  split at hs <;> exact (List.mem_filter.mp (List.mem_filter.mp hs).1).1
theorem startGiven_mem {H : HD} {h : Bool} {w d l : Int} {bs : List Bk} {s : Int} (hs : startGiven H h w d l bs = some s) : s ∈ starts H w := by
  unfold startGiven at hs
  split at hs
  · cases hs
  · rename_i hn
    cases hs
    exact counting_starts (givenOf_mem H w d l hn _)
theorem Dd.of_fit {H : HD} (hH : H.ok) {x : Dd} (h : x.of H) : x.fit H := by
  cases x with
  | ask k w d l =>
    have h1 := hH.widths w h.2.1
    have h2 := h.2.2.1
    have h3 := hH.longest
    simp only [Dd.fit]
    omega
  | _ => trivial
theorem Std.done {H : HD} (hH : H.ok) {bs : List Bk} (h : Std H bs) {x : Dd} (hx : x.of H) (hc : canBe H bs x = true) : Std H (doneWith H bs x).behind := by
  cases x with
  | ask k w d l =>
    obtain ⟨_, h1, h2, h3, h4⟩ := hx
    have hw := hH.widths w h1
    cases e : startGiven H k w d l bs with
    | none => simp only [doneWith, e]; exact h
    | some s =>
      simp only [doneWith, e]
      have hs := startGiven_mem e
      unfold starts at hs
      have hs := mem_rg.mp hs
      exact h.with ⟨h3, h2.1, by simp only [bkAt]; omega, hs.1, hw.1, by simp only [bkAt]; omega⟩
  | lapse => exact h.filter _
  | cancel d p =>
    cases e : taker bs d p with
    | none => simp [canBe, e] at hc
    | some b => simp only [doneWith, e]; exact h.filter _
  | firm d p =>
    cases e : taker bs d p with
    | none => simp [canBe, e] at hc
    | some b =>
      simp only [doneWith, e]
      have hb := h.inh b (taker_mem e)
      refine (h.filter _).put ⟨hb.d0, hb.l1, hb.dl, hb.p0, hb.w1, hb.pw⟩ fun y hy => ?_
      have hy' := List.mem_filter.mp hy
      have hne : y ≠ b := by simpa using hy'.2
      have : apart y b := by
        rcases List.mem_iff_getElem.mp hy'.1 with ⟨i, hi, rfl⟩
        rcases List.mem_iff_getElem.mp (taker_mem e) with ⟨j, hj, rfl⟩
        rcases Nat.lt_trichotomy i j with q | q | q
        · exact List.pairwise_iff_getElem.mp h.ap i j hi hj q
        · subst q; exact absurd rfl hne
        · exact apart_symm (List.pairwise_iff_getElem.mp h.ap j i hj hi q)
      exact this
  | longer d p =>
    cases e : taker bs d p with
    | none => simp [canBe, e] at hc
    | some b =>
      simp only [doneWith, e]
      simp [canBe, e] at hc
      have hb := h.inh b (taker_mem e)
      split
      · rename_i ht
        unfold letThere at ht
        rw [Bool.and_eq_true] at ht
        refine (h.filter _).put ⟨hb.d0, by have := hb.l1; simp only; omega, by simp only; omega, hb.p0, hb.w1, hb.pw⟩ (apart_of_free ht.1)
      · exact h
  | move d p s =>
    cases e : taker bs d p with
    | none => simp [canBe, e] at hc
    | some b =>
      simp only [doneWith, e]
      simp [canBe, e] at hc
      have hb := h.inh b (taker_mem e)
      obtain ⟨_, _, _, hs0, _⟩ := hx
      split
      · rename_i ht
        unfold letThere at ht
        rw [Bool.and_eq_true] at ht
        exact (h.filter _).put ⟨hb.d0, hb.l1, hb.dl, hs0, hb.w1, hc.2⟩ (apart_of_free ht.1)
      · exact h
/-! ### rows -/
structure RS where
  bs : List Bk
  as : List Ans
  fs : List (Int × Fd)
  deriving Inhabited
def stepR (H : HD) (s : RS) (x : Dd) : RS := ⟨(doneWith H s.bs x).behind, s.as ++ [(doneWith H s.bs x).answer], s.fs ++ (findingsOf H s.bs (doneWith H s.bs x) x).map fun f => (((s.as.length + 1 : Nat) : Int), f)⟩
def rowR (H : HD) : RS → List Dd → RS
  | s, [] => s
  | s, x :: r => rowR H (stepR H s x) r
def Row (H : HD) : List Bk → List Dd → Prop
  | _, [] => True
  | bs, x :: r => x.of H ∧ canBe H bs x = true ∧ Row H (doneWith H bs x).behind r
def RS.nil : RS := ⟨[], [], []⟩
theorem rowR_snoc (H : HD) : ∀ (xs : List Dd) (s : RS) (x : Dd), rowR H s (xs ++ [x]) = stepR H (rowR H s xs) x
  | [], _, _ => rfl
  | y :: r, s, x => rowR_snoc H r (stepR H s y) x
theorem Row.snoc {H : HD} : ∀ {xs : List Dd} {s : RS} {x : Dd}, Row H s.bs xs → x.of H → canBe H (rowR H s xs).bs x = true → Row H s.bs (xs ++ [x])
  | [], _, _, _, h1, h2 => ⟨h1, h2, trivial⟩
  | y :: r, s, x, ⟨a, b, c⟩, h1, h2 => ⟨a, b, Row.snoc (xs := r) (s := stepR H s y) c h1 h2⟩
theorem rowR_len (H : HD) : ∀ (xs : List Dd) (s : RS), (rowR H s xs).as.length = s.as.length + xs.length
  | [], _ => rfl
  | y :: r, s => by
    have := rowR_len H r (stepR H s y)
    simp only [stepR, rowR] at this ⊢
    rw [this]; simp; omega
theorem Std.row {H : HD} (hH : H.ok) : ∀ {xs : List Dd} {s : RS}, Std H s.bs → Row H s.bs xs → Std H (rowR H s xs).bs
  | [], _, h, _ => h
  | x :: r, s, h, ⟨a, b, c⟩ => Std.row hH (xs := r) (s := stepR H s x) (h.done hH a b) c
end QS

set_option Elab.async false
set_option linter.all false
set_option maxRecDepth 100000
set_option maxHeartbeats 4000000
/-! V13: records, replay, plan. -/
namespace QS
open PySem L2 Q
variable {st : Store}
def recC (H : HD) (bs : List Bk) (n : Nat) : Cell := .obj 14 [(Str.ofString "place", .p H.enc), (Str.ofString "at", .p (.tup (bs.map Bk.enc))), (Str.ofString "answers", .c (n + 1)), (Str.ofString "told_findings", .c (n + 2))]
def encNF (x : Int × Fd) : P := .tup [.int x.1, x.2.enc]
def recS (H : HD) (s : RS) (n : Nat) : Store := [recC H s.bs n, .lst (s.as.map fun a => S.p a.enc), .lst (s.fs.map fun f => S.p (encNF f))]
section
variable {α : Type}
@[simp] theorem get3_0 (st : List α) (a b c : α) : (st ++ [a, b, c])[st.length]? = some a := by simp
@[simp] theorem get3_1 (st : List α) (a b c : α) : (st ++ [a, b, c])[st.length + 1]? = some b := by
  rw [List.getElem?_append_right (by omega)]; simp
@[simp] theorem get3_2 (st : List α) (a b c : α) : (st ++ [a, b, c])[st.length + 2]? = some c := by
  rw [List.getElem?_append_right (by omega)]; simp
@[simp] theorem set3_0 (st : List α) (a b c x : α) : (st ++ [a, b, c]).set st.length x = st ++ [x, b, c] := by simp
@[simp] theorem set3_1 (st : List α) (a b c x : α) : (st ++ [a, b, c]).set (st.length + 1) x = st ++ [a, x, c] := by
  rw [List.set_append_right _ _ (by omega)]; simp
@[simp] theorem set3_2 (st : List α) (a b c x : α) : (st ++ [a, b, c]).set (st.length + 2) x = st ++ [a, b, x] := by
  rw [List.set_append_right _ _ (by omega)]; simp
end
@[simp] theorem lk_place (a b c d : S) : List.lookup (Str.ofString "place") [(Str.ofString "place", a), (Str.ofString "at", b), (Str.ofString "answers", c), (Str.ofString "told_findings", d)] = some a := rfl
@[simp] theorem lk_at (a b c d : S) : List.lookup (Str.ofString "at") [(Str.ofString "place", a), (Str.ofString "at", b), (Str.ofString "answers", c), (Str.ofString "told_findings", d)] = some b := rfl
@[simp] theorem lk_answers (a b c d : S) : List.lookup (Str.ofString "answers") [(Str.ofString "place", a), (Str.ofString "at", b), (Str.ofString "answers", c), (Str.ofString "told_findings", d)] = some c := rfl
@[simp] theorem lk_told (a b c d : S) : List.lookup (Str.ofString "told_findings") [(Str.ofString "place", a), (Str.ofString "at", b), (Str.ofString "answers", c), (Str.ofString "told_findings", d)] = some d := rfl
@[simp] theorem lk_takein (a b c d : S) : List.lookup (Str.ofString "take_in") [(Str.ofString "place", a), (Str.ofString "at", b), (Str.ofString "answers", c), (Str.ofString "told_findings", d)] = none := rfl
@[simp] theorem put_at (a b c d x : S) : putFS (Str.ofString "at") x [(Str.ofString "place", a), (Str.ofString "at", b), (Str.ofString "answers", c), (Str.ofString "told_findings", d)] = [(Str.ofString "place", a), (Str.ofString "at", x), (Str.ofString "answers", c), (Str.ofString "told_findings", d)] := rfl
theorem mk_record (H : HD) : m_Record [.p H.enc] st = .ok (.c st.length) (st ++ recS H RS.nil st.length) := by
  have e : g_Record___init__ [.c st.length, .p H.enc] (st ++ [.obj 14 []]) = .ok (.p .non) (st ++ recS H RS.nil st.length) := by
    have n1 : (Str.ofString "place" = Str.ofString "at") = False := by simp; decide
    have n2 : (Str.ofString "place" = Str.ofString "answers") = False := by simp; decide
    have n3 : (Str.ofString "place" = Str.ofString "told_findings") = False := by simp; decide
    have n4 : (Str.ofString "at" = Str.ofString "answers") = False := by simp; decide
    have n5 : (Str.ofString "at" = Str.ofString "told_findings") = False := by simp; decide
    have n6 : (Str.ofString "answers" = Str.ofString "told_findings") = False := by simp; decide
    have h : runF 2 f_Record___init__ [.c st.length, .p H.enc] (st ++ [.obj 14 []]) = .ok (.p .non) (st ++ recS H RS.nil st.length) := by
      simp [runF_ap, f_Record___init__, putFS, n1, n2, n3, n4, n5, n6, recS, RS.nil, recC]
    show clean (runF 2 f_Record___init__ [.c st.length, .p H.enc] (st ++ [.obj 14 []])) (st ++ [.obj 14 []]) = _
    rw [h]
    unfold clean
    simp only
    rw [if_neg]
    intro h2
    have h3 := eqSt_ok h2
    have h4 := congrArg (fun l : Store => l[st.length]?) h3
    simp [recS, recC] at h4
  show mkRun (.obj 14 []) g_Record___init__ [.p H.enc] st = _
  unfold mkRun
  rw [e]
  rfl

theorem findings_len (H : HD) (bs : List Bk) (dn : DN) (x : Dd) : (findingsOf H bs dn x).length ≤ 2 := by
  have h1 : ∀ w, (clashF dn w).length ≤ 1 := fun w => by
    unfold clashF
    split
    · simp
    · split <;> simp
  have h2 : (dropF H bs dn x).length ≤ 1 := by
    unfold dropF
    split
    · split <;> simp
    · simp
  have h3 : ∀ h w d l, (refusal H h w d l bs).length ≤ 1 := fun h w d l => by
    unfold refusal
    split
    · simp
    · split <;> simp
  cases x with
  | ask h w d l =>
    show (if dn.own = none then refusal H h w d l bs else clashF dn (askW h) ++ dropF H bs dn (.ask h w d l)).length ≤ 2
    by_cases e : dn.own = none
    · rw [if_pos e]; exact Nat.le_succ_of_le (h3 _ _ _ _)
    · rw [if_neg e, List.length_append]; have := h1 (askW h); omega
  | _ => exact Nat.le_succ_of_le (h1 _)
def takeR (H : HD) (s : RS) (x : Dd) (dn : DN) : RS := ⟨dn.behind, s.as ++ [dn.answer], s.fs ++ (findingsOf H s.bs dn x).map fun f => (((s.as.length + 1 : Nat) : Int), f)⟩
@[simp] theorem fld_rec (H : HD) (bs : List Bk) (st : Store) (n : Nat) (b c : Cell) : fldS (st ++ [recC H bs n, b, c]) (.c st.length) = some (14, [(Str.ofString "place", .p H.enc), (Str.ofString "at", .p (.tup (bs.map Bk.enc))), (Str.ofString "answers", .c (n + 1)), (Str.ofString "told_findings", .c (n + 2))]) := by
  unfold fldS
  simp [recC]
@[simp] theorem isLst_3_1 (st : Store) (a c : Cell) (xs : List S) : isLst (st ++ [a, .lst xs, c]) (.c (st.length + 1)) = true := by simp [isLst]
@[simp] theorem isLst_3_2 (st : Store) (a c : Cell) (xs : List S) : isLst (st ++ [a, c, .lst xs]) (.c (st.length + 2)) = true := by simp [isLst]
@[simp] theorem append_3_1 (st : Store) (a c : Cell) (xs : List S) (v : S) : gAppend (.c (st.length + 1)) [v] (st ++ [a, .lst xs, c]) = if xs.length < 16777216 then .ok (.p .non) (st ++ [a, .lst (xs ++ [v]), c]) else .stuck := by
  simp [gAppend]
@[simp] theorem extend_3_2 (st : Store) (a c : Cell) (xs : List S) (ys : List P) : gExtend (.c (st.length + 2)) [.p (.lst ys)] (st ++ [a, c, .lst xs]) = if xs.length + ys.length ≤ 16777216 then .ok (.p .non) (st ++ [a, c, .lst (xs ++ ys.map S.p)]) else .stuck := by
  simp [gExtend]
@[simp] theorem len_3_1 (st : Store) (a c : Cell) (xs : List S) : gLen [.c (st.length + 1)] (st ++ [a, .lst xs, c]) = .ok (.p (.int xs.length)) (st ++ [a, .lst xs, c]) := by
  simp [gLen, lenS, itemsOf]
theorem take_in_ok {H : HD} (hH : H.ok) {s : RS} (hb : Fits s.bs) (hn : s.bs.length ≤ 45) {x : Dd} (hx : x.fit H) {dn : DN} (hl : dn.behind.length ≤ 1000) (ha : s.as.length ≤ 1000) (hf : s.fs.length ≤ 2000) :
    g_Record_take_in [.c st.length, .p x.enc, .p dn.enc] (st ++ recS H s st.length) = .ok (.p .non) (st ++ recS H (takeR H s x dn) st.length) := by
  apply gDef_len
  · have h1 := findings_len H s.bs dn x
    have h2 : ∀ st : Store, g_findings_of [.p H.enc, .p x.enc, .p (.tup (s.bs.map Bk.enc)), .p dn.enc] st = .ok (.p (.lst ((findingsOf H s.bs dn x).map Fd.enc))) st := fun st => findings_of_ok hH hb hn hx hl
    have e1 : s.as.length < 16777216 := by omega
    have e2 : s.fs.length + (findingsOf H s.bs dn x).length ≤ 16777216 := by omega
    simp [runF_ap, f_Record_take_in, recS, h2, e1]
    rw [comp0 (enc := Fd.enc) (f := fun f => encNF (((s.as.length + 1 : Nat) : Int), f)) (xs := findingsOf H s.bs dn x) (st1 := st ++ [recC H s.bs st.length, .lst (s.as.map (fun a => S.p a.enc) ++ [S.p dn.answer.enc]), .lst (s.fs.map fun f => S.p (encNF f))])]
    rotate_left
    · simp
    · omega
    · intro f _
      exact ⟨_, rfl, by simp [encNF]⟩
    simp [e2]
    simp [recC, takeR, Function.comp_def]
  · simp [recS]
end QS

set_option Elab.async false
set_option linter.all false
set_option maxRecDepth 100000
set_option maxHeartbeats 4000000
/-! V14: replay, plan. -/
namespace QS
open PySem L2 Q
variable {st : Store}
theorem Row.at {H : HD} : ∀ {xs : List Dd} {s : RS} {k : Nat} {x : Dd}, Row H s.bs xs → xs[k]? = some x → x.of H ∧ canBe H (rowR H s (xs.take k)).bs x = true
  | [], _, _, _, _, e => by simp at e
  | y :: r, s, 0, x, ⟨a, b, _⟩, e => by simp at e; subst e; exact ⟨a, b⟩
  | y :: r, s, k + 1, x, ⟨a, b, c⟩, e => Row.at (xs := r) (s := stepR H s y) (k := k) c (by simpa using e)
theorem Row.take {H : HD} : ∀ {xs : List Dd} {s : RS} (k : Nat), Row H s.bs xs → Row H s.bs (xs.take k)
  | [], _, _, _ => by simp [Row]
  | y :: r, s, 0, _ => trivial
  | y :: r, s, k + 1, ⟨a, b, c⟩ => ⟨a, b, Row.take (xs := r) (s := stepR H s y) k c⟩
theorem rowR_fs (H : HD) : ∀ (xs : List Dd) (s : RS), (rowR H s xs).fs.length ≤ s.fs.length + 2 * xs.length
  | [], _ => by simp [rowR]
  | y :: r, s => by
    have := rowR_fs H r (stepR H s y)
    have h2 := findings_len H s.bs (doneWith H s.bs y) y
    simp only [stepR, rowR, List.length_append, List.length_map, List.length_cons] at this ⊢
    omega
theorem take_step {H : HD} {xs : List Dd} {k : Nat} {x : Dd} (s : RS) (e : xs[k]? = some x) : rowR H s (xs.take (k + 1)) = stepR H (rowR H s (xs.take k)) x := by
  have : xs.take (k + 1) = xs.take k ++ [x] := by rw [List.take_add_one, e]; rfl
  rw [this, rowR_snoc]
theorem enumP_get {α : Type} (f : α → P) (xs : List α) (k : Nat) (s : S) (h : (enumP (xs.map f))[k]? = some s) : ∃ x, xs[k]? = some x ∧ s = .p (.tup [.int (k : Int), f x]) := by
  unfold enumP at h
  rw [List.getElem?_map, List.getElem?_zipIdx, List.getElem?_map] at h
  cases e : xs[k]? with
  | none => rw [e] at h; simp at h
  | some x => rw [e] at h; simp at h; exact ⟨x, rfl, h.symm⟩
theorem enumP_len {α : Type} (f : α → P) (xs : List α) : (enumP (xs.map f)).length = xs.length := by simp [enumP]
@[simp] theorem frzL_lst (l : List P) : frzL (.p (.lst l)) = some l := rfl
@[simp] theorem dn_isN (x : DN) (neg : Bool) : gIsN neg (.p x.enc) (.p .non) st = .ok (.p (.bl neg)) st := rfl
theorem replay_ok {H : HD} (hH : H.ok) {xs : List Dd} (hx : Row H [] xs) (hl : xs.length ≤ 100) :
    g_replay [.p H.enc, .p (.lst (xs.map Dd.enc))] st = .ok (.c st.length) (st ++ recS H (rowR H RS.nil xs) st.length) := by
  apply gDef_cell
  obtain ⟨e, st', h1, z3, z4, z5, h2, h3⟩ := forLoop_inv (t := .many [3, 4]) (body := (sSeq (sSet 5 (eIf (eCall 2 g_is_deed (aCons (eVar 0) (aCons (eVar 4) aNil))) (eCall 3 g_led_to (aCons (eVar 0) (aCons (eFld [14] "at" (eVar 2)) (aCons (eVar 4) aNil)))) (eC .non))) (sSeq (sIf (eBin (gIsN false) (eVar 5) (eC .non)) sStuck sNext) (sExpr (eMet 14 3 "take_in" g_Record_take_in (eVar 2) (aCons (eVar 4) (aCons (eVar 5) aNil)))))))
    (fun k env st' => ∃ z3 z4 z5, env = [some (S.p H.enc), some (.p (.lst (xs.map Dd.enc))), some (.c st.length), z3, z4, z5] ∧ st' = st ++ recS H (rowR H RS.nil (xs.take k)) st.length)
    (items := enumP (xs.map Dd.enc)) (env := [some (S.p H.enc), some (.p (.lst (xs.map Dd.enc))), some (.c st.length), none, none, none]) (st := st ++ recS H RS.nil st.length) 0 ⟨none, none, none, rfl, rfl⟩ (by
      rintro k s env st' hs ⟨z3, z4, z5, rfl, rfl⟩
      rw [Nat.zero_add]
      obtain ⟨x, hk, rfl⟩ := enumP_get Dd.enc xs k s hs
      obtain ⟨a, b⟩ := Row.at (s := RS.nil) hx hk
      have hS := Std.row hH (Std.nil H) (Row.take (s := RS.nil) k hx)
      have hkl : k < xs.length := (List.getElem?_eq_some_iff.mp hk).1
      have hlen := rowR_len H (xs.take k) RS.nil
      have hfs := rowR_fs H (xs.take k) RS.nil
      rw [List.length_take] at hlen hfs
      simp only [RS.nil, List.length_nil] at hlen hfs
      have l1 : ledTo H (rowR H RS.nil (xs.take k)).bs x = some (doneWith H (rowR H RS.nil (xs.take k)).bs x) := if_pos b
      have l2 := led_to_ok (st := st ++ recS H (rowR H RS.nil (xs.take k)) st.length) hH (hS.fits hH) (fun b hb => (hS.inh b hb).d0) (Dd.of_fit hH a)
      rw [l1] at l2
      have hD := hS.done hH a b
      have l3 := take_in_ok (st := st) hH (s := rowR H RS.nil (xs.take k)) (hS.fits hH) (Nat.le_trans (hS.len hH) (by decide)) (Dd.of_fit hH a) (dn := doneWith H (rowR H RS.nil (xs.take k)).bs x) (Nat.le_trans (hD.len hH) (by decide)) (by simp only [RS.nil]; omega) (by simp only [RS.nil]; omega)
      have e1 : takeR H (rowR H RS.nil (xs.take k)) x (doneWith H (rowR H RS.nil (xs.take k)).bs x) = rowR H RS.nil (xs.take (k + 1)) := (take_step RS.nil hk).symm
      rw [e1] at l3
      refine ⟨[some (S.p H.enc), some (.p (.lst (xs.map Dd.enc))), some (.c st.length), some (.p (.int (k : Int))), some (.p x.enc), z5], [some (S.p H.enc), some (.p (.lst (xs.map Dd.enc))), some (.c st.length), some (.p (.int (k : Int))), some (.p x.enc), some (.p (doneWith H (rowR H RS.nil (xs.take k)).bs x).enc)], st ++ recS H (rowR H RS.nil (xs.take (k + 1))) st.length, by simp, .inl ?_, ⟨_, _, _, rfl, rfl⟩⟩
      simp [is_deed_of hH a, recS] at l2 l3 ⊢
      simp [l2, encODN, l3])
  rw [enumP_len, Nat.zero_add, List.take_of_length_le (Nat.le_refl _)] at h3
  subst h3
  simp [runF_ap, f_replay, mk_record]
  rw [h1]
  subst h2
  simp
/-! ### plan -/
def planF (H : HD) (bs : List Bk) : List (List (Option Int)) := (rg H.days).map fun d => (rg H.parts).map fun p => (taker bs d p).map Bk.part
theorem first_at_ok {bs : List Bk} (hb : Fits bs) (d p : Int) : g_first_at [.p (.tup (bs.map Bk.enc)), .p (.int d), .p (.int p)] st = .ok (.p (encOI ((taker bs d p).map Bk.part))) st := by
  apply gDef_of
  cases e : taker bs d p <;> simp [runF_ap, f_first_at, taker_ok hb, e, encOI]
theorem fld_at {H : HD} {bs : List Bk} {n m : Nat} (h : st[n]? = some (recC H bs m)) (more : Store) : fldS (st ++ more) (.c n) = some (14, [(Str.ofString "place", .p H.enc), (Str.ofString "at", .p (.tup (bs.map Bk.enc))), (Str.ofString "answers", .c (m + 1)), (Str.ofString "told_findings", .c (m + 2))]) := by
  have hl : n < st.length := (List.getElem?_eq_some_iff.mp h).1
  unfold fldS
  simp only
  rw [List.getElem?_append_left hl, h]
  rfl
theorem plan_ok {H : HD} (hH : H.ok) {bs : List Bk} (hb : Fits bs) {n m : Nat} (h : st[n]? = some (recC H bs m)) :
    g_plan [.c n] st = .ok (.c st.length) (st ++ [.lst ((planF H bs).map fun r => S.p (.lst (r.map encOI)))]) := by
  apply gDef_cell
  have hp := hH.parts
  have hd := hH.days
  have w1 : inWord H.days = true := by simp [inWord]; omega
  have w2 : inWord H.parts = true := by simp [inWord]; omega
  have hf0 := fld_at h []
  rw [List.append_nil] at hf0
  obtain ⟨e, st', h1, z3, z4, h2, h3⟩ := forLoop_inv (t := .one 3) (body := (sExpr (eMt isLst gAppend (eVar 2) (aCons (eComp fzL (iRange1 (eSlt 12 0 (eVar 1))) (.one 4) (([("part", 4)] : List (PySem.Str × Nat)).map (·.2)) tYesQ (nEmit (eCall 3 g_first_at (aCons (eFld [14] "at" (eVar 0)) (aCons (eVar 3) (aCons (eVar 4) aNil)))))) aNil))))
    (fun k env st' => ∃ z3 z4, env = [some (S.c n), some (.p H.enc), some (.c st.length), z3, z4] ∧ st' = st ++ [.lst (((rg H.days).take k).map fun d => S.p (.lst (((rg H.parts).map fun p => (taker bs d p).map Bk.part).map encOI)))])
    (items := (rg H.days).map fun i => S.p (.int i)) (env := [some (S.c n), some (.p H.enc), some (.c st.length), none, none]) (st := st ++ [.lst []]) 0 ⟨none, none, rfl, rfl⟩ (by
      rintro k s env st' hs ⟨z3, z4, rfl, rfl⟩
      rw [Nat.zero_add]
      rw [List.getElem?_map] at hs
      cases hk : (rg H.days)[k]? with
      | none => rw [hk] at hs; cases hs
      | some d =>
        rw [hk] at hs
        simp only [Option.map_some, Option.some.injEq] at hs
        subst hs
        have hlt : ((rg H.days).take k).length ≤ 10 := by
          rw [List.length_take, rg_len]; omega
        refine ⟨[some (S.c n), some (.p H.enc), some (.c st.length), some (.p (.int d)), z4], [some (S.c n), some (.p H.enc), some (.c st.length), some (.p (.int d)), z4], st ++ [.lst (((rg H.days).take (k + 1)).map fun d => S.p (.lst (((rg H.parts).map fun p => (taker bs d p).map Bk.part).map encOI)))], by simp, .inl ?_, ⟨_, _, rfl, rfl⟩⟩
        simp
        rw [comp0 (enc := P.int) (f := fun p => encOI ((taker bs d p).map Bk.part)) (xs := rg H.parts) (st1 := st ++ [.lst (((rg H.days).take k).map fun d => S.p (.lst (((rg H.parts).map fun p => (taker bs d p).map Bk.part).map encOI)))])]
        · have e1 : (rg H.days).take (k + 1) = (rg H.days).take k ++ [d] := by rw [List.take_add_one, hk]; rfl
          have e2 : ((rg H.days).take k).length < 16777216 := by omega
          rw [List.length_take] at e2
          simp [e2, Function.comp_def]
          rw [List.take_add_one, List.getElem?_map, hk]
          rfl
        · simp [w2, rangeS_rg]
        · rw [rg_len]; omega
        · intro p _
          exact ⟨_, rfl, by simp [fld_at h, first_at_ok hb]⟩)
  rw [List.length_map, Nat.zero_add, List.take_of_length_le (Nat.le_refl _)] at h3
  subst h3
  subst h2
  simp [runF_ap, f_plan, hf0, w1, rangeS_rg]
  simp only [List.map_cons, List.map_nil] at h1
  rw [h1]
  simp [planF, Function.comp_def]
end QS

set_option Elab.async false
set_option linter.all false
set_option maxRecDepth 100000
set_option maxHeartbeats 4000000
/-! V15: the law's own model: cells, clash, free, suits. -/
namespace QS
open PySem L2 Q
variable {st : Store}
/-- small numbers -/
structure Sm (b : Bk) : Prop where
  d : 0 ≤ b.day ∧ b.day ≤ 100
  l : 1 ≤ b.len ∧ b.len ≤ 10
  p : 0 ≤ b.part ∧ b.part ≤ 100
  w : 1 ≤ b.wid ∧ b.wid ≤ 10
theorem Inh.sm {H : HD} (hH : H.ok) {b : Bk} (h : Inh H b) : Sm b := by
  have h1 := hH.parts; have h2 := hH.days
  obtain ⟨a, b, c, d, e, f⟩ := h
  exact ⟨by omega, by omega, by omega, by omega⟩
theorem Sm.fit {b : Bk} (h : Sm b) : b.fit := by
  obtain ⟨a, b, c, d⟩ := h
  unfold Bk.fit; omega
theorem rangeS_add (lo n : Int) : rangeS lo n.toNat = (rg n).map fun i => S.p (.int (lo + i)) := by
  unfold rangeS rg
  rw [List.map_map]
  rfl
theorem rgP_add (lo hi : Int) : rgP lo hi = (rg (hi - lo)).map fun i => P.int (lo + i) := by
  unfold rgP rg
  rw [List.map_map]
  rfl
theorem take_flat {α β : Type} (f : α → List β) {xs : List α} {k : Nat} {x : α} (h : xs[k]? = some x) : (xs.take (k + 1)).flatMap f = (xs.take k).flatMap f ++ f x := by
  rw [List.take_add_one, h, List.flatMap_append]
  simp
theorem law_cells_ok {b : Bk} (h : Sm b) : g__law_cells [.p b.enc] st = .ok (.p (.lst ((cells b).map Enc.enc))) st := by
  apply gDef_of
  obtain ⟨⟨d0, d1⟩, ⟨l0, l1⟩, ⟨p0, p1⟩, ⟨w0, w1⟩⟩ := h
  have i1 : inWord b.day = true := by simp [inWord]; omega
  have i2 : inWord (b.day + b.len) = true := by simp [inWord]; omega
  have i3 : inWord b.part = true := by simp [inWord]; omega
  have i4 : inWord (b.part + b.wid) = true := by simp [inWord]; omega
  obtain ⟨e, st', h1, z2, z3, h2, h3⟩ := forLoop_inv (t := .one 2) (body := (sSet 1 (eBin gAdd (eVar 1) (eComp fzL (iRange2 (eBin gIx (eVar 0) (eC (.int 1))) (eBin gAdd (eBin gIx (eVar 0) (eC (.int 1))) (eBin gIx (eVar 0) (eC (.int 3))))) (.one 3) (([("_law_part", 3)] : List (PySem.Str × Nat)).map (·.2)) tYesQ (nEmit (eTup (aCons (eVar 2) (aCons (eVar 3) aNil))))))))
    (fun k env st' => ∃ z2 z3, env = [some (S.p b.enc), some (.p (.lst ((((rg b.len).take k).flatMap fun i => (rg b.wid).map fun j => (b.day + i, b.part + j)).map Enc.enc))), z2, z3] ∧ st' = st)
    (items := (rg b.len).map fun i => S.p (.int (b.day + i))) (env := [some (S.p b.enc), some (.p (.lst [])), none, none]) (st := st) 0 ⟨none, none, rfl, rfl⟩ (by
      rintro k s env st' hs ⟨z2, z3, rfl, rfl⟩
      rw [Nat.zero_add]
      rw [List.getElem?_map] at hs
      cases hk : (rg b.len)[k]? with
      | none => rw [hk] at hs; cases hs
      | some i =>
        rw [hk] at hs
        simp only [Option.map_some, Option.some.injEq] at hs
        subst hs
        refine ⟨[some (S.p b.enc), some (.p (.lst ((((rg b.len).take k).flatMap fun i => (rg b.wid).map fun j => (b.day + i, b.part + j)).map Enc.enc))), some (.p (.int (b.day + i))), z3], [some (S.p b.enc), some (.p (.lst ((((rg b.len).take (k + 1)).flatMap fun i => (rg b.wid).map fun j => (b.day + i, b.part + j)).map Enc.enc))), some (.p (.int (b.day + i))), z3], st', by simp, .inl ?_, ⟨_, _, rfl, rfl⟩⟩
        simp
        rw [comp0 (enc := fun j => P.int (b.part + j)) (f := fun j => Enc.enc (b.day + i, b.part + j)) (xs := rg b.wid) (st1 := st')]
        · have hl := flatMap_len (f := fun i => (rg b.wid).map fun j => (b.day + i, b.part + j)) (n := 10) (xs := (rg b.len).take k) fun x _ => by simp [rg_len]; omega
          have hl2 : ((rg b.len).take k).length ≤ 10 := by rw [List.length_take, rg_len]; omega
          have hl3 : ((((rg b.len).take k).flatMap fun i => (rg b.wid).map fun j => (b.day + i, b.part + j)).map (Enc.enc : Int × Int → P)).length + ((rg b.wid).map fun j => (Enc.enc (b.day + i, b.part + j) : P)).length ≤ 16777216 := by
            rw [List.length_map, List.length_map, rg_len]; omega
          simp only [R.bind_ok, gAdd_lst]
          rw [if_pos (decide_eq_true hl3), take_flat _ hk]
          simp [Function.comp_def]
        · simp [i3, i4, rangeS_add]
          rw [show b.part + b.wid - b.part = b.wid by omega]
        · rw [rg_len]; omega
        · intro j _
          exact ⟨_, rfl, by simp [Enc.enc]⟩)
  rw [List.length_map, Nat.zero_add, List.take_of_length_le (Nat.le_refl _)] at h2
  subst h2 h3
  simp [runF_ap, f__law_cells, i1, i2]
  rw [show b.day + b.len - b.day = b.len by omega, rangeS_add]
  simp only [List.map_cons, List.map_nil] at h1
  rw [h1]
  simp [cells]
/-- the parts of a booking -/
def pts (b : Bk) : List Int := (rg b.wid).map fun i => b.part + i
theorem mem_pts {b : Bk} {x : Int} : x ∈ pts b ↔ b.part ≤ x ∧ x < b.part + b.wid := by
  unfold pts
  simp only [List.mem_map, mem_rg]
  constructor
  · rintro ⟨i, h, rfl⟩; omega
  · intro h; exact ⟨x - b.part, by omega, by omega⟩
theorem pts_inj {a b : Bk} (ha : 1 ≤ a.wid) (hb : 1 ≤ b.wid) : pts a = pts b ↔ a.part = b.part ∧ a.wid = b.wid := by
  constructor
  · intro h
    have h1 : a.part ∈ pts b := h ▸ mem_pts.mpr (by omega)
    have h2 : b.part ∈ pts a := h ▸ mem_pts.mpr (by omega)
    have h3 : a.part + a.wid - 1 ∈ pts b := h ▸ mem_pts.mpr (by omega)
    have h4 : b.part + b.wid - 1 ∈ pts a := h ▸ mem_pts.mpr (by omega)
    rw [mem_pts] at h1 h2 h3 h4
    omega
  · rintro ⟨h1, h2⟩
    unfold pts
    rw [h1, h2]
theorem share_iff {a b : Bk} (ha : 1 ≤ a.wid) (hb : 1 ≤ b.wid) : (pts a).filter (fun x => decide (x ∈ pts b)) = [] ↔ shares a.part b.part a.wid b.wid = false := by
  rw [List.filter_eq_nil_iff]
  constructor
  · intro h
    unfold shares
    cases e : (decide (a.part < b.part + b.wid) && decide (b.part < a.part + a.wid)) with
    | false => rfl
    | true =>
      simp at e
      by_cases q : a.part ≤ b.part
      · exact absurd (decide_eq_true (mem_pts.mpr (by omega))) (h b.part (mem_pts.mpr (by omega)))
      · exact absurd (decide_eq_true (mem_pts.mpr (by omega))) (h a.part (mem_pts.mpr (by omega)))
  · intro h x hx hx2
    have := mem_pts.mp hx
    have := mem_pts.mp (of_decide_eq_true hx2)
    unfold shares at h
    simp at h
    omega
theorem clash_eq {a b : Bk} (ha : 1 ≤ a.wid) (hb : 1 ≤ b.wid) : (if ¬ b.day = a.day + a.len ∧ ¬ a.day = b.day + b.len then false else (!decide (pts a = pts b) && !decide ((pts a).filter (fun x => decide (x ∈ pts b)) = []))) = clash a b := by
  have e1 : decide (pts a = pts b) = decide (a.part = b.part ∧ a.wid = b.wid) := decide_eq_decide.mpr (pts_inj ha hb)
  have e2 : decide ((pts a).filter (fun x => decide (x ∈ pts b)) = []) = !shares a.part b.part a.wid b.wid := by
    rw [Bool.eq_iff_iff, decide_eq_true_iff, share_iff ha hb]; simp
  rw [e1, e2]
  unfold clash
  by_cases h1 : b.day = a.day + a.len
  · by_cases h3 : a.part = b.part ∧ a.wid = b.wid
    · simp [h1, h3]
    · simp [h1, h3]
  · by_cases h2 : a.day = b.day + b.len
    · by_cases h3 : a.part = b.part ∧ a.wid = b.wid
      · simp [h2, h3]
      · simp [h2, h3]
    · have h1' : ¬ a.day + a.len = b.day := fun z => h1 z.symm
      have h2' : ¬ b.day + b.len = a.day := fun z => h2 z.symm
      simp [h1, h2, h1', h2']
theorem ints_ne (l m : List Int) : gEqD true (.p (.lst (l.map P.int))) (.p (.lst (m.map P.int))) st = .ok (.p (.bl (!decide (l = m)))) st := gNe_lst st l m
theorem ints_eq (l m : List Int) : gEqD false (.p (.lst (l.map P.int))) (.p (.lst (m.map P.int))) st = .ok (.p (.bl (decide (l = m)))) st := gEq_lst st l m
theorem int_in (x : Int) (l : List Int) : gIn false (.p (.int x)) (.p (.lst (l.map P.int))) st = .ok (.p (.bl (decide (x ∈ l)))) st := by
  have := gIn_lst false st x l (by decide)
  simpa [Enc.enc] using this
theorem law_clash_ok {a b : Bk} (ha : Sm a) (hb : Sm b) : g__law_clash [.p a.enc, .p b.enc] st = .ok (.p (.bl (clash a b))) st := by
  apply gDef_of
  rw [← clash_eq ha.w.1 hb.w.1]
  obtain ⟨ad, al, ap, aw⟩ := ha
  obtain ⟨bd, bl, bp, bw⟩ := hb
  have ra : rgP a.part (a.part + a.wid) = (pts a).map P.int := by rw [rgP_add, show a.part + a.wid - a.part = a.wid by omega]; simp [pts, Function.comp_def]
  have rb : rgP b.part (b.part + b.wid) = (pts b).map P.int := by rw [rgP_add, show b.part + b.wid - b.part = b.wid by omega]; simp [pts, Function.comp_def]
  have ca : -(2 ^ 60) ≤ a.part ∧ a.part < 2 ^ 60 ∧ -(2 ^ 60) ≤ a.part + a.wid ∧ a.part + a.wid < 2 ^ 60 ∧ a.part + a.wid - a.part ≤ 16777216 := by omega
  have cb : -(2 ^ 60) ≤ b.part ∧ b.part < 2 ^ 60 ∧ -(2 ^ 60) ≤ b.part + b.wid ∧ b.part + b.wid < 2 ^ 60 ∧ b.part + b.wid - b.part ≤ 16777216 := by omega
  have la : (pts a).length ≤ 16777216 := by simp [pts, rg_len]; omega
  have k1 : eComp fzL (iSeq (eVar 2)) (.one 4) [4] (tOf (eBin (gIn false) (eVar 4) (eVar 3))) (nEmit (eVar 4)) [some (S.p a.enc), some (.p b.enc), some (.p (.lst ((pts a).map P.int))), some (.p (.lst ((pts b).map P.int))), none] st = .ok (.p (.lst (((pts a).filter fun x => decide (x ∈ pts b)).map P.int))) st := by
    rw [comp1 (enc := P.int) (c := fun x => decide (x ∈ pts b)) (f := P.int) (xs := pts a) (st1 := st)]
    · simp
    · exact la
    · intro x _
      exact ⟨_, rfl, by simp [int_in], fun _ => by simp⟩
  have k2 := ints_eq (st := st) ((pts a).filter fun x => decide (x ∈ pts b)) []
  have k3 := ints_ne (st := st) ((pts a).filter fun x => decide (x ∈ pts b)) []
  simp only [List.map_nil] at k2 k3
  by_cases h1 : b.day = a.day + a.len
  · simp [runF_ap, f__law_clash, h1, ra, rb, ca, cb, k1, k3, ints_ne]
    rw [if_pos (by omega), if_pos (by omega)]
    split <;> simp_all
  · by_cases h2 : a.day = b.day + b.len
    · simp [runF_ap, f__law_clash, h1, h2, ra, rb, ca, cb, k1, k3, ints_ne]
      rw [if_pos (by omega), if_pos (by omega)]
      split <;> simp_all
    · simp [runF_ap, f__law_clash, h1, h2]

/-- all are small -/
structure Sms (bs : List Bk) : Prop where
  n : bs.length ≤ 1000
  s : ∀ b ∈ bs, Sm b
theorem Sms.fits {bs : List Bk} (h : Sms bs) : Fits bs := ⟨h.n, fun b hb => (h.s b hb).fit⟩
theorem Std.sms {H : HD} (hH : H.ok) {bs : List Bk} (h : Std H bs) : Sms bs := ⟨Nat.le_trans (h.len hH) (by decide), fun b hb => (h.inh b hb).sm hH⟩
theorem Sms.filter {bs : List Bk} (h : Sms bs) (p : Bk → Bool) : Sms (bs.filter p) := ⟨Nat.le_trans (List.length_filter_le _ _) h.n, fun b hb => h.s b (List.mem_filter.mp hb).1⟩
theorem allCells_take_len {os : List Bk} (h : Sms os) (k : Nat) : ((os.take k).flatMap cells).length ≤ 100000 := by
  have h1 := flatMap_len (f := cells) (n := 100) (xs := os.take k) fun x hx => cells_len (h.s x (List.mem_of_mem_take hx)).fit
  have h2 := h.n
  have h3 : (os.take k).length ≤ 1000 := by rw [List.length_take]; omega
  omega
theorem cells_eq_nil (l : List (Int × Int)) : gEqD false (.p (.lst (l.map Enc.enc))) (.p (.lst [])) st = .ok (.p (.bl (decide (l = [])))) st := gEq_lst st l []
theorem filter_nil_any {α : Type} (l : List α) (p : α → Bool) : decide (l.filter p = []) = !l.any p := by
  rw [Bool.eq_iff_iff, decide_eq_true_iff, List.filter_eq_nil_iff, Bool.not_eq_true', List.any_eq_false]
theorem law_free_ok {b : Bk} {os : List Bk} (hb : Sm b) (h : Sms os) : g__law_free [.p b.enc, .p (.lst (os.map Bk.enc))] st = .ok (.p (.bl (isFree b os))) st := by
  apply gDef_of
  obtain ⟨e, st', h1, z3, z4, h2, h3⟩ := forLoop_inv (t := .one 3) (body := (sSet 2 (eBin gAdd (eVar 2) (eCall 1 g__law_cells (aCons (eVar 3) aNil)))))
    (fun k env st' => ∃ z3 z4, env = [some (S.p b.enc), some (.p (.lst (os.map Bk.enc))), some (.p (.lst (((os.take k).flatMap cells).map Enc.enc))), z3, z4] ∧ st' = st)
    (items := os.map fun o => S.p o.enc) (env := [some (S.p b.enc), some (.p (.lst (os.map Bk.enc))), some (.p (.lst [])), none, none]) (st := st) 0 ⟨none, none, rfl, rfl⟩ (by
      rintro k s env st' hs ⟨z3, z4, rfl, rfl⟩
      rw [Nat.zero_add]
      rw [List.getElem?_map] at hs
      cases hk : os[k]? with
      | none => rw [hk] at hs; cases hs
      | some o =>
        rw [hk] at hs
        simp only [Option.map_some, Option.some.injEq] at hs
        subst hs
        have ho := h.s o (List.mem_of_getElem? hk)
        have hl := allCells_take_len h k
        have hl2 := cells_len ho.fit
        have hl3 : (((os.take k).flatMap cells).map (Enc.enc : Int × Int → P)).length + ((cells o).map (Enc.enc : Int × Int → P)).length ≤ 16777216 := by
          rw [List.length_map, List.length_map]; omega
        refine ⟨[some (S.p b.enc), some (.p (.lst (os.map Bk.enc))), some (.p (.lst (((os.take k).flatMap cells).map Enc.enc))), some (.p o.enc), z4], [some (S.p b.enc), some (.p (.lst (os.map Bk.enc))), some (.p (.lst (((os.take (k + 1)).flatMap cells).map Enc.enc))), some (.p o.enc), z4], st', by simp, .inl ?_, ⟨_, _, rfl, rfl⟩⟩
        rw [take_flat _ hk, List.map_append]
        simp [law_cells_ok ho]
        simpa using hl3)
  rw [List.length_map, Nat.zero_add, List.take_of_length_le (Nat.le_refl _)] at h2
  subst h2 h3
  simp [runF_ap, f__law_free]
  simp only [Function.comp_def]
  rw [h1]
  have hlb := cells_len hb.fit
  simp
  rw [comp1 (enc := Enc.enc) (c := fun c => decide (c ∈ allCells os)) (f := Enc.enc) (xs := cells b) (st1 := st')]
  · simp only [R.bind_ok, eC_ap]
    simp [cells_eq_nil, filter_nil_any, isFree]
  · simp [law_cells_ok hb]
  · omega
  · intro c _
    refine ⟨_, rfl, ?_, fun _ => by simp⟩
    have := gIn_lst false st' c (allCells os) (by decide)
    simp only [allCells] at this ⊢
    simp [this]
end QS

set_option Elab.async false
set_option linter.all false
set_option maxRecDepth 100000
set_option maxHeartbeats 4000000
/-! V16: the law's own model: what is let and given. -/
namespace QS
open PySem L2 Q
variable {st : Store}
def HD.encT (h : HD) : P := .lst [.int h.parts, .int h.days, .tup (h.widths.map P.int), .int h.longest, h.rule, .tup (h.words.map fun w => .str w.s)]
@[simp] theorem T_ix0 (h : HD) : gIx (.p h.encT) (.p (.int 0)) st = .ok (.p (.int h.parts)) st := rfl
@[simp] theorem T_ix1 (h : HD) : gIx (.p h.encT) (.p (.int 1)) st = .ok (.p (.int h.days)) st := rfl
@[simp] theorem T_ix2 (h : HD) : gIx (.p h.encT) (.p (.int 2)) st = .ok (.p (.tup (h.widths.map P.int))) st := rfl
@[simp] theorem T_ix3 (h : HD) : gIx (.p h.encT) (.p (.int 3)) st = .ok (.p (.int h.longest)) st := rfl
@[simp] theorem T_ix4 (h : HD) : gIx (.p h.encT) (.p (.int 4)) st = .ok (.p h.rule) st := rfl
@[simp] theorem T_ix5 (h : HD) : gIx (.p h.encT) (.p (.int 5)) st = .ok (.p (.tup (h.words.map fun w => .str w.s))) st := rfl
theorem bks_eq_nil (l : List Bk) : gEqD false (.p (.lst (l.map Bk.enc))) (.p (.lst [])) st = .ok (.p (.bl (decide (l = [])))) st := gEq_lst st l []
theorem bks_ne_nil (l : List Bk) : gEqD true (.p (.lst (l.map Bk.enc))) (.p (.lst [])) st = .ok (.p (.bl (!decide (l = [])))) st := gNe_lst st l []
theorem law_suits_ok {b : Bk} {os : List Bk} (hb : Sm b) (h : Sms os) : g__law_suits [.p b.enc, .p (.lst (os.map Bk.enc))] st = .ok (.p (.bl (suits b os))) st := by
  apply gDef_of
  have k1 : eComp fzL (iSeq (eVar 1)) (.one 2) [2] (tOf (eCall 2 g__law_clash (aCons (eVar 0) (aCons (eVar 2) aNil)))) (nEmit (eVar 2)) [some (S.p b.enc), some (.p (.lst (os.map Bk.enc))), none] st = .ok (.p (.lst ((os.filter (clash b)).map Bk.enc))) st := by
    rw [comp1 (enc := Bk.enc) (c := clash b) (f := Bk.enc) (xs := os) (st1 := st)]
    · simp
    · have := h.n; omega
    · intro o ho
      exact ⟨_, rfl, by simp [law_clash_ok hb (h.s o ho)], fun _ => by simp⟩
  simp [runF_ap, f__law_suits, law_free_ok hb h, k1, bks_eq_nil, suits, clashes]
  have e := filter_nil_any os (clash b)
  simp only [List.filter_eq_nil_iff, Bool.not_eq_true] at e
  cases hf : isFree b os <;> simp [e]
theorem law_row_ok (h : Bool) (w d l s : Int) : g__law_row [.p (Dd.ask h w d l).enc, .p (.int s)] st = .ok (.p (bkAt h w d l s).enc) st := by
  apply gDef_of
  simp [runF_ap, f__law_row, bkAt, Bk.enc, askW_hold]
/-- a deed that asks, of the hall -/
structure Ak (H : HD) (w d l : Int) : Prop where
  kw : 1 ≤ w ∧ w ≤ H.parts
  kl : 1 ≤ l
  kd : 0 ≤ d ∧ d + l ≤ H.days
theorem Ak.inh {H : HD} {h : Bool} {w d l s : Int} (k : Ak H w d l) (hs : s ∈ starts H w) : Inh H (bkAt h w d l s) := by
  have := mem_rg.mp hs
  obtain ⟨a, b, c⟩ := k
  exact ⟨c.1, b, c.2, this.1, a.1, by simp only [bkAt]; omega⟩
theorem Ak.of {H : HD} (hH : H.ok) {h : Bool} {w d l : Int} (hx : (Dd.ask h w d l).of H) : Ak H w d l := by
  obtain ⟨_, a, b, c, e⟩ := hx
  exact ⟨hH.widths w a, b.1, c, by omega⟩
theorem Ak.fit {H : HD} (hH : H.ok) {w d l : Int} (k : Ak H w d l) : askFit w l := by
  have := hH.parts; have := hH.days
  obtain ⟨a, b, c⟩ := k
  unfold askFit; omega
theorem law_suiting_ok {H : HD} (hH : H.ok) {h : Bool} {w d l : Int} (hk : Ak H w d l) {bs : List Bk} (hb : Sms bs) :
    g__law_suiting [.p H.encT, .p (Dd.ask h w d l).enc, .p (.lst (bs.map Bk.enc))] st = .ok (.p (.lst ((suiting H h w d l bs).map P.int))) st := by
  apply gDef_of
  have hl := starts_len hH (hk.fit hH).2
  have hp := hH.parts
  have hw := hk.kw
  have i1 : inWord (H.parts - w + 1) = true := by simp [inWord]; omega
  simp [runF_ap, f__law_suiting]
  rw [comp1 (enc := P.int) (c := fun s => suits (bkAt h w d l s) bs) (f := P.int) (xs := starts H w) (st1 := st)]
  · simp [suiting]
  · simp [i1, rangeS_rg, starts]
  · omega
  · intro s hs
    refine ⟨_, rfl, ?_, fun _ => by simp⟩
    simp [law_row_ok, law_suits_ok ((hk.inh hs).sm hH) hb]
theorem law_gap_ok {H : HD} (hH : H.ok) {h : Bool} {w d l s : Int} (hk : Ak H w d l) (hs : s ∈ starts H w) {bs : List Bk} (hb : Sms bs) :
    g__law_gap [.p H.encT, .p (Dd.ask h w d l).enc, .p (.int s), .p (.lst (bs.map Bk.enc))] st = .ok (.p (.int (gapOf H w d l s bs))) st := by
  apply gDef_of
  have hp := hH.parts
  have hd := hH.days
  obtain ⟨kw, kl, kd⟩ := hk
  have hs' := mem_rg.mp hs
  have hc : ∀ p, 0 ≤ p → p ≤ 10 → Sm (cellB d l p) := fun p h1 h2 => ⟨by simp only [cellB]; omega, by simp only [cellB]; omega, by simp only [cellB]; omega, by simp only [cellB]; omega⟩
  have hf : ∀ p, 0 ≤ p → p ≤ 10 → g__law_free [.p (.tup [.int d, .int p, .int l, .int 1, .bl false]), .p (.lst (bs.map Bk.enc))] st = .ok (.p (.bl (isFree (cellB d l p) bs))) st := fun p h1 h2 => law_free_ok (b := cellB d l p) (hc p h1 h2) hb
  have lw : ∀ (n : Nat) (f x : Int) (c : Int) (m : Nat), n < m → f.toNat ≤ n → f ≤ 10 → x = c - f → whileLoop (eAnd (eBin gGe (eVar 5) (eC (.int 0))) (eCall 2 g__law_free (aCons (eTup (aCons (eBin gIx (eVar 1) (eC (.int 2))) (aCons (eVar 5) (aCons (eBin gIx (eVar 1) (eC (.int 3))) (aCons (eC (.int 1)) (aCons (eC (.bl false)) aNil)))))) (aCons (eVar 3) aNil)))) (sSeq (sSet 4 (eBin gAdd (eVar 4) (eC (.int 1)))) (sSet 5 (eBin Q.gSub (eVar 5) (eC (.int 1))))) m
      [some (S.p H.encT), some (S.p (Dd.ask h w d l).enc), some (S.p (P.int s)), some (S.p (P.lst (List.map Bk.enc bs))), some (S.p (P.int x)), some (S.p (P.int (f - 1))), none] st =
      .ok (.nx [some (S.p H.encT), some (S.p (Dd.ask h w d l).enc), some (S.p (P.int s)), some (S.p (P.lst (List.map Bk.enc bs))), some (S.p (P.int (c - lowF d l bs n f))), some (S.p (P.int (lowF d l bs n f - 1))), none]) st := by
    intro n
    induction n with
    | zero =>
      intro f x c m hm hfn h10 hx
      obtain ⟨m, rfl⟩ : ∃ k, m = k + 1 := ⟨m - 1, by omega⟩
      have : ¬ 1 ≤ f := by omega
      simp [whileLoop_succ, this, lowF, hx]
    | succ n ih =>
      intro f x c m hm hfn h10 hx
      obtain ⟨m, rfl⟩ : ∃ k, m = k + 1 := ⟨m - 1, by omega⟩
      by_cases h0 : 0 < f
      · have h1 : 1 ≤ f := by omega
        have hf' := hf (f - 1) (by omega) (by omega)
        cases e : isFree (cellB d l (f - 1)) bs with
        | true =>
          have := ih (f - 1) (x + 1) c m (by omega) (by omega) (by omega) (by omega)
          simp [whileLoop_succ, h0, h1, hf', e, lowF, this]
        | false => simp [whileLoop_succ, h0, h1, hf', e, lowF, hx]
      · have h1 : ¬ 1 ≤ f := by omega
        simp [whileLoop_succ, h0, h1, lowF, hx]
  have hw : ∀ (y : Int) (n : Nat) (f x : Int) (c : Int) (m : Nat), n < m → (H.parts - f).toNat ≤ n → 0 ≤ f → x = c + f → whileLoop (eAnd (eBin gLt (eVar 6) (eBin gIx (eVar 0) (eC (.int 0)))) (eCall 2 g__law_free (aCons (eTup (aCons (eBin gIx (eVar 1) (eC (.int 2))) (aCons (eVar 6) (aCons (eBin gIx (eVar 1) (eC (.int 3))) (aCons (eC (.int 1)) (aCons (eC (.bl false)) aNil)))))) (aCons (eVar 3) aNil)))) (sSeq (sSet 4 (eBin gAdd (eVar 4) (eC (.int 1)))) (sSet 6 (eBin gAdd (eVar 6) (eC (.int 1))))) m
      [some (S.p H.encT), some (S.p (Dd.ask h w d l).enc), some (S.p (P.int s)), some (S.p (P.lst (List.map Bk.enc bs))), some (S.p (P.int x)), some (S.p (P.int y)), some (S.p (P.int f))] st =
      .ok (.nx [some (S.p H.encT), some (S.p (Dd.ask h w d l).enc), some (S.p (P.int s)), some (S.p (P.lst (List.map Bk.enc bs))), some (S.p (P.int (c + highF d l H.parts bs n f))), some (S.p (P.int y)), some (S.p (P.int (highF d l H.parts bs n f)))]) st := by
    intro y n
    induction n with
    | zero =>
      intro f x c m hm hfn h10 hx
      obtain ⟨m, rfl⟩ : ∃ k, m = k + 1 := ⟨m - 1, by omega⟩
      have : ¬ f < H.parts := by omega
      simp [whileLoop_succ, this, highF, hx]
    | succ n ih =>
      intro f x c m hm hfn h10 hx
      obtain ⟨m, rfl⟩ : ∃ k, m = k + 1 := ⟨m - 1, by omega⟩
      by_cases h0 : f < H.parts
      · have hf' := hf f h10 (by omega)
        cases e : isFree (cellB d l f) bs with
        | true =>
          have := ih (f + 1) (x + 1) c m (by omega) (by omega) (by omega) (by omega)
          simp [whileLoop_succ, h0, hf', e, highF, this]
        | false => simp [whileLoop_succ, h0, hf', e, highF, hx]
      · simp [whileLoop_succ, h0, highF, hx]
  simp [runF_ap, f__law_gap]
  rw [lw s.toNat s w (w + s) 100000 (by omega) (by omega) (by omega) (by omega)]
  simp
  rw [hw _ (H.parts - (s + w)).toNat (s + w) _ (w + s - lowF d l bs s.toNat s - (s + w)) 100000 (by omega) (by omega) (by omega) (by omega)]
  simp [gapOf]
  omega
theorem letStarts_ff (H : HD) (h : Bool) (w d l : Int) (bs : List Bk) : letStarts H h w d l bs = (starts H w).filter fun s => letOk H h w d l bs s && stepOk H w s := by
  unfold letStarts
  rw [List.filter_filter]
theorem law_let_ok {H : HD} (hH : H.ok) {h : Bool} {w d l : Int} (hk : Ak H w d l) {bs : List Bk} (hb : Sms bs) :
    g__law_let [.p H.encT, .p (Dd.ask h w d l).enc, .p (.lst (bs.map Bk.enc))] st = .ok (.p (.lst ((letStarts H h w d l bs).map P.int))) st := by
  apply gDef_new (new := [.dead])
  have hl := starts_len hH (hk.fit hH).2
  have hp := hH.parts
  have hw := hk.kw
  have i1 : inWord (H.parts - w + 1) = true := by simp [inWord]; omega
  rw [letStarts_ff]
  obtain ⟨e, st', h1, z4, z5, z6, h2, h3⟩ := forLoop_inv (t := .one 4) (body := (sSeq (sSet 5 (eCall 2 g__law_row (aCons (eVar 1) (aCons (eVar 4) aNil)))) (sSeq (sSet 6 (eIf (eBin (gEqD false) (eBin gIx (eBin gIx (eVar 0) (eC (.int 4))) (eC (.str "checking"))) (eC (.str "walls"))) (eCall 2 g__law_suits (aCons (eVar 5) (aCons (eVar 2) aNil))) (eCall 2 g__law_free (aCons (eVar 5) (aCons (eVar 2) aNil))))) (sIf (eAnd (eVar 6) (eOr (eBin (gEqD false) (eBin gIx (eBin gIx (eVar 0) (eC (.int 4))) (eC (.str "places"))) (eC (.str "any"))) (eBin (gEqD false) (eBin gMod (eVar 4) (eBin gIx (eVar 1) (eC (.int 1)))) (eC (.int 0))))) (sExpr (eMt isLst gAppend (eVar 3) (aCons (eVar 4) aNil))) sNext))))
    (fun k env st' => ∃ z4 z5 z6, env = [some (S.p H.encT), some (.p (Dd.ask h w d l).enc), some (.p (.lst (bs.map Bk.enc))), some (.c st.length), z4, z5, z6] ∧ st' = st ++ [.lst ((((starts H w).take k).filter fun s => letOk H h w d l bs s && stepOk H w s).map fun i => S.p (.int i))])
    (items := (starts H w).map fun i => S.p (.int i)) (env := [some (S.p H.encT), some (.p (Dd.ask h w d l).enc), some (.p (.lst (bs.map Bk.enc))), some (.c st.length), none, none, none]) (st := st ++ [.lst []]) 0 ⟨none, none, none, rfl, rfl⟩ (by
      rintro k s env st' hs ⟨z4, z5, z6, rfl, rfl⟩
      rw [Nat.zero_add]
      rw [List.getElem?_map] at hs
      cases hk' : (starts H w)[k]? with
      | none => rw [hk'] at hs; cases hs
      | some i =>
        rw [hk'] at hs
        simp only [Option.map_some, Option.some.injEq] at hs
        subst hs
        have hi := List.mem_of_getElem? hk'
        have hsm := (hk.inh (h := h) hi).sm hH
        have e1 : (starts H w).take (k + 1) = (starts H w).take k ++ [i] := by rw [List.take_add_one, hk']; rfl
        have e2 : (((starts H w).take k).filter fun s => letOk H h w d l bs s && stepOk H w s).length < 16777216 := by
          have h1 := List.length_filter_le (fun s => letOk H h w d l bs s && stepOk H w s) ((starts H w).take k)
          rw [List.length_take] at h1
          omega
        have hg : (if H.ck = .walls then suits (bkAt h w d l i) bs else isFree (bkAt h w d l i) bs) = letOk H h w d l bs i := rfl
        have hst : (decide (H.pl = .any) || decide (i % w = 0)) = stepOk H w i := by
          unfold stepOk
          rcases hH.pl with q | q <;> simp [q]
        refine ⟨[some (S.p H.encT), some (.p (Dd.ask h w d l).enc), some (.p (.lst (bs.map Bk.enc))), some (.c st.length), some (.p (.int i)), z5, z6], [some (S.p H.encT), some (.p (Dd.ask h w d l).enc), some (.p (.lst (bs.map Bk.enc))), some (.c st.length), some (.p (.int i)), some (.p (bkAt h w d l i).enc), some (.p (.bl (letOk H h w d l bs i)))], st ++ [.lst ((((starts H w).take (k + 1)).filter fun s => letOk H h w d l bs s && stepOk H w s).map fun i => S.p (.int i))], by simp, .inl ?_, ⟨_, _, _, rfl, rfl⟩⟩
        rw [e1, List.filter_append]
        cases g1 : letOk H h w d l bs i with
        | false =>
          by_cases q : H.ck = .walls
          · rw [if_pos q] at hg
            rw [g1] at hg
            simp [law_row_ok, q, law_suits_ok hsm hb, hg, g1]
          · rw [if_neg q] at hg
            rw [g1] at hg
            simp [law_row_ok, q, law_free_ok hsm hb, hg, g1]
        | true =>
          have hw0 : 0 < w := by omega
          by_cases q : H.ck = .walls
          · rw [if_pos q] at hg
            rw [g1] at hg
            by_cases q2 : H.pl = .any
            · rw [q2] at hst; simp at hst
              simp [law_row_ok, q, q2, law_suits_ok hsm hb, hg, g1, hst, e2]
            · by_cases q3 : i % w = 0
              · simp [q2, q3] at hst
                simp [law_row_ok, q, q2, q3, hw0, law_suits_ok hsm hb, hg, g1, hst, e2]
              · simp [q2, q3] at hst
                simp [law_row_ok, q, q2, q3, hw0, law_suits_ok hsm hb, hg, g1, hst, e2]
          · rw [if_neg q] at hg
            rw [g1] at hg
            by_cases q2 : H.pl = .any
            · rw [q2] at hst; simp at hst
              simp [law_row_ok, q, q2, law_free_ok hsm hb, hg, g1, hst, e2]
            · by_cases q3 : i % w = 0
              · simp [q2, q3] at hst
                simp [law_row_ok, q, q2, q3, hw0, law_free_ok hsm hb, hg, g1, hst, e2]
              · simp [q2, q3] at hst
                simp [law_row_ok, q, q2, q3, hw0, law_free_ok hsm hb, hg, g1, hst, e2])
  rw [List.length_map, Nat.zero_add, List.take_of_length_le (Nat.le_refl _)] at h3
  subst h2 h3
  simp [runF_ap, f__law_let, i1, rangeS_rg]
  rw [show rg (H.parts - w + 1) = starts H w from rfl]
  simp only [lit_checking, lit_walls, lit_places, lit_any] at h1
  rw [h1]
  simp [sFrz_ap, frzC, frzO, pureSs_mapf]
end QS

set_option Elab.async false
set_option linter.all false
set_option maxRecDepth 100000
set_option maxHeartbeats 4000000
/-! V17: the law's own model: what is given, takers, deeds that can be, room. -/
namespace QS
open PySem L2 Q
variable {st : Store}
theorem rg_asc (n : Int) : (rg n).Pairwise (· < ·) := by
  unfold rg
  rw [List.pairwise_map]
  exact (List.pairwise_lt_range).imp fun h => by omega
theorem minI_asc {x : Int} {xs : List Int} (h : (x :: xs).Pairwise (· < ·)) : minI x xs = x := by
  have h1 := (List.pairwise_cons.mp h).1
  unfold minI
  clear h
  induction xs with
  | nil => rfl
  | cons y r ih =>
    have hy := h1 y (.head _)
    show bestF _ (if decide (y < x) = true then y else x) r = x
    rw [if_neg (by simp; omega)]
    exact ih fun z hz => h1 z (.tail _ hz)
theorem maxI_asc : ∀ {xs : List Int} {x : Int}, (x :: xs).Pairwise (· < ·) → (x :: xs).getLast? = some (maxI x xs)
  | [], _, _ => rfl
  | y :: r, x, h => by
    have h1 := (List.pairwise_cons.mp h)
    have hy := h1.1 y (.head _)
    have ih := maxI_asc (xs := r) (x := y) h1.2
    have e : maxI x (y :: r) = maxI y r := by
      show bestF _ (if decide (x < y) = true then y else x) r = _
      rw [if_pos (by simpa using hy)]; rfl
    rw [e, ← ih, List.getLast?_cons_cons]
theorem letStarts_asc (H : HD) (h : Bool) (w d l : Int) (bs : List Bk) : (letStarts H h w d l bs).Pairwise (· < ·) := ((rg_asc _).filter _).filter _
theorem counting_asc (H : HD) (h : Bool) (w d l : Int) (bs : List Bk) : (countingF H h w d l bs).1.Pairwise (· < ·) := by
  unfold countingF; split <;> exact letStarts_asc _ _ _ _ _ _
theorem sortable_ii (l : List (Int × Int)) : sortableB (l.map Enc.dat) = true := by
  unfold sortableB
  rw [all_alike, Bool.true_and, Bool.true_and, Bool.or_eq_true]
  left
  rw [List.all_eq_true]
  intro d hd
  obtain ⟨a, _, rfl⟩ := List.mem_map.mp hd
  rfl
/-- the head of the sorted pairs -/
theorem sort_head (x : Int × Int) (xs : List (Int × Int)) : ∃ t, sortE (x :: xs) = bestF ltII x xs :: t := by
  have hs : (sortE (x :: xs)).Pairwise (fun a b => PySem.W.dataLe false Enc.dat a b = true) := PySem.W.sort_pairwise (PySem.W.sortLe_total _ _ _) _
  have hm : ∀ y, y ∈ sortE (x :: xs) ↔ y ∈ x :: xs := fun y => sortE_mem
  have hle : ∀ a b : Int × Int, PySem.W.dataLe false Enc.dat a b = !ltII b a := fun a b => by rw [← lt_ii]; rfl
  obtain ⟨h1, h2⟩ := bestF_spec (lt := ltII) (fun a b c h1 h2 => by simp only [ltII, Bool.or_eq_false_iff, Bool.and_eq_false_iff, decide_eq_false_iff_not] at *; omega) (fun a => by simp [ltII]) (fun a b h => by
    rw [Bool.eq_false_iff]; intro h2
    simp only [ltII, Bool.or_eq_true, Bool.and_eq_true, decide_eq_true_iff] at *; omega) xs x
  cases e : sortE (x :: xs) with
  | nil =>
    have := sortE_len (x :: xs)
    rw [e] at this; simp at this
  | cons y t =>
    refine ⟨t, ?_⟩
    rw [e] at hs hm
    have hy : y ∈ x :: xs := (hm y).mp (.head _)
    have a1 := h2 y hy
    have a2 : ltII (bestF ltII x xs) y = false := by
      rcases List.mem_cons.mp ((hm _).mpr h1) with q | q
      · rw [← q]; simp [ltII]
      · have := (List.pairwise_cons.mp hs).1 _ q
        rw [hle] at this
        simpa using this
    have : y = bestF ltII x xs := by
      simp only [ltII, Bool.or_eq_false_iff, Bool.and_eq_false_iff, decide_eq_false_iff_not] at a1 a2
      ext <;> omega
    rw [this]
theorem atI_getLast {α : Type} {xs : List α} {x : α} (h : xs.getLast? = some x) : atI xs (-1) = some x := by
  obtain ⟨ys, rfl⟩ := List.getLast?_eq_some_iff.mp h
  exact Q.atI_last ys x
theorem given_tail {H : HD} (hH : H.ok) {h : Bool} {w d l : Int} (hk : Ak H w d l) {bs : List Bk} (hb : Sms bs) (y3 : S) (rows : S) :
    ((sSeq (sSet 5 (eCall 3 g__law_let (aCons (eVar 0) (aCons (eVar 1) (aCons (eVar 4) aNil))))) (sSeq (sIf (eBin (gEqD false) (eVar 5) (eLst aNil)) (sRet (eC .non)) sNext) (sSeq (sIf (eBin (gEqD true) (eBin gIx (eBin gIx (eVar 0) (eC (.int 4))) (eC (.str "giving"))) (eC (.str "tight"))) (sRet (eIf (eBin (gEqD false) (eBin gIx (eBin gIx (eVar 0) (eC (.int 4))) (eC (.str "giving"))) (eC (.str "first"))) (eBin gIx (eVar 5) (eC (.int 0))) (eBin gIx (eVar 5) (eC (.int (-1)))))) sNext) (sRet (eBin gIx (eBin gIx (eCallB gSorted (aCons (eComp fzL (iSeq (eVar 5)) (.one 7) (([("_law_start_here", 7)] : List (PySem.Str × Nat)).map (·.2)) tYesQ (nEmit (eTup (aCons (eCall 4 g__law_gap (aCons (eVar 0) (aCons (eVar 1) (aCons (eVar 7) (aCons (eVar 4) aNil))))) (aCons (eVar 7) aNil))))) aNil)) (eC (.int 0))) (eC (.int 1))))))) [some (S.p H.encT), some (.p (Dd.ask h w d l).enc), some rows, some y3, some (.p (.lst (bs.map Bk.enc))), none, none, none] st).bind endS =
      .ok (.p (encOI (if letStarts H h w d l bs = [] then none else some (givenOf H w d l (letStarts H h w d l bs) bs)))) st := by
  simp [law_let_ok hH hk hb, lst_nil_eq]
  cases e : letStarts H h w d l bs with
  | nil => simp [encOI]
  | cons x xs =>
    have ha := letStarts_asc H h w d l bs
    rw [e] at ha
    have hmem : ∀ s ∈ x :: xs, s ∈ starts H w := fun s hs => by
      rw [← e] at hs
      exact (List.mem_filter.mp (List.mem_filter.mp hs).1).1
    have hlen : (x :: xs).length ≤ 5 := by rw [← e]; exact letStarts_len hH (hk.fit hH).2 bs
    have c1 : gEqD false (S.p (P.lst (P.int x :: xs.map P.int))) (.p (.lst [])) st = .ok (.p (.bl false)) st := lst_nil_eq (x :: xs)
    rcases hH.gv with g | g | g
    · simp [g, givenOf, minI_asc ha, encOI]
    · have := maxI_asc ha
      have h2 : atI (S.p (P.int x) :: (xs.map fun s => S.p (P.int s))) (-1) = some (S.p (P.int (maxI x xs))) := by
        refine atI_getLast ?_
        have := congrArg (Option.map fun s => S.p (P.int s)) this
        rw [← List.getLast?_map] at this
        simpa using this
      simp [g, givenOf, encOI]
      simp only [Function.comp_def]
      rw [h2]
      simp
    · simp [g, givenOf, encOI]
      rw [comp0 (enc := P.int) (f := fun s => Enc.enc (gapOf H w d l s bs, s)) (xs := x :: xs) (st1 := st)]
      · obtain ⟨t, ht⟩ := sort_head (gapOf H w d l x bs, x) (xs.map fun s => (gapOf H w d l s bs, s))
        have e3 := gSorted_ok ((gapOf H w d l x bs, x) :: xs.map fun s => (gapOf H w d l s bs, s)) st (sortable_ii _)
        rw [ht] at e3
        simp only [List.map_cons, List.map_map, Function.comp_def] at e3
        simp [e3]
        simp [Enc.enc]
      · simp
      · omega
      · intro s hs
        refine ⟨_, rfl, ?_⟩
        simp [law_gap_ok hH hk (hmem s hs) hb]
        rfl
theorem law_given_ok {H : HD} (hH : H.ok) {h : Bool} {w d l : Int} (hk : Ak H w d l) {bs : List Bk} (hb : Sms bs) :
    g__law_given [.p H.encT, .p (Dd.ask h w d l).enc, .p (.lst (bs.map Bk.enc))] st = .ok (.p (encOI (startGiven H h w d l bs))) st := by
  apply gDef_of
  have hf : Sms (firmB bs) := hb.filter _
  have k1 : eComp fzL (iSeq (eVar 2)) (.one 6) [6] (tOf (eNot (eBin gIx (eVar 6) (eC (.int 4))))) (nEmit (eVar 6)) [some (S.p H.encT), some (.p (Dd.ask h w d l).enc), some (.p (.lst (bs.map Bk.enc))), none, none, none, none, none] st = .ok (.p (.lst ((firmB bs).map Bk.enc))) st := by
    rw [comp1 (enc := Bk.enc) (c := fun b => !b.held) (f := Bk.enc) (xs := bs) (st1 := st)]
    · rfl
    · simp
    · have := hb.n; omega
    · intro b _
      exact ⟨_, rfl, by simp, fun _ => by simp⟩
  have t1 := given_tail (st := st) hH (h := h) hk hb (.p (.lst ((firmB bs).map Bk.enc))) (.p (.lst (bs.map Bk.enc)))
  have t2 := given_tail (st := st) hH (h := h) hk hf (.p (.lst ((firmB bs).map Bk.enc))) (.p (.lst (bs.map Bk.enc)))
  have lk := law_let_ok (st := st) hH (h := h) hk hb
  rw [runF_ap]
  unfold f__law_given startGiven countingF
  rcases hH.hd with g | g | g
  · cases h with
    | true => simp [g, k1, askW] at t1 ⊢; simpa using t1
    | false => simp [g, k1, askW] at t1 ⊢; simpa using t1
  · cases h with
    | true => simp [g, k1, askW] at t1 ⊢; simpa using t1
    | false =>
      by_cases e : letStarts H false w d l bs = []
      · simp [g, k1, askW, lk, lst_nil_eq, e] at t2 ⊢; simpa using t2
      · simp [g, k1, askW, lk, lst_nil_eq, e] at t1 ⊢; simpa [e] using t1
  · cases h with
    | true => simp [g, k1, askW] at t1 ⊢; simpa using t1
    | false => simp [g, k1, askW] at t2 ⊢; simpa using t2
end QS

set_option Elab.async false
set_option linter.all false
set_option maxRecDepth 100000
set_option maxHeartbeats 4000000
/-! V18: the law's own model: takers, deeds that can be, room. -/
namespace QS
open PySem L2 Q
variable {st : Store}
@[simp] theorem sl_13 (a b c : P) (r : List P) : slS (.p (.tup (a :: b :: c :: r))) (some 1) (some 3) st = .ok (.p (.tup [b, c])) st := by
  have e : cutL (a :: b :: c :: r) (some 1) (some 3) = [b, c] := by
    unfold cutL
    simp [HT.sIx]
  show R.ok (S.p (P.tup (cutL (a :: b :: c :: r) (some 1) (some 3)))) st = _
  rw [e]
/-- the cell that a deed names -/
def Dd.cell : Dd → Option (Int × Int)
  | .cancel d p => some (d, p)
  | .firm d p => some (d, p)
  | .longer d p => some (d, p)
  | .move d p _ => some (d, p)
  | _ => none
theorem cell_sl {x : Dd} {d p : Int} (h : x.cell = some (d, p)) : slS (.p x.enc) (some 1) (some 3) st = .ok (.p (Enc.enc (d, p))) st := by
  cases x <;> simp [Dd.cell] at h <;> obtain ⟨rfl, rfl⟩ := h <;> simp [Dd.enc] <;> rfl
theorem law_taker_ok {bs : List Bk} (hb : Sms bs) {x : Dd} {d p : Int} (hx : x.cell = some (d, p)) : g__law_taker [.p (.lst (bs.map Bk.enc)), .p x.enc] st = .ok (.p (encOB (taker bs d p))) st := by
  apply gDef_of
  simp [runF_ap, f__law_taker]
  rw [comp1 (enc := Bk.enc) (c := fun b => decide ((d, p) ∈ cells b)) (f := Bk.enc) (xs := bs) (st1 := st)]
  · have e : (bs.filter fun b => decide ((d, p) ∈ cells b)).head? = taker bs d p := List.head?_filter ..
    cases q : bs.filter (fun b => decide ((d, p) ∈ cells b)) with
    | nil =>
      rw [q] at e
      simp at e
      simp [← e]
    | cons y t =>
      rw [q] at e
      simp at e
      have := bks_ne_nil (st := st) (y :: t)
      simp only [List.map_cons] at this
      simp [← e, this]
  · simp
  · have := hb.n; omega
  · intro b hb'
    refine ⟨_, rfl, ?_, fun _ => by simp⟩
    simp [cell_sl hx, law_cells_ok (hb.s b hb'), in_cells2]
theorem held_filter (bs : List Bk) : (!decide (bs.filter (fun b => b.held) = [])) = bs.any fun b => b.held := by
  rw [filter_nil_any]; simp
theorem law_may_ok {H : HD} {bs : List Bk} (hb : Sms bs) (x : Dd) : g__law_may [.p H.encT, .p (.lst (bs.map Bk.enc)), .p x.enc] st = .ok (.p (.bl (canBe H bs x))) st := by
  apply gDef_of
  cases x with
  | ask h w d l => cases h <;> simp [runF_ap, f__law_may, askW, canBe]
  | lapse =>
    simp [runF_ap, f__law_may, Dd.word, canBe]
    rw [comp1 (enc := Bk.enc) (c := fun b => b.held) (f := Bk.enc) (xs := bs) (st1 := st)]
    · simp only [R.bind_ok, eC_ap, bks_ne_nil, held_filter]
      simp
    · simp
    · have := hb.n; omega
    · intro b _
      exact ⟨_, rfl, by simp, fun _ => by simp⟩
  | cancel d p =>
    have := law_taker_ok (st := st) hb (x := .cancel d p) rfl
    cases e : taker bs d p <;> simp [runF_ap, f__law_may, Dd.word, canBe, this, e]
  | firm d p =>
    have := law_taker_ok (st := st) hb (x := .firm d p) rfl
    cases e : taker bs d p <;> simp [runF_ap, f__law_may, Dd.word, canBe, this, e]
  | longer d p =>
    have := law_taker_ok (st := st) hb (x := .longer d p) rfl
    cases e : taker bs d p <;> simp [runF_ap, f__law_may, Dd.word, canBe, this, e]
  | move d p s =>
    have := law_taker_ok (st := st) hb (x := .move d p s) rfl
    cases e : taker bs d p with
    | none => simp [runF_ap, f__law_may, Dd.word, canBe, this, e]
    | some b =>
      simp [runF_ap, f__law_may, Dd.word, canBe, this, e]
      by_cases q : b.part = s
      · simp [q]
      · have q2 : ¬ s = b.part := fun z => q z.symm
        simp [q, q2]
/-! ### what is near -/
theorem near_eq {d l : Int} (hl : 1 ≤ l) {b : Bk} (hb : Sm b) : ((cells b).any fun c => decide (c.1 ∈ (rg l).map fun i => d + i)) = shares d b.day l b.len := by
  rw [Bool.eq_iff_iff, List.any_eq_true]
  unfold shares
  rw [Bool.and_eq_true, decide_eq_true_iff, decide_eq_true_iff]
  have hw := hb.w; have hl2 := hb.l
  constructor
  · rintro ⟨⟨x, y⟩, hc, hx⟩
    have := mem_cells.mp hc
    obtain ⟨i, hi, e⟩ := List.mem_map.mp (of_decide_eq_true hx)
    have := mem_rg.mp hi
    simp only at e
    omega
  · rintro ⟨h1, h2⟩
    by_cases q : d ≤ b.day
    · exact ⟨(b.day, b.part), mem_cells.mpr (by omega), decide_eq_true (List.mem_map.mpr ⟨b.day - d, mem_rg.mpr (by omega), by simp only; omega⟩)⟩
    · exact ⟨(d, b.part), mem_cells.mpr (by omega), decide_eq_true (List.mem_map.mpr ⟨0, mem_rg.mpr (by omega), by simp only; omega⟩)⟩
theorem law_nearer_ok {H : HD} (hH : H.ok) {h : Bool} {w d l : Int} (hk : Ak H w d l) {bs : List Bk} (hb : Sms bs) :
    g__law_nearer [.p (Dd.ask h w d l).enc, .p (.lst (bs.map Bk.enc))] st = .ok (.p (.lst ((nearOf h w d l bs ++ restOf h w d l bs).map Bk.enc))) st := by
  apply gDef_of
  obtain ⟨⟨kw1, kw2⟩, kl, kd1, kd2⟩ := hk
  have hd := hH.days
  have r1 : rgP d (d + l) = ((rg l).map fun i => d + i).map P.int := by rw [rgP_add, show d + l - d = l by omega]; simp [Function.comp_def]
  simp [runF_ap, f__law_nearer]
  rw [if_pos (by omega), r1]
  rw [comp1 (enc := Bk.enc) (c := fun b => shares d b.day l b.len) (f := Bk.enc) (xs := bs) (st1 := st)]
  rotate_left
  · simp
  · have := hb.n; omega
  · intro b hb'
    refine ⟨_, rfl, ?_, fun _ => by simp⟩
    have hs := hb.s b hb'
    simp
    rw [comp1 (enc := Enc.enc) (c := fun c : Int × Int => decide (c.1 ∈ (rg l).map fun i => d + i)) (f := Enc.enc) (xs := cells b) (st1 := st)]
    · have e := filter_nil_any (cells b) fun c : Int × Int => decide (c.1 ∈ (rg l).map fun i => d + i)
      have e2 := gNe_lst st ((cells b).filter fun c : Int × Int => decide (c.1 ∈ (rg l).map fun i => d + i)) [] (by decide)
      rw [e, near_eq kl hs] at e2
      simp only [List.map_nil] at e2
      simp only [R.bind_ok, e2]
      simp
    · simp [law_cells_ok hs]
    · have := cells_len hs.fit; omega
    · intro c _
      refine ⟨_, rfl, ?_, fun _ => by simp⟩
      have e0 : gIx (.p (Enc.enc c)) (.p (.int 0)) st = .ok (.p (.int c.1)) st := rfl
      have := int_in (st := st) c.1 ((rg l).map fun i => d + i)
      simp only [List.map_map, Function.comp_def] at this
      simp [e0, Function.comp_def, this]
  rw [show (bs.filter fun b => shares d b.day l b.len) = nearOf h w d l bs from rfl]
  simp
  rw [comp1 (enc := Bk.enc) (c := fun b => !decide (b ∈ nearOf h w d l bs)) (f := Bk.enc) (xs := bs) (st1 := st)]
  · rw [show (bs.filter fun b => !decide (b ∈ nearOf h w d l bs)) = restOf h w d l bs from rfl]
    have := near_rest h w d l bs
    have := hb.n
    simp only [List.length_append] at *
    simp
    omega
  · simp
  · have := hb.n; omega
  · intro b _
    refine ⟨_, rfl, ?_, fun _ => by simp⟩
    have := gIn_lst true st b (nearOf h w d l bs) (by decide)
    simp only [if_true] at this
    have this : gIn true (.p b.enc) (.p (.lst ((nearOf h w d l bs).map Bk.enc))) st = .ok (.p (.bl (!decide (b ∈ nearOf h w d l bs)))) st := this
    simp [this]
end QS

set_option Elab.async false
set_option linter.all false
set_option maxRecDepth 100000
set_option maxHeartbeats 4000000
/-! V19: the law's own model: room, what a deed changes and tells. -/
namespace QS
open PySem L2 Q
variable {st : Store}
@[simp] theorem bk_sl2 (b : Bk) : slS (.p b.enc) (some 2) none st = .ok (.p (.tup [.int b.len, .int b.wid, .bl b.held])) st := by
  have e : cutL [P.int b.day, P.int b.part, P.int b.len, P.int b.wid, P.bl b.held] (some 2) none = [.int b.len, .int b.wid, .bl b.held] := by
    unfold cutL
    simp [HT.sIx]
  show R.ok (S.p (P.tup (cutL [P.int b.day, P.int b.part, P.int b.len, P.int b.wid, P.bl b.held] (some 2) none))) st = _
  rw [e]
@[simp] theorem bk_sl02 (b : Bk) : slS (.p b.enc) none (some 2) st = .ok (.p (.tup [.int b.day, .int b.part])) st := by
  have e : cutL [P.int b.day, P.int b.part, P.int b.len, P.int b.wid, P.bl b.held] none (some 2) = [.int b.day, .int b.part] := by
    unfold cutL
    simp [HT.sIx]
  show R.ok (S.p (P.tup (cutL [P.int b.day, P.int b.part, P.int b.len, P.int b.wid, P.bl b.held] none (some 2)))) st = _
  rw [e]
@[simp] theorem bk_sl04 (b : Bk) : slS (.p b.enc) none (some 4) st = .ok (.p (.tup [.int b.day, .int b.part, .int b.len, .int b.wid])) st := by
  have e : cutL [P.int b.day, P.int b.part, P.int b.len, P.int b.wid, P.bl b.held] none (some 4) = [.int b.day, .int b.part, .int b.len, .int b.wid] := by
    unfold cutL
    simp [HT.sIx]
  show R.ok (S.p (P.tup (cutL [P.int b.day, P.int b.part, P.int b.len, P.int b.wid, P.bl b.held] none (some 4)))) st = _
  rw [e]
@[simp] theorem bk_sl3 (b : Bk) : slS (.p b.enc) (some 3) none st = .ok (.p (.tup [.int b.wid, .bl b.held])) st := by
  have e : cutL [P.int b.day, P.int b.part, P.int b.len, P.int b.wid, P.bl b.held] (some 3) none = [.int b.wid, .bl b.held] := by
    unfold cutL
    simp [HT.sIx]
  show R.ok (S.p (P.tup (cutL [P.int b.day, P.int b.part, P.int b.len, P.int b.wid, P.bl b.held] (some 3) none))) st = _
  rw [e]
/-- small, and of a width that the hall has -/
structure Smw (H : HD) (b : Bk) : Prop where
  s : Sm b
  pw : b.wid ≤ H.parts
theorem Smw.at {H : HD} (hH : H.ok) {b : Bk} (h : Smw H b) {s : Int} (hs : s ∈ starts H b.wid) : Smw H (b.at s) := by
  have := mem_rg.mp hs
  have hp := hH.parts
  have hw := h.s.w
  exact ⟨⟨h.s.d, h.s.l, by simp only [Bk.at]; omega, h.s.w⟩, h.pw⟩
theorem law_fits_rec {H : HD} (hH : H.ok) : ∀ (n : Nat) (rows laid : List Bk) (st : Store), rows.length < n → rows.length + laid.length ≤ 1000 → (∀ b ∈ rows, Smw H b) → (∀ b ∈ laid, Smw H b) →
    gRec 6 f__law_fits n [.p H.encT, .p (.lst (rows.map Bk.enc)), .p (.lst (laid.map Bk.enc))] st = .ok (.p (.bl (hasRoom H rows laid))) st
  | 0, rows, laid, st, hn, _, _, _ => absurd hn (Nat.not_lt_zero _)
  | n + 1, [], laid, st, hn, hl, hr, hf => by
    show gDef 6 (f__law_fits (gRec 6 f__law_fits n)) _ st = _
    apply gDef_of
    simp [runF_ap, f__law_fits, hasRoom]
  | n + 1, b :: r, laid, st, hn, hl, hr, hf => by
    show gDef 6 (f__law_fits (gRec 6 f__law_fits n)) _ st = _
    apply gDef_of
    have hb := hr b (.head _)
    have h0 : Sms laid := ⟨by simp at hl; omega, fun x hx => (hf x hx).s⟩
    have h1 := bks_eq_nil (st := st) (b :: r)
    simp only [List.map_cons] at h1
    have hp := hH.parts
    have hw := hb.s.w
    have hpw := hb.pw
    have i1 : inWord (H.parts - b.wid + 1) = true := by simp [inWord]; omega
    simp [runF_ap, f__law_fits, h1, i1, rangeS_rg]
    rw [show rg (H.parts - b.wid + 1) = starts H b.wid from rfl]
    rcases forLoop_find (t := .one 4) (body := (sSeq (sSet 5 (eBin gAdd (eTup (aCons (eBin gIx (eVar 3) (eC (.int 0))) (aCons (eVar 4) aNil))) (eSl (eVar 3) (oSome (eC (.int 2))) oNone))) (sIf (eAnd (eCall 2 g__law_suits (aCons (eVar 5) (aCons (eVar 2) aNil))) (eCall 3 (gRec 6 f__law_fits n) (aCons (eVar 0) (aCons (eSl (eVar 1) (oSome (eC (.int 1))) oNone) (aCons (eBin gAdd (eVar 2) (eLst (aCons (eVar 5) aNil))) aNil))))) (sRet (eC (.bl true))) sNext))) (st := st)
      (fun e => ∃ z1 z2, e = [some (S.p H.encT), some (S.p (.lst (b.enc :: r.map Bk.enc))), some (S.p (.lst (laid.map Bk.enc))), some (S.p b.enc), z1, z2]) P.int (fun s => suits (b.at s) laid && hasRoom H r (laid ++ [b.at s])) (fun _ => S.p (.bl true)) (xs := starts H b.wid)
      (env := [some (S.p H.encT), some (S.p (.lst (b.enc :: r.map Bk.enc))), some (S.p (.lst (laid.map Bk.enc))), some (S.p b.enc), none, none]) ⟨none, none, rfl⟩ (by
        rintro s hs env ⟨z1, z2, rfl⟩
        have hsw := hb.at hH hs
        have k1 : g__law_suits [.p (P.tup [P.int b.day, P.int s, P.int b.len, P.int b.wid, P.bl b.held]), .p (.lst (laid.map Bk.enc))] st = .ok (.p (.bl (suits (b.at s) laid))) st := law_suits_ok (b := b.at s) hsw.s h0
        have k2 := law_fits_rec hH n r (laid ++ [b.at s]) st (by simpa using hn) (by simp at hl ⊢; omega) (fun x hx => hr x (.tail _ hx)) (fun x hx => by
          rcases List.mem_append.mp hx with q | q
          · exact hf x q
          · simp at q; subst q; exact hsw)
        rw [List.map_append] at k2
        have k3 : (laid.map Bk.enc ++ [b.at s].map Bk.enc) = laid.map Bk.enc ++ [P.tup [P.int b.day, P.int s, P.int b.len, P.int b.wid, P.bl b.held]] := rfl
        rw [k3] at k2
        have k4 : laid.length + 1 ≤ 16777216 := by simp at hl; omega
        refine ⟨[some (S.p H.encT), some (S.p (.lst (b.enc :: r.map Bk.enc))), some (S.p (.lst (laid.map Bk.enc))), some (S.p b.enc), some (S.p (.int s)), z2], by simp, fun hc => ?_, fun hc => ⟨[some (S.p H.encT), some (S.p (.lst (b.enc :: r.map Bk.enc))), some (S.p (.lst (laid.map Bk.enc))), some (S.p b.enc), some (S.p (.int s)), some (S.p (P.tup [P.int b.day, P.int s, P.int b.len, P.int b.wid, P.bl b.held]))], ?_, ⟨_, _, rfl⟩⟩⟩
        · rw [Bool.and_eq_true] at hc
          simp [k1, k2, hc.1, hc.2, k4]
        · cases e1 : suits (b.at s) laid with
          | false => simp [k1, e1]
          | true =>
            rw [e1, Bool.true_and] at hc
            simp [k1, e1, k2, hc, k4]) with ⟨x, g1, g2⟩ | ⟨g1, e, g2, _⟩
    · rw [g2]
      have : (starts H b.wid).any (fun s => suits (b.at s) laid && hasRoom H r (laid ++ [b.at s])) = true := by rw [← find_any, g1]; rfl
      simp [hasRoom, this]
    · rw [g2]
      have : (starts H b.wid).any (fun s => suits (b.at s) laid && hasRoom H r (laid ++ [b.at s])) = false := by rw [← find_any, g1]; rfl
      simp [hasRoom, this]
theorem law_fits_ok {H : HD} (hH : H.ok) {rows : List Bk} (hn : rows.length < 50) (hr : ∀ b ∈ rows, Smw H b) :
    g__law_fits [.p H.encT, .p (.lst (rows.map Bk.enc)), .p (.lst [])] st = .ok (.p (.bl (hasRoom H rows []))) st :=
  law_fits_rec hH 50 rows [] st hn (by simp; omega) hr (fun _ h => by cases h)
/-! ### what a deed changes -/
structure Ch where
  ans : Ans
  rows : List Bk
  own : Option Bk
def Ch.enc (x : Ch) : P := .lst [x.ans.enc, .lst (x.rows.map Bk.enc), encOB x.own]
def changeF (H : HD) (bs : List Bk) : Dd → Ch
  | .ask h w d l => match startGiven H h w d l bs with
    | none => ⟨.non, bs, none⟩
    | some s => ⟨.int s, bs.filter (fun b => !meets b (bkAt h w d l s)) ++ [bkAt h w d l s], some (bkAt h w d l s)⟩
  | .lapse => ⟨.bl true, firmB bs, none⟩
  | .cancel d p => match taker bs d p with
    | none => ⟨.non, [], none⟩
    | some b => ⟨.bl true, othersOf bs b, none⟩
  | .firm d p => match taker bs d p with
    | none => ⟨.non, [], none⟩
    | some b => ⟨.bl true, othersOf bs b ++ [{ b with held := false }], none⟩
  | .longer d p => match taker bs d p with
    | none => ⟨.non, [], none⟩
    | some b => if letThere H { b with len := b.len + 1 } (othersOf bs b) = true then ⟨.bl true, othersOf bs b ++ [{ b with len := b.len + 1 }], some { b with len := b.len + 1 }⟩ else ⟨.bl false, bs, none⟩
  | .move d p s => match taker bs d p with
    | none => ⟨.non, [], none⟩
    | some b => if letThere H { b with part := s } (othersOf bs b) = true then ⟨.bl true, othersOf bs b ++ [{ b with part := s }], some { b with part := s }⟩ else ⟨.bl false, bs, none⟩
theorem free_one (b own : Bk) : isFree b [own] = !meets b own := by
  unfold isFree meets allCells
  simp
theorem letThere_eq (H : HD) (hH : H.ok) (b : Bk) (os : List Bk) : (if H.ck = .walls then suits b os else isFree b os) = letThere H b os := by
  unfold letThere suits
  rcases hH.ck with q | q <;> simp [q]
theorem law_change_ok {H : HD} (hH : H.ok) {bs : List Bk} (hS : Std H bs) {x : Dd} (hx : x.of H) (hc : canBe H bs x = true) : g__law_change [.p H.encT, .p (.lst (bs.map Bk.enc)), .p x.enc] st = .ok (.p (changeF H bs x).enc) st := by
  apply gDef_of
  have hb := hS.sms hH
  have hlen := hS.len hH
  cases x with
  | ask h w d l =>
    have hk := Ak.of hH hx
    cases e : startGiven H h w d l bs with
    | none => cases h <;> simp [runF_ap, f__law_change, askW, law_given_ok hH hk hb, e, encOI, changeF, Ch.enc, Ans.enc]
    | some s =>
      have hs := startGiven_mem e
      have hsm := (hk.inh (h := h) hs).sm hH
      have k1 : ∀ st : Store, eComp fzL (iSeq (eVar 1)) (.one 9) [9] (tOf (eCall 2 g__law_free (aCons (eVar 9) (aCons (eLst (aCons (eVar 5) aNil)) aNil)))) (nEmit (eVar 9)) [some (S.p H.encT), some (.p (.lst (bs.map Bk.enc))), some (.p (Dd.ask h w d l).enc), some (.p (.str (askW h).s)), some (.p (.int s)), some (.p (bkAt h w d l s).enc), none, none, none, none] st = .ok (.p (.lst ((bs.filter fun b => !meets b (bkAt h w d l s)).map Bk.enc))) st := fun st => by
        rw [comp1 (enc := Bk.enc) (c := fun b => !meets b (bkAt h w d l s)) (f := Bk.enc) (xs := bs) (st1 := st)]
        · simp
        · omega
        · intro b hb'
          have q := law_free_ok (st := st) (hb.s b hb') (os := [bkAt h w d l s]) ⟨by simp, fun y hy => by simp at hy; subst hy; exact hsm⟩
          simp only [List.map_cons, List.map_nil] at q
          exact ⟨_, rfl, by simp [q, free_one], fun _ => by simp⟩
      have hfl : (bs.filter fun b => !meets b (bkAt h w d l s)).length + 1 ≤ 16777216 := by
        have := List.length_filter_le (fun b => !meets b (bkAt h w d l s)) bs
        omega
      cases h <;> simp [askW] at k1 <;> simp [runF_ap, f__law_change, askW, law_given_ok hH hk hb, e, encOI, changeF, Ch.enc, Ans.enc, law_row_ok, k1, hfl]
  | lapse =>
    simp [runF_ap, f__law_change, Dd.word]
    rw [comp1 (enc := Bk.enc) (c := fun b => !b.held) (f := Bk.enc) (xs := bs) (st1 := st)]
    · simp [changeF, Ch.enc, Ans.enc, firmB]
    · simp
    · omega
    · intro b _
      exact ⟨_, rfl, by simp, fun _ => by simp⟩
  | cancel d p =>
    have ht := law_taker_ok (st := st) hb (x := .cancel d p) rfl
    cases e : taker bs d p with
    | none => simp [canBe, e] at hc
    | some b =>
      simp [runF_ap, f__law_change, Dd.word, ht, e]
      rw [comp1 (enc := Bk.enc) (c := fun y => !decide (y = b)) (f := Bk.enc) (xs := bs) (st1 := st)]
      · simp [changeF, e, Ch.enc, Ans.enc, othersOf]
      · simp
      · omega
      · intro y _
        exact ⟨_, rfl, by simp [bk_ne], fun _ => by simp⟩
  | firm d p =>
    have ht := law_taker_ok (st := st) hb (x := .firm d p) rfl
    cases e : taker bs d p with
    | none => simp [canBe, e] at hc
    | some b =>
      simp [runF_ap, f__law_change, Dd.word, ht, e]
      rw [comp1 (enc := Bk.enc) (c := fun y => !decide (y = b)) (f := Bk.enc) (xs := bs) (st1 := st)]
      · have hl : (bs.filter fun y => !decide (y = b)).length + 1 ≤ 16777216 := by
          have := List.length_filter_le (fun y => !decide (y = b)) bs
          omega
        simp [changeF, e, Ch.enc, Ans.enc, othersOf, hl, bk_mk]
      · simp
      · omega
      · intro y _
        exact ⟨_, rfl, by simp [bk_ne], fun _ => by simp⟩
  | longer d p =>
    have ht := law_taker_ok (st := st) hb (x := .longer d p) rfl
    cases e : taker bs d p with
    | none => simp [canBe, e] at hc
    | some b =>
      simp [canBe, e] at hc
      have hbi := hS.inh b (taker_mem e)
      have hsm : Sm ⟨b.day, b.part, b.len + 1, b.wid, b.held⟩ := by
        have := hbi.sm hH
        have := hH.days
        have := hbi.d0
        have := hbi.l1
        exact ⟨(hbi.sm hH).d, by simp only; omega, (hbi.sm hH).p, (hbi.sm hH).w⟩
      have k1 : eComp fzL (iSeq (eVar 1)) (.one 9) [9] (tOf (eBin (gEqD true) (eVar 9) (eVar 5))) (nEmit (eVar 9)) [some (S.p H.encT), some (.p (.lst (bs.map Bk.enc))), some (.p (Dd.longer d p).enc), some (.p (.str Wo.longer.s)), none, some (.p b.enc), none, none, none, none] st = .ok (.p (.lst ((othersOf bs b).map Bk.enc))) st := by
        rw [comp1 (enc := Bk.enc) (c := fun y => !decide (y = b)) (f := Bk.enc) (xs := bs) (st1 := st)]
        · rfl
        · simp
        · omega
        · intro y _
          exact ⟨_, rfl, by simp [bk_ne], fun _ => by simp⟩
      have hl : (othersOf bs b).length + 1 ≤ 16777216 := by
        have := List.length_filter_le (fun y => !decide (y = b)) bs
        simp only [othersOf]; omega
      have f1 : g__law_free [.p (P.tup [P.int b.day, P.int b.part, P.int (b.len + 1), P.int b.wid, P.bl b.held]), .p (.lst ((othersOf bs b).map Bk.enc))] st = .ok (.p (.bl (isFree ⟨b.day, b.part, b.len + 1, b.wid, b.held⟩ (othersOf bs b)))) st := law_free_ok (b := ⟨b.day, b.part, b.len + 1, b.wid, b.held⟩) hsm (hb.filter _)
      have f2 : g__law_suits [.p (P.tup [P.int b.day, P.int b.part, P.int (b.len + 1), P.int b.wid, P.bl b.held]), .p (.lst ((othersOf bs b).map Bk.enc))] st = .ok (.p (.bl (suits ⟨b.day, b.part, b.len + 1, b.wid, b.held⟩ (othersOf bs b)))) st := law_suits_ok (b := ⟨b.day, b.part, b.len + 1, b.wid, b.held⟩) hsm (hb.filter _)
      have hg := letThere_eq H hH ⟨b.day, b.part, b.len + 1, b.wid, b.held⟩ (othersOf bs b)
      cases e2 : letThere H ⟨b.day, b.part, b.len + 1, b.wid, b.held⟩ (othersOf bs b) <;> rw [e2] at hg <;> by_cases q : H.ck = .walls
      all_goals (first | rw [if_pos q] at hg | rw [if_neg q] at hg)
      all_goals simp [runF_ap, f__law_change, Dd.word, ht, e, k1, f1, f2, q, hg, changeF, Ch.enc, Ans.enc, e2, hl, bk_mk]
  | move d p s =>
    have ht := law_taker_ok (st := st) hb (x := .move d p s) rfl
    cases e : taker bs d p with
    | none => simp [canBe, e] at hc
    | some b =>
      simp [canBe, e] at hc
      have hbi := hS.inh b (taker_mem e)
      obtain ⟨_, _, _, hs0, hs1⟩ := hx
      have hsm : Sm ⟨b.day, s, b.len, b.wid, b.held⟩ := by
        have := hH.parts
        exact ⟨(hbi.sm hH).d, (hbi.sm hH).l, by simp only; omega, (hbi.sm hH).w⟩
      have k1 : eComp fzL (iSeq (eVar 1)) (.one 9) [9] (tOf (eBin (gEqD true) (eVar 9) (eVar 5))) (nEmit (eVar 9)) [some (S.p H.encT), some (.p (.lst (bs.map Bk.enc))), some (.p (Dd.move d p s).enc), some (.p (.str Wo.move.s)), none, some (.p b.enc), none, none, none, none] st = .ok (.p (.lst ((othersOf bs b).map Bk.enc))) st := by
        rw [comp1 (enc := Bk.enc) (c := fun y => !decide (y = b)) (f := Bk.enc) (xs := bs) (st1 := st)]
        · rfl
        · simp
        · omega
        · intro y _
          exact ⟨_, rfl, by simp [bk_ne], fun _ => by simp⟩
      have hl : (othersOf bs b).length + 1 ≤ 16777216 := by
        have := List.length_filter_le (fun y => !decide (y = b)) bs
        simp only [othersOf]; omega
      have f1 : g__law_free [.p (P.tup [P.int b.day, P.int s, P.int b.len, P.int b.wid, P.bl b.held]), .p (.lst ((othersOf bs b).map Bk.enc))] st = .ok (.p (.bl (isFree ⟨b.day, s, b.len, b.wid, b.held⟩ (othersOf bs b)))) st := law_free_ok (b := ⟨b.day, s, b.len, b.wid, b.held⟩) hsm (hb.filter _)
      have f2 : g__law_suits [.p (P.tup [P.int b.day, P.int s, P.int b.len, P.int b.wid, P.bl b.held]), .p (.lst ((othersOf bs b).map Bk.enc))] st = .ok (.p (.bl (suits ⟨b.day, s, b.len, b.wid, b.held⟩ (othersOf bs b)))) st := law_suits_ok (b := ⟨b.day, s, b.len, b.wid, b.held⟩) hsm (hb.filter _)
      have hg := letThere_eq H hH ⟨b.day, s, b.len, b.wid, b.held⟩ (othersOf bs b)
      cases e2 : letThere H ⟨b.day, s, b.len, b.wid, b.held⟩ (othersOf bs b) <;> rw [e2] at hg <;> by_cases q : H.ck = .walls
      all_goals (first | rw [if_pos q] at hg | rw [if_neg q] at hg)
      all_goals simp [runF_ap, f__law_change, Dd.word, ht, e, k1, f1, f2, q, hg, changeF, Ch.enc, Ans.enc, e2, hl, bk_mk]
end QS

set_option Elab.async false
set_option linter.all false
set_option maxRecDepth 100000
set_option maxHeartbeats 8000000
/-! V20: the law's own model: what a deed does. -/
namespace QS
open PySem L2 Q
variable {st : Store}
def encSt (bs : List Bk) (a : Ans) (fs : List Fd) : P := .dk [(.inr Wo.rows.s, .lst (bs.map Bk.enc)), (.inr Wo.told.s, a.enc), (.inr Wo.found.s, .lst (fs.map Fd.enc))]
@[simp] theorem st_rows (bs : List Bk) (a : Ans) (fs : List Fd) : gIx (.p (encSt bs a fs)) (.p (.str Wo.rows.s)) st = .ok (.p (.lst (bs.map Bk.enc))) st := by simp [encSt, gIx, dictAtK, dictAt, asKey, atK]
@[simp] theorem st_told (bs : List Bk) (a : Ans) (fs : List Fd) : gIx (.p (encSt bs a fs)) (.p (.str Wo.told.s)) st = .ok (.p a.enc) st := by simp [encSt, gIx, dictAtK, dictAt, asKey, atK]
@[simp] theorem st_found (bs : List Bk) (a : Ans) (fs : List Fd) : gIx (.p (encSt bs a fs)) (.p (.str Wo.found.s)) st = .ok (.p (.lst (fs.map Fd.enc))) st := by simp [encSt, gIx, dictAtK, dictAt, asKey, atK]
theorem gDef_any {N : Nat} {f : XS} {us : List S} {p : P} (h : ∃ new, runF N f us st = .ok (.p p) (st ++ new)) : gDef N f us st = .ok (.p p) st := by
  obtain ⟨new, h⟩ := h
  exact gDef_new h
theorem change_done {H : HD} {bs : List Bk} (hs : bs.Pairwise leB) {x : Dd} (hc : canBe H bs x = true) : (doneWith H bs x).answer = (changeF H bs x).ans ∧ (doneWith H bs x).own = (changeF H bs x).own ∧ (doneWith H bs x).behind = sortE (changeF H bs x).rows := by
  cases x with
  | ask h w d l =>
    cases e : startGiven H h w d l bs <;> simp only [doneWith, changeF, e]
    · exact ⟨trivial, trivial, (sortE_of hs).symm⟩
    · exact ⟨trivial, trivial, rfl⟩
  | lapse => exact ⟨rfl, rfl, (sortE_of (hs.filter _)).symm⟩
  | cancel d p =>
    cases e : taker bs d p with
    | none => simp [canBe, e] at hc
    | some b => simp only [doneWith, changeF, e]; exact ⟨trivial, trivial, (sortE_of (hs.filter _)).symm⟩
  | firm d p =>
    cases e : taker bs d p with
    | none => simp [canBe, e] at hc
    | some b => simp only [doneWith, changeF, e]; exact ⟨trivial, trivial, trivial⟩
  | longer d p =>
    cases e : taker bs d p with
    | none => simp [canBe, e] at hc
    | some b =>
      simp only [doneWith, changeF, e]
      split
      · exact ⟨rfl, rfl, rfl⟩
      · exact ⟨rfl, rfl, (sortE_of hs).symm⟩
  | move d p s =>
    cases e : taker bs d p with
    | none => simp [canBe, e] at hc
    | some b =>
      simp only [doneWith, changeF, e]
      split
      · exact ⟨rfl, rfl, rfl⟩
      · exact ⟨rfl, rfl, (sortE_of hs).symm⟩
theorem shares_symm (a b w x : Int) : shares a b w x = shares b a x w := by unfold shares; exact Bool.and_comm _ _
theorem clash_symm (a b : Bk) : clash a b = clash b a := by
  unfold clash
  rw [shares_symm a.part, Bool.or_comm]
  congr 1
  apply propext
  constructor
  · rintro (h | h)
    · exact .inl h
    · exact .inr ⟨h.1.symm, h.2.symm⟩
  · rintro (h | h)
    · exact .inl h
    · exact .inr ⟨h.1.symm, h.2.symm⟩
theorem clash_self (a : Bk) : clash a a = false := by unfold clash; simp
theorem clash_any {rows behind : List Bk} (o : Bk) (h : behind = sortE rows) : (rows.any fun r => clash r o) = clashes o (othersOf behind o) := by
  subst h
  unfold clashes othersOf
  rw [Bool.eq_iff_iff, List.any_eq_true, List.any_eq_true]
  constructor
  · rintro ⟨r, hr, hc⟩
    refine ⟨r, List.mem_filter.mpr ⟨sortE_mem.mpr hr, ?_⟩, by rw [clash_symm]; exact hc⟩
    have : r ≠ o := fun z => by subst z; rw [clash_self] at hc; cases hc
    simpa using this
  · rintro ⟨r, hr, hc⟩
    exact ⟨r, sortE_mem.mp (List.mem_filter.mp hr).1, by rw [clash_symm]; exact hc⟩
@[simp] theorem bk_isN' (b : Bk) (neg : Bool) : gIsN neg (.p (encOB (some b))) (.p .non) st = .ok (.p (.bl neg)) st := rfl
@[simp] theorem sl_01 (x : P) (n : Int) (h : 1 ≤ n) : slS (.p (.lst [x])) none (some n) st = .ok (.p (.lst [x])) st := by
  have e : cutL [x] none (some n) = [x] := by
    unfold cutL
    simp [HT.sIx]
    rw [if_neg (by omega)]
    have : min n.toNat 1 = 1 := by omega
    simp [this]
  show R.ok (S.p (P.lst (cutL [x] none (some n)))) st = _
  rw [e]
@[simp] theorem sl_00 (x : P) : slS (.p (.lst [x])) none (some 0) st = .ok (.p (.lst [])) st := by
  have e : cutL [x] none (some 0) = [] := by
    unfold cutL
    simp [HT.sIx]
  show R.ok (S.p (P.lst (cutL [x] none (some 0)))) st = _
  rw [e]
theorem merge3 (a b c : S) : mergeS [] [(Sum.inr Wo.rows.s, a), (Sum.inr Wo.told.s, b), (Sum.inr Wo.found.s, c)] = [((Sum.inr Wo.rows.s : Key), a), (Sum.inr Wo.told.s, b), (Sum.inr Wo.found.s, c)] := by
  simp [mergeS, putS]
theorem own_mem {H : HD} {bs : List Bk} {x : Dd} {o : Bk} (h : (changeF H bs x).own = some o) : o ∈ (changeF H bs x).rows := by
  cases x with
  | ask k w d l =>
    cases e : startGiven H k w d l bs <;> simp only [changeF, e] at h ⊢ <;> cases h
    simp
  | lapse => cases h
  | cancel d p => cases e : taker bs d p <;> simp only [changeF, e] at h <;> cases h
  | firm d p => cases e : taker bs d p <;> simp only [changeF, e] at h <;> cases h
  | longer d p =>
    cases e : taker bs d p with
    | none => simp only [changeF, e] at h; cases h
    | some b =>
      simp only [changeF, e] at h ⊢
      split at h
      · rename_i q
        rw [if_pos q]
        cases h
        simp
      · cases h
  | move d p s =>
    cases e : taker bs d p with
    | none => simp only [changeF, e] at h; cases h
    | some b =>
      simp only [changeF, e] at h ⊢
      split at h
      · rename_i q
        rw [if_pos q]
        cases h
        simp
      · cases h
@[simp] theorem frzS_dk2 (st : Store) (c : Cell) (kvs : List (Key × S)) : frzS (.c (st.length + 1)) (st ++ [c, .dk kvs]) = match (pureKs kvs).map P.dk with
  | some x => .ok (.p x) (st ++ [c, .dead])
  | none => .stuck := by
  have e : (st ++ [c, .dk kvs])[st.length + 1]? = some (.dk kvs) := by
    rw [List.getElem?_append_right (by omega)]; simp
  have e2 : (st ++ [c, .dk kvs]).set (st.length + 1) .dead = st ++ [c, .dead] := by
    rw [List.set_append_right _ _ (by omega)]; simp
  simp only [frzS, e, frzC, frzO, frzD, e2]
  all_goals (cases pureKs kvs <;> rfl)
theorem law_do_ok {H : HD} (hH : H.ok) {bs : List Bk} (hS : Std H bs) {x : Dd} (hx : x.of H) (hc : canBe H bs x = true) (a : Ans) (fs : List Fd) :
    g__law_do [.p H.encT, .p (encSt bs a fs), .p x.enc] st = .ok (.p (encSt (doneWith H bs x).behind (doneWith H bs x).answer (findingsOf H bs (doneWith H bs x) x))) st := by
  have hb := hS.sms hH
  have hlen := hS.len hH
  have hch := fun st : Store => law_change_ok (st := st) hH hS hx hc
  obtain ⟨ea, eo, eb⟩ := change_done hS.srt hc
  have hD := hS.done hH hx hc
  have hrl : (changeF H bs x).rows.length ≤ 12 := by
    rw [← sortE_len, ← eb]; exact hD.len hH
  have hrs : ∀ b ∈ (changeF H bs x).rows, Sm b := fun b hb' => (hD.inh b (by rw [eb]; exact sortE_mem.mpr hb')).sm hH
  have hsrt := fun st : Store => sorted_bk (st := st) (changeF H bs x).rows
  rw [ea, eb]
  have hown : ∀ o, (changeF H bs x).own = some o → Sm o := fun o ho => hrs o (own_mem ho)
  have k1 : ∀ (o : Bk) (z7 z8 : S) (st : Store), (changeF H bs x).own = some o → eComp fzL (iSeq (eVar 4)) (.one 8) [8] (tOf (eCall 2 g__law_clash (aCons (eVar 8) (aCons (eVar 5) aNil)))) (nEmit (eVar 8)) [some (S.p H.encT), some (.p (encSt bs a fs)), some (.p x.enc), some (.p (changeF H bs x).ans.enc), some (.p (.lst ((changeF H bs x).rows.map Bk.enc))), some (.p o.enc), some z7, some z8, none] st = .ok (.p (.lst (((changeF H bs x).rows.filter fun r => clash r o).map Bk.enc))) st := fun o z7 z8 st ho => by
    rw [comp1 (enc := Bk.enc) (c := fun r => clash r o) (f := Bk.enc) (xs := (changeF H bs x).rows) (st1 := st)]
    · simp
    · omega
    · intro r hr
      exact ⟨_, rfl, by simp [law_clash_ok (hrs r hr) (hown o ho)], fun _ => by simp⟩
  have fin : ∀ (r : List Bk), gSorted [.p (.lst (r.map Bk.enc))] st = .ok (.p (.lst ((sortE r).map Bk.enc))) st := fun r => sorted_bk r
  have hE : clashF (doneWith H bs x) = fun w => match (changeF H bs x).own with
    | none => []
    | some o => if ((changeF H bs x).rows.any fun r => clash r o) = true then [.clash w] else [] := by
    funext w
    unfold clashF
    rw [eo]
    cases q : (changeF H bs x).own with
    | none => rfl
    | some o => simp only [clash_any o eb]
  have ne1 : ∀ (l : List Bk) (st : Store), gEqD true (.p (.lst (l.map Bk.enc))) (.p (.lst [])) st = .ok (.p (.bl (!decide (l = [])))) st := fun l st => bks_ne_nil l
  have fa : ∀ o, (!decide (((changeF H bs x).rows.filter fun r => clash r o) = [])) = ((changeF H bs x).rows.any fun r => clash r o) := fun o => by rw [filter_nil_any]; simp
  apply gDef_any
  have others : ∀ {x : Dd}, (∀ h w d l, x ≠ .ask h w d l) → findingsOf H bs (doneWith H bs x) x = clashF (doneWith H bs x) x.word := fun {x} hne => by
    cases x with
    | ask h w d l => exact absurd rfl (hne h w d l)
    | _ => rfl
  cases x with
  | lapse =>
    have o1 : (changeF H bs .lapse).own = none := rfl
    rw [others (by intros; simp)]
    simp only [o1] at hE
    refine ⟨[.dead, .dead], ?_⟩
    conv => rhs; unfold encSt
    simp [runF_ap, f__law_do, hch, Ch.enc, o1, Dd.word, sFrz_ap, frzC, frzO, frzD, hsrt, asKeyS, asKey, merge3, pureKs, hE]
  | cancel d p =>
    have o1 : (changeF H bs (.cancel d p)).own = none := by
      simp only [changeF]; split <;> rfl
    rw [others (by intros; simp)]
    simp only [o1] at hE
    refine ⟨[.dead, .dead], ?_⟩
    conv => rhs; unfold encSt
    simp [runF_ap, f__law_do, hch, Ch.enc, o1, Dd.word, sFrz_ap, frzC, frzO, frzD, hsrt, asKeyS, asKey, merge3, pureKs, hE]
  | firm d p =>
    have o1 : (changeF H bs (.firm d p)).own = none := by
      simp only [changeF]; split <;> rfl
    rw [others (by intros; simp)]
    simp only [o1] at hE
    refine ⟨[.dead, .dead], ?_⟩
    conv => rhs; unfold encSt
    simp [runF_ap, f__law_do, hch, Ch.enc, o1, Dd.word, sFrz_ap, frzC, frzO, frzD, hsrt, asKeyS, asKey, merge3, pureKs, hE]
  | longer d p =>
    rw [others (by intros; simp)]
    refine ⟨[.dead, .dead], ?_⟩
    conv => rhs; unfold encSt
    cases o1 : (changeF H bs (.longer d p)).own with
    | none =>
      simp only [o1] at hE
      simp [runF_ap, f__law_do, hch, Ch.enc, o1, Dd.word, sFrz_ap, frzC, frzO, frzD, hsrt, asKeyS, asKey, merge3, pureKs, hE]
    | some o =>
      have k2 := fun z7 z8 st => k1 o z7 z8 st o1
      have ne2 : ∀ st : Store, gEqD true (.p (.lst (((changeF H bs (.longer d p)).rows.filter fun r => clash r o).map Bk.enc))) (.p (.lst [])) st = .ok (.p (.bl ((changeF H bs (.longer d p)).rows.any fun r => clash r o))) st := fun st => by rw [bks_ne_nil, fa]
      simp only [o1] at hE
      cases e1 : (changeF H bs (.longer d p)).rows.any (fun r => clash r o) <;> simp only [e1] at ne2 hE <;>
      simp [runF_ap, f__law_do, hch, Ch.enc, o1, Dd.word, sFrz_ap, frzC, frzO, frzD, hsrt, asKeyS, asKey, merge3, pureKs, hE, k2, ne2, Fd.enc]
  | move d p s =>
    rw [others (by intros; simp)]
    refine ⟨[.dead, .dead], ?_⟩
    conv => rhs; unfold encSt
    cases o1 : (changeF H bs (.move d p s)).own with
    | none =>
      simp only [o1] at hE
      simp [runF_ap, f__law_do, hch, Ch.enc, o1, Dd.word, sFrz_ap, frzC, frzO, frzD, hsrt, asKeyS, asKey, merge3, pureKs, hE]
    | some o =>
      have k2 := fun z7 z8 st => k1 o z7 z8 st o1
      have ne2 : ∀ st : Store, gEqD true (.p (.lst (((changeF H bs (.move d p s)).rows.filter fun r => clash r o).map Bk.enc))) (.p (.lst [])) st = .ok (.p (.bl ((changeF H bs (.move d p s)).rows.any fun r => clash r o))) st := fun st => by rw [bks_ne_nil, fa]
      simp only [o1] at hE
      cases e1 : (changeF H bs (.move d p s)).rows.any (fun r => clash r o) <;> simp only [e1] at ne2 hE <;>
      simp [runF_ap, f__law_do, hch, Ch.enc, o1, Dd.word, sFrz_ap, frzC, frzO, frzD, hsrt, asKeyS, asKey, merge3, pureKs, hE, k2, ne2, Fd.enc]
  | ask h w d l =>
    have hk := Ak.of hH hx
    have hsu := fun st : Store => law_suiting_ok (st := st) hH (h := h) hk hb
    have hfe : findingsOf H bs (doneWith H bs (.ask h w d l)) (.ask h w d l) = if (doneWith H bs (.ask h w d l)).own = none then refusal H h w d l bs else clashF (doneWith H bs (.ask h w d l)) (askW h) ++ dropF H bs (doneWith H bs (.ask h w d l)) (.ask h w d l) := rfl
    rw [hfe]
    conv => arg 1; intro new; rhs; unfold encSt
    cases o1 : (changeF H bs (.ask h w d l)).own with
    | none =>
      rw [eo, o1, if_pos rfl]
      by_cases q : suiting H h w d l bs = []
      · have hr := law_row_ok (st := st ++ [.lst []]) h w d l 0
        have hn := law_nearer_ok (st := st ++ [.lst []]) hH (h := h) hk hb
        have hnl := near_rest h w d l bs
        have hf := law_fits_ok (st := st ++ [.lst []]) hH (rows := bkAt h w d l 0 :: (nearOf h w d l bs ++ restOf h w d l bs)) (by simp at hnl ⊢; omega) (by
          intro b hb'
          rcases List.mem_cons.mp hb' with rfl | hb'
          · exact ⟨(hk.inh (h := h) (s := 0) (mem_rg.mpr (by have := hk.kw; omega))).sm hH, hk.kw.2⟩
          · have : b ∈ bs := by rcases List.mem_append.mp hb' with z | z <;> exact (List.mem_filter.mp z).1
            exact ⟨hb.s b this, by have := hS.inh b this; have := this.pw; have := (hS.inh b (by assumption)).p0; omega⟩)
        simp only [List.map_cons, List.map_append] at hf hn
        have hsz : 1 + ((nearOf h w d l bs).length + (restOf h w d l bs).length) ≤ 16777216 := by simp at hnl; omega
        unfold refusal
        rw [if_neg (by simp [q])]
        refine ⟨[.dead, .dead], ?_⟩
        cases e2 : hasRoom H (bkAt h w d l 0 :: (nearOf h w d l bs ++ restOf h w d l bs)) [] <;> rw [e2] at hf <;> cases h <;> simp [askW] at hch hsu hr hn hf hsz o1 q ⊢ <;>
        simp [runF_ap, f__law_do, hch, Ch.enc, o1, sFrz_ap, frzC, frzO, frzD, hsrt, asKeyS, asKey, merge3, pureKs, hsu, q, hr, hn, hf, hsz, Fd.enc, askW]
      · unfold refusal
        rw [if_pos q]
        refine ⟨[.dead, .dead], ?_⟩
        cases h <;> simp [runF_ap, f__law_do, hch, Ch.enc, o1, sFrz_ap, frzC, frzO, frzD, hsrt, asKeyS, asKey, merge3, pureKs, hsu, q, lst_nil_ne, lst_nil_eq, Fd.enc, askW]
    | some o =>
      rw [eo, o1, if_neg (by simp)]
      have k2 := fun z7 z8 st => k1 o z7 z8 st o1
      have ne2 : ∀ st : Store, gEqD true (.p (.lst (((changeF H bs (.ask h w d l)).rows.filter fun r => clash r o).map Bk.enc))) (.p (.lst [])) st = .ok (.p (.bl ((changeF H bs (.ask h w d l)).rows.any fun r => clash r o))) st := fun st => by rw [bks_ne_nil, fa]
      simp only [o1] at hE
      have hbl : (doneWith H bs (.ask h w d l)).behind.length = (changeF H bs (.ask h w d l)).rows.length := by rw [eb, sortE_len]
      have lk0 : lookP (st ++ [.lst []]) (.c st.length) = some (.lst []) := by simp [lookP]
      have lk1 : ∀ t, lookP (st ++ [.lst [S.p t]]) (.c st.length) = some (.lst [t]) := fun t => by simp [lookP]
      cases h with
      | true =>
        refine ⟨[.dead, .dead], ?_⟩
        cases e1 : (changeF H bs (.ask true w d l)).rows.any (fun r => clash r o) <;> simp only [e1] at ne2 hE <;>
        simp [runF_ap, f__law_do, hch, Ch.enc, o1, askW, sFrz_ap, frzC, frzO, frzD, hsrt, asKeyS, asKey, merge3, pureKs, hE, k2, ne2, hsu, Fd.enc, dropF]
      | false =>
        by_cases le : (changeF H bs (.ask false w d l)).rows.length ≤ bs.length
        · by_cases q : suiting H false w d l bs = []
          · simp only [q, List.map_nil] at hsu
            cases e1 : (changeF H bs (.ask false w d l)).rows.any (fun r => clash r o) <;> simp only [e1] at ne2 hE
            · refine ⟨[.lst [], .dead], ?_⟩
              simp [runF_ap, f__law_do, hch, Ch.enc, o1, askW, sFrz_ap, frzC, frzO, frzD, hsrt, asKeyS, asKey, merge3, pureKs, hE, k2, ne2, hsu, Fd.enc, dropF, q, le, hbl, lk0]
            · refine ⟨[.lst [S.p (.tup [.str Wo.clash.s, .str Wo.ask.s])], .dead], ?_⟩
              simp [runF_ap, f__law_do, hch, Ch.enc, o1, askW, sFrz_ap, frzC, frzO, frzD, hsrt, asKeyS, asKey, merge3, pureKs, hE, k2, ne2, hsu, Fd.enc, dropF, q, le, hbl, lk1]
          · have hln : 1 ≤ (suiting H false w d l bs).length := by
              cases z : suiting H false w d l bs with
              | nil => exact absurd z q
              | cons => simp
            have ksl : ∀ (t : P) (st : Store), slS (.p (.lst [t])) none (some ((suiting H false w d l bs).length : Int)) st = .ok (.p (.lst [t])) st := fun t st => sl_01 t _ (by omega)
            cases e1 : (changeF H bs (.ask false w d l)).rows.any (fun r => clash r o) <;> simp only [e1] at ne2 hE
            · refine ⟨[.lst [], .dead], ?_⟩
              simp [runF_ap, f__law_do, hch, Ch.enc, o1, askW, sFrz_ap, frzC, frzO, frzD, hsrt, asKeyS, asKey, merge3, pureKs, hE, k2, ne2, hsu, Fd.enc, dropF, q, le, hbl, lk0, ksl]
            · refine ⟨[.lst [S.p (.tup [.str Wo.clash.s, .str Wo.ask.s])], .dead], ?_⟩
              simp [runF_ap, f__law_do, hch, Ch.enc, o1, askW, sFrz_ap, frzC, frzO, frzD, hsrt, asKeyS, asKey, merge3, pureKs, hE, k2, ne2, hsu, Fd.enc, dropF, q, le, hbl, lk1, ksl]
        · refine ⟨[.dead, .dead], ?_⟩
          cases e1 : (changeF H bs (.ask false w d l)).rows.any (fun r => clash r o) <;> simp only [e1] at ne2 hE <;>
          simp [runF_ap, f__law_do, hch, Ch.enc, o1, askW, sFrz_ap, frzC, frzO, frzD, hsrt, asKeyS, asKey, merge3, pureKs, hE, k2, ne2, hsu, Fd.enc, dropF, le, hbl]
end QS

set_option Elab.async false
set_option linter.all false
set_option maxRecDepth 100000
set_option maxHeartbeats 4000000
/-! V21: all deeds, and those that can be, by the law's own model. -/
namespace QS
open PySem L2 Q
variable {st : Store}
theorem HD.ok.wl {H : HD} (h : H.ok) : H.widths.length ≤ 4 := by
  have h1 : H.widths.Nodup := h.wa.imp fun z => by omega
  have h2 : H.widths.length ≤ ([1, 2, 3, 4] : List Int).length := by
    refine List.Nodup.length_le_of_subset h1 ?_
    intro w hw
    have := h.widths w hw
    have := h.parts
    have : w = 1 ∨ w = 2 ∨ w = 3 ∨ w = 4 := by omega
    rcases this with rfl | rfl | rfl | rfl <;> simp
  exact h2
def enc3 (x : Int × Int × Int) : P := .tup [.int x.1, .int x.2.1, .int x.2.2]
/-- the lengths on a day -/
def lens (H : HD) (d : Int) : List Int := ((rg H.longest).map (1 + ·)).filter fun n => decide (d + n ≤ H.days)
def askedW (H : HD) (w d : Int) : List (Int × Int × Int) := (lens H d).map fun n => (w, d, n)
def asked (H : HD) : List (Int × Int × Int) := H.widths.flatMap fun w => (rg H.days).flatMap fun d => askedW H w d
def allC (H : HD) : List (Int × Int) := (rg H.days).flatMap fun d => (rg H.parts).map fun p => (d, p)
def movesL (H : HD) : List Dd := (allC H).flatMap fun c => (rg H.parts).map fun s => .move c.1 c.2 s
def every (H : HD) : List Dd := (((asked H).map fun x => Dd.ask false x.1 x.2.1 x.2.2) ++ ((asked H).map fun x => Dd.ask true x.1 x.2.1 x.2.2) ++ ((allC H).map fun c => Dd.cancel c.1 c.2) ++ ((allC H).map fun c => Dd.firm c.1 c.2) ++ [Dd.lapse] ++
  ((allC H).map fun c => Dd.longer c.1 c.2) ++ movesL H).filter fun x => decide (x.word = .ask) || decide (x.word ∈ H.words)
theorem mem_asked {H : HD} {w d l : Int} : (w, d, l) ∈ asked H ↔ w ∈ H.widths ∧ (1 ≤ l ∧ l ≤ H.longest) ∧ 0 ≤ d ∧ d ≤ H.days - l := by
  unfold asked askedW lens
  simp only [List.mem_flatMap, List.mem_map, List.mem_filter, mem_rg, decide_eq_true_iff, Prod.mk.injEq]
  constructor
  · rintro ⟨w', hw, d', hd, n, ⟨⟨k, hk, rfl⟩, hn⟩, rfl, rfl, rfl⟩
    exact ⟨hw, by omega, by omega⟩
  · rintro ⟨hw, hl, hd⟩
    exact ⟨w, hw, d, by omega, l, ⟨⟨l - 1, by omega, by omega⟩, by omega⟩, rfl, rfl, rfl⟩
theorem mem_allC {H : HD} {d p : Int} : (d, p) ∈ allC H ↔ (0 ≤ d ∧ d < H.days) ∧ 0 ≤ p ∧ p < H.parts := by
  unfold allC
  simp only [List.mem_flatMap, List.mem_map, mem_rg, Prod.mk.injEq]
  constructor
  · rintro ⟨d', hd, p', hp, rfl, rfl⟩; exact ⟨hd, hp⟩
  · rintro ⟨hd, hp⟩; exact ⟨d, hd, p, hp, rfl, rfl⟩
theorem mem_every {H : HD} {x : Dd} : x ∈ every H ↔ x.of H := by
  unfold every
  rw [List.mem_filter]
  simp only [List.mem_append, List.mem_map, List.mem_singleton, movesL, List.mem_flatMap, mem_rg, Bool.or_eq_true, decide_eq_true_iff]
  constructor
  · rintro ⟨h, hw⟩
    rcases h with (((((⟨⟨w, d, l⟩, h, rfl⟩ | ⟨⟨w, d, l⟩, h, rfl⟩) | ⟨⟨d, p⟩, h, rfl⟩) | ⟨⟨d, p⟩, h, rfl⟩) | rfl) | ⟨⟨d, p⟩, h, rfl⟩) | ⟨⟨d, p⟩, h, s, hs, rfl⟩
    · exact ⟨(by intro z; cases z), mem_asked.mp h⟩
    · exact ⟨fun _ => by simpa [Dd.word, askW] using hw, mem_asked.mp h⟩
    · exact ⟨(by simpa [Dd.word] using hw), mem_allC.mp h⟩
    · exact ⟨(by simpa [Dd.word] using hw), mem_allC.mp h⟩
    · show Wo.lapse ∈ H.words
      simpa [Dd.word] using hw
    · exact ⟨(by simpa [Dd.word] using hw), mem_allC.mp h⟩
    · exact ⟨(by simpa [Dd.word] using hw), (mem_allC.mp h).1, (mem_allC.mp h).2, hs⟩
  · intro h
    cases x with
    | ask k w d l =>
      cases k with
      | false => exact ⟨.inl (.inl (.inl (.inl (.inl (.inl ⟨(w, d, l), mem_asked.mpr h.2, rfl⟩))))), .inl rfl⟩
      | true => exact ⟨.inl (.inl (.inl (.inl (.inl (.inr ⟨(w, d, l), mem_asked.mpr h.2, rfl⟩))))), .inr (h.1 rfl)⟩
    | cancel d p => exact ⟨.inl (.inl (.inl (.inl (.inr ⟨(d, p), mem_allC.mpr h.2, rfl⟩)))), .inr h.1⟩
    | firm d p => exact ⟨.inl (.inl (.inl (.inr ⟨(d, p), mem_allC.mpr h.2, rfl⟩))), .inr h.1⟩
    | lapse => exact ⟨.inl (.inl (.inr rfl)), .inr h⟩
    | longer d p => exact ⟨.inl (.inr ⟨(d, p), mem_allC.mpr h.2, rfl⟩), .inr h.1⟩
    | move d p s => exact ⟨.inr ⟨(d, p), mem_allC.mpr ⟨h.2.1, h.2.2.1⟩, s, h.2.2.2, rfl⟩, .inr h.1⟩
theorem lens_len {H : HD} (hH : H.ok) (d : Int) : (lens H d).length ≤ 3 := by
  unfold lens
  refine Nat.le_trans (List.length_filter_le _ _) ?_
  rw [List.length_map, rg_len]
  have := hH.longest; have := hH.days
  omega
theorem asked_len {H : HD} (hH : H.ok) : (asked H).length ≤ 36 := by
  have h1 : ∀ w, ((rg H.days).flatMap fun d => askedW H w d).length ≤ 9 := fun w => by
    have := flatMap_len (f := fun d => askedW H w d) (n := 3) (xs := rg H.days) fun d _ => by unfold askedW; rw [List.length_map]; exact lens_len hH d
    rw [rg_len] at this
    have := hH.days
    omega
  have := flatMap_len (f := fun w => (rg H.days).flatMap fun d => askedW H w d) (n := 9) (xs := H.widths) fun w _ => h1 w
  have := hH.wl
  unfold asked
  omega
theorem allC_len {H : HD} (hH : H.ok) : (allC H).length ≤ 12 := by
  have := flatMap_len (f := fun d => (rg H.parts).map fun p => (d, p)) (n := 4) (xs := rg H.days) fun d _ => by rw [List.length_map, rg_len]; have := hH.parts; omega
  rw [rg_len] at this
  have := hH.days
  unfold allC
  omega
theorem moves_len {H : HD} (hH : H.ok) : (movesL H).length ≤ 48 := by
  have := flatMap_len (f := fun c : Int × Int => (rg H.parts).map fun s => Dd.move c.1 c.2 s) (n := 4) (xs := allC H) fun d _ => by rw [List.length_map, rg_len]; have := hH.parts; omega
  have := allC_len hH
  unfold movesL
  omega
theorem iRange_1 (n : Int) (hn : inWord (n + 1) = true) {env : Q.Env} {e : XE} (he : e env st = .ok (.p (.int (n + 1))) st) : iRange2 (eC (.int 1)) e env st = .ok ((rg n).map fun i => S.p (.int (1 + i))) st := by
  have i1 : inWord 1 = true := by decide
  simp [he, i1, hn]
  rw [rangeS_add]
/-- the law's names there -/
def evE (H : HD) (a b c d e f g : Option S) : Q.Env := [some (.p H.encT), a, b, c, d, e, f, g, none, none, none, none, none]
theorem every_inn {H : HD} (hH : H.ok) (w : Int) (acc : List (Int × Int × Int)) (ha : acc.length ≤ 100) (z3 : Option S) : ∃ z3', forLoop (.one 3) (sSet 1 (eBin gAdd (eVar 1) (eComp fzL (iRange2 (eC (.int 1)) (eBin gAdd (eBin gIx (eVar 0) (eC (.int 3))) (eC (.int 1)))) (.one 8) (([("_law_n", 8)] : List (PySem.Str × Nat)).map (·.2)) (tOf (eBin gLe (eBin gAdd (eVar 3) (eVar 8)) (eBin gIx (eVar 0) (eC (.int 1))))) (nEmit (eTup (aCons (eVar 2) (aCons (eVar 3) (aCons (eVar 8) aNil)))))))) ((rg H.days).map fun i => S.p (.int i)) (evE H (some (.p (.lst (acc.map enc3)))) (some (.p (.int w))) z3 none none none none) st =
    .ok (.nx (evE H (some (.p (.lst ((acc ++ (rg H.days).flatMap fun d => askedW H w d).map enc3)))) (some (.p (.int w))) z3' none none none none)) st := by
  have hd := hH.days
  have hl := hH.longest
  have i3 : inWord (H.longest + 1) = true := by simp [inWord]; omega
  obtain ⟨e, st', h1, z, h2, h3⟩ := forLoop_inv (t := .one 3) (body := (sSet 1 (eBin gAdd (eVar 1) (eComp fzL (iRange2 (eC (.int 1)) (eBin gAdd (eBin gIx (eVar 0) (eC (.int 3))) (eC (.int 1)))) (.one 8) (([("_law_n", 8)] : List (PySem.Str × Nat)).map (·.2)) (tOf (eBin gLe (eBin gAdd (eVar 3) (eVar 8)) (eBin gIx (eVar 0) (eC (.int 1))))) (nEmit (eTup (aCons (eVar 2) (aCons (eVar 3) (aCons (eVar 8) aNil)))))))))
    (fun k env st' => ∃ z, env = evE H (some (.p (.lst ((acc ++ ((rg H.days).take k).flatMap fun d => askedW H w d).map enc3)))) (some (.p (.int w))) z none none none none ∧ st' = st)
    (items := (rg H.days).map fun i => S.p (.int i)) (env := evE H (some (.p (.lst (acc.map enc3)))) (some (.p (.int w))) z3 none none none none) (st := st) 0 ⟨z3, by simp, rfl⟩ (by
      rintro k s env st' hs ⟨z, rfl, rfl⟩
      rw [Nat.zero_add]
      rw [List.getElem?_map] at hs
      cases hk : (rg H.days)[k]? with
      | none => rw [hk] at hs; cases hs
      | some d =>
        rw [hk] at hs
        simp only [Option.map_some, Option.some.injEq] at hs
        subst hs
        refine ⟨evE H (some (.p (.lst ((acc ++ ((rg H.days).take k).flatMap fun d => askedW H w d).map enc3)))) (some (.p (.int w))) (some (.p (.int d))) none none none none, evE H (some (.p (.lst ((acc ++ ((rg H.days).take (k + 1)).flatMap fun d => askedW H w d).map enc3)))) (some (.p (.int w))) (some (.p (.int d))) none none none none, st', by simp [evE], .inl ?_, ⟨_, rfl, rfl⟩⟩
        rw [take_flat _ hk]
        have hsz : (acc ++ ((rg H.days).take k).flatMap fun d => askedW H w d).length + (askedW H w d).length ≤ 16777216 := by
          have h1 := flatMap_len (f := fun d => askedW H w d) (n := 3) (xs := (rg H.days).take k) fun d _ => by unfold askedW; rw [List.length_map]; exact lens_len hH d
          have h2 : ((rg H.days).take k).length ≤ 3 := by rw [List.length_take, rg_len]; omega
          have h3 : (askedW H w d).length ≤ 3 := by unfold askedW; rw [List.length_map]; exact lens_len hH d
          rw [List.length_append]; omega
        generalize hA : (acc ++ ((rg H.days).take k).flatMap fun d => askedW H w d) = A at hsz ⊢
        rw [← List.append_assoc, hA]
        simp [evE]
        rw [comp1 (enc := fun i => P.int (1 + i)) (c := fun i => decide (d + (1 + i) ≤ H.days)) (f := fun i => enc3 (w, d, 1 + i)) (xs := rg H.longest) (st1 := st')]
        · have e1 : ((rg H.longest).filter fun i => decide (d + (1 + i) ≤ H.days)).map (fun i => enc3 (w, d, 1 + i)) = (askedW H w d).map enc3 := by
            unfold askedW lens
            rw [List.filter_map, List.map_map, List.map_map]
            rfl
          rw [e1]
          simp [hsz]
        · exact iRange_1 H.longest i3 (by simp)
        · rw [rg_len]; omega
        · intro i _
          exact ⟨_, rfl, by simp, fun _ => by simp [enc3]⟩)
  rw [List.length_map, Nat.zero_add, List.take_of_length_le (Nat.le_refl _)] at h2
  subst h2 h3
  exact ⟨z, h1⟩
theorem every_out {H : HD} (hH : H.ok) : ∃ z2 z3, forLoop (.one 2) (sFor (iRange1 (eBin gIx (eVar 0) (eC (.int 1)))) (.one 3) (sSet 1 (eBin gAdd (eVar 1) (eComp fzL (iRange2 (eC (.int 1)) (eBin gAdd (eBin gIx (eVar 0) (eC (.int 3))) (eC (.int 1)))) (.one 8) (([("_law_n", 8)] : List (PySem.Str × Nat)).map (·.2)) (tOf (eBin gLe (eBin gAdd (eVar 3) (eVar 8)) (eBin gIx (eVar 0) (eC (.int 1))))) (nEmit (eTup (aCons (eVar 2) (aCons (eVar 3) (aCons (eVar 8) aNil))))))))) (H.widths.map fun i => S.p (.int i)) (evE H (some (.p (.lst []))) none none none none none none) st =
    .ok (.nx (evE H (some (.p (.lst ((asked H).map enc3)))) z2 z3 none none none none)) st := by
  have hd := hH.days
  have i1 : inWord H.days = true := by simp [inWord]; omega
  obtain ⟨e, st', h1, z2, z3, h2, h3⟩ := forLoop_inv (t := .one 2) (body := (sFor (iRange1 (eBin gIx (eVar 0) (eC (.int 1)))) (.one 3) (sSet 1 (eBin gAdd (eVar 1) (eComp fzL (iRange2 (eC (.int 1)) (eBin gAdd (eBin gIx (eVar 0) (eC (.int 3))) (eC (.int 1)))) (.one 8) (([("_law_n", 8)] : List (PySem.Str × Nat)).map (·.2)) (tOf (eBin gLe (eBin gAdd (eVar 3) (eVar 8)) (eBin gIx (eVar 0) (eC (.int 1))))) (nEmit (eTup (aCons (eVar 2) (aCons (eVar 3) (aCons (eVar 8) aNil))))))))))
    (fun k env st' => ∃ z2 z3, env = evE H (some (.p (.lst (((H.widths.take k).flatMap fun w => (rg H.days).flatMap fun d => askedW H w d).map enc3)))) z2 z3 none none none none ∧ st' = st)
    (items := H.widths.map fun i => S.p (.int i)) (env := evE H (some (.p (.lst []))) none none none none none none) (st := st) 0 ⟨none, none, by simp, rfl⟩ (by
      rintro k s env st' hs ⟨z2, z3, rfl, rfl⟩
      rw [Nat.zero_add]
      rw [List.getElem?_map] at hs
      cases hk : H.widths[k]? with
      | none => rw [hk] at hs; cases hs
      | some w =>
        rw [hk] at hs
        simp only [Option.map_some, Option.some.injEq] at hs
        subst hs
        have hA : ((H.widths.take k).flatMap fun w => (rg H.days).flatMap fun d => askedW H w d).length ≤ 100 := by
          have h1 : ∀ w, ((rg H.days).flatMap fun d => askedW H w d).length ≤ 9 := fun w => by
            have := flatMap_len (f := fun d => askedW H w d) (n := 3) (xs := rg H.days) fun d _ => by unfold askedW; rw [List.length_map]; exact lens_len hH d
            rw [rg_len] at this
            omega
          have h2 := flatMap_len (f := fun w => (rg H.days).flatMap fun d => askedW H w d) (n := 9) (xs := H.widths.take k) fun w _ => h1 w
          have h3 := hH.wl
          have h4 : (H.widths.take k).length ≤ 4 := by rw [List.length_take]; omega
          omega
        obtain ⟨z3', h4⟩ := every_inn (st := st') hH w _ hA z3
        refine ⟨evE H (some (.p (.lst (((H.widths.take k).flatMap fun w => (rg H.days).flatMap fun d => askedW H w d).map enc3)))) (some (.p (.int w))) z3 none none none none, evE H (some (.p (.lst (((H.widths.take (k + 1)).flatMap fun w => (rg H.days).flatMap fun d => askedW H w d).map enc3)))) (some (.p (.int w))) z3' none none none none, st', by simp [evE], .inl ?_, ⟨_, _, rfl, rfl⟩⟩
        rw [take_flat _ hk, ← h4]
        simp [evE, i1, rangeS_rg])
  rw [List.length_map, Nat.zero_add, List.take_of_length_le (Nat.le_refl _)] at h2
  subst h2 h3
  exact ⟨z2, z3, h1⟩
theorem every_cells {H : HD} (hH : H.ok) (x1 x2 z3 : Option S) : ∃ z3', forLoop (.one 3) (sSet 4 (eBin gAdd (eVar 4) (eComp fzL (iRange1 (eBin gIx (eVar 0) (eC (.int 0)))) (.one 9) (([("_law_part", 9)] : List (PySem.Str × Nat)).map (·.2)) tYesQ (nEmit (eTup (aCons (eVar 3) (aCons (eVar 9) aNil))))))) ((rg H.days).map fun i => S.p (.int i)) (evE H x1 x2 z3 (some (.p (.lst []))) none none none) st =
    .ok (.nx (evE H x1 x2 z3' (some (.p (.lst ((allC H).map Enc.enc)))) none none none)) st := by
  have hd := hH.days
  have hp := hH.parts
  have i2 : inWord H.parts = true := by simp [inWord]; omega
  obtain ⟨e, st', h1, z3, h2, h3⟩ := forLoop_inv (t := .one 3) (body := (sSet 4 (eBin gAdd (eVar 4) (eComp fzL (iRange1 (eBin gIx (eVar 0) (eC (.int 0)))) (.one 9) (([("_law_part", 9)] : List (PySem.Str × Nat)).map (·.2)) tYesQ (nEmit (eTup (aCons (eVar 3) (aCons (eVar 9) aNil))))))))
    (fun k env st' => ∃ z3, env = evE H x1 x2 z3 (some (.p (.lst ((((rg H.days).take k).flatMap fun d => (rg H.parts).map fun p => (d, p)).map Enc.enc)))) none none none ∧ st' = st)
    (items := (rg H.days).map fun i => S.p (.int i)) (env := evE H x1 x2 z3 (some (.p (.lst []))) none none none) (st := st) 0 ⟨z3, by simp, rfl⟩ (by
      rintro k s env st' hs ⟨z3, rfl, rfl⟩
      rw [Nat.zero_add]
      rw [List.getElem?_map] at hs
      cases hk : (rg H.days)[k]? with
      | none => rw [hk] at hs; cases hs
      | some d =>
        rw [hk] at hs
        simp only [Option.map_some, Option.some.injEq] at hs
        subst hs
        refine ⟨evE H x1 x2 (some (.p (.int d))) (some (.p (.lst ((((rg H.days).take k).flatMap fun d => (rg H.parts).map fun p => (d, p)).map Enc.enc)))) none none none, evE H x1 x2 (some (.p (.int d))) (some (.p (.lst ((((rg H.days).take (k + 1)).flatMap fun d => (rg H.parts).map fun p => (d, p)).map Enc.enc)))) none none none, st', by simp [evE], .inl ?_, ⟨_, rfl, rfl⟩⟩
        have hsz : (((rg H.days).take k).flatMap fun d => (rg H.parts).map fun p => (d, p)).length + (rg H.parts).length ≤ 16777216 := by
          have h1 := flatMap_len (f := fun d => (rg H.parts).map fun p => (d, p)) (n := 4) (xs := (rg H.days).take k) fun d _ => by rw [List.length_map, rg_len]; omega
          have h2 : ((rg H.days).take k).length ≤ 3 := by rw [List.length_take, rg_len]; omega
          rw [rg_len]; omega
        rw [take_flat _ hk]
        generalize (((rg H.days).take k).flatMap fun d => (rg H.parts).map fun p => (d, p)) = A at hsz ⊢
        simp [evE]
        rw [comp0 (enc := P.int) (f := fun p => Enc.enc (d, p)) (xs := rg H.parts) (st1 := st')]
        · simp [hsz, Function.comp_def]
        · simp [i2, rangeS_rg]
        · rw [rg_len]; omega
        · intro p _
          exact ⟨_, rfl, by simp [Enc.enc]⟩)
  rw [List.length_map, Nat.zero_add, List.take_of_length_le (Nat.le_refl _)] at h2
  subst h2 h3
  exact ⟨z3, h1⟩
theorem every_moves {H : HD} (hH : H.ok) (x1 x2 x3 x4 z6 : Option S) : ∃ z6', forLoop (.one 6) (sSet 5 (eBin gAdd (eVar 5) (eComp fzL (iRange1 (eBin gIx (eVar 0) (eC (.int 0)))) (.one 10) (([("_law_start_here", 10)] : List (PySem.Str × Nat)).map (·.2)) tYesQ (nEmit (eBin gAdd (eBin gAdd (eTup (aCons (eC (.str "move")) aNil)) (eVar 6)) (eTup (aCons (eVar 10) aNil))))))) ((allC H).map fun c => S.p (Enc.enc c)) (evE H x1 x2 x3 x4 (some (.p (.lst []))) z6 none) st =
    .ok (.nx (evE H x1 x2 x3 x4 (some (.p (.lst ((movesL H).map Dd.enc)))) z6' none)) st := by
  have hd := hH.days
  have hp := hH.parts
  have i2 : inWord H.parts = true := by simp [inWord]; omega
  obtain ⟨e, st', h1, z6, h2, h3⟩ := forLoop_inv (t := .one 6) (body := (sSet 5 (eBin gAdd (eVar 5) (eComp fzL (iRange1 (eBin gIx (eVar 0) (eC (.int 0)))) (.one 10) (([("_law_start_here", 10)] : List (PySem.Str × Nat)).map (·.2)) tYesQ (nEmit (eBin gAdd (eBin gAdd (eTup (aCons (eC (.str "move")) aNil)) (eVar 6)) (eTup (aCons (eVar 10) aNil))))))))
    (fun k env st' => ∃ z6, env = evE H x1 x2 x3 x4 (some (.p (.lst ((((allC H).take k).flatMap fun c => (rg H.parts).map fun s => Dd.move c.1 c.2 s).map Dd.enc)))) z6 none ∧ st' = st)
    (items := (allC H).map fun c => S.p (Enc.enc c)) (env := evE H x1 x2 x3 x4 (some (.p (.lst []))) z6 none) (st := st) 0 ⟨z6, by simp, rfl⟩ (by
      rintro k s env st' hs ⟨z6, rfl, rfl⟩
      rw [Nat.zero_add]
      rw [List.getElem?_map] at hs
      cases hk : (allC H)[k]? with
      | none => rw [hk] at hs; cases hs
      | some c =>
        rw [hk] at hs
        simp only [Option.map_some, Option.some.injEq] at hs
        subst hs
        refine ⟨evE H x1 x2 x3 x4 (some (.p (.lst ((((allC H).take k).flatMap fun c => (rg H.parts).map fun s => Dd.move c.1 c.2 s).map Dd.enc)))) (some (.p (Enc.enc c))) none, evE H x1 x2 x3 x4 (some (.p (.lst ((((allC H).take (k + 1)).flatMap fun c => (rg H.parts).map fun s => Dd.move c.1 c.2 s).map Dd.enc)))) (some (.p (Enc.enc c))) none, st', by simp [evE], .inl ?_, ⟨_, rfl, rfl⟩⟩
        have hsz : (((allC H).take k).flatMap fun c => (rg H.parts).map fun s => Dd.move c.1 c.2 s).length + (rg H.parts).length ≤ 16777216 := by
          have h1 := flatMap_len (f := fun c : Int × Int => (rg H.parts).map fun s => Dd.move c.1 c.2 s) (n := 4) (xs := (allC H).take k) fun d _ => by rw [List.length_map, rg_len]; omega
          have h2 : ((allC H).take k).length ≤ 12 := by rw [List.length_take]; have := allC_len hH; omega
          rw [rg_len]; omega
        rw [take_flat _ hk]
        generalize (((allC H).take k).flatMap fun c => (rg H.parts).map fun s => Dd.move c.1 c.2 s) = A at hsz ⊢
        simp [evE]
        rw [comp0 (enc := P.int) (f := fun s => (Dd.move c.1 c.2 s).enc) (xs := rg H.parts) (st1 := st')]
        · simp [hsz, Function.comp_def]
        · simp [i2, rangeS_rg]
        · rw [rg_len]; omega
        · intro s _
          have ec : (Enc.enc c : P) = .tup [.int c.1, .int c.2] := rfl
          exact ⟨_, rfl, by simp [ec, Dd.enc]⟩)
  rw [List.length_map, Nat.zero_add, List.take_of_length_le (Nat.le_refl _)] at h2
  subst h2 h3
  exact ⟨z6, h1⟩
theorem every_filter {H : HD} (x1 x2 x3 x4 x5 x6 : Option S) (l : List Dd) (hl : l.length ≤ 1000) : (eComp fzL (iSeq (eVar 7)) (.one 12) (([("_law_deed", 12)] : List (PySem.Str × Nat)).map (·.2)) (tOf (eOr (eBin (gEqD false) (eBin gIx (eVar 12) (eC (.int 0))) (eC (.str "ask"))) (eBin (gIn false) (eBin gIx (eVar 12) (eC (.int 0))) (eBin gIx (eVar 0) (eC (.int 5)))))) (nEmit (eVar 12))) [some (.p H.encT), x1, x2, x3, x4, x5, x6, some (.p (.lst (l.map Dd.enc))), none, none, none, none, none] st =
    .ok (.p (.lst ((l.filter fun x => decide (x.word = .ask) || decide (x.word ∈ H.words)).map Dd.enc))) st := by
  rw [comp1 (enc := Dd.enc) (c := fun x => decide (x.word = .ask) || decide (x.word ∈ H.words)) (f := Dd.enc) (xs := l) (st1 := st)]
  · simp
  · omega
  · intro x _
    refine ⟨_, rfl, ?_, fun _ => by simp⟩
    simp [in_words]
    split <;> simp_all
theorem law_every_ok {H : HD} (hH : H.ok) : g__law_every [.p H.encT] st = .ok (.p (.lst ((every H).map Dd.enc))) st := by
  apply gDef_of
  have hp := hH.parts
  have hd := hH.days
  have hl := hH.longest
  have i1 : inWord H.days = true := by simp [inWord]; omega
  have i2 : inWord H.parts = true := by simp [inWord]; omega
  have la := asked_len hH
  have lc := allC_len hH
  have lm := moves_len hH
  obtain ⟨z2, z3, h1⟩ := every_out (st := st) hH
  obtain ⟨z3', h2⟩ := every_cells (st := st) hH (some (.p (.lst ((asked H).map enc3)))) z2 z3
  obtain ⟨z6, h3⟩ := every_moves (st := st) hH (some (.p (.lst ((asked H).map enc3)))) z2 z3' (some (.p (.lst ((allC H).map Enc.enc)))) none
  have c1 : ∀ (k : Bool) (x7 : Option S), eComp fzL (iSeq (eVar 1)) (.one 11) [11] tYesQ (nEmit (eBin gAdd (eTup (aCons (eC (.str (askW k).s)) aNil)) (eVar 11))) [some (.p H.encT), some (.p (.lst ((asked H).map enc3))), z2, z3', some (.p (.lst ((allC H).map Enc.enc))), some (.p (.lst ((movesL H).map Dd.enc))), z6, x7, none, none, none, none, none] st = .ok (.p (.lst (((asked H).map fun x => Dd.ask k x.1 x.2.1 x.2.2).map Dd.enc))) st := fun k x7 => by
    rw [comp0 (enc := enc3) (f := fun x => (Dd.ask k x.1 x.2.1 x.2.2).enc) (xs := asked H) (st1 := st)]
    · simp [Function.comp_def]
    · simp
    · omega
    · intro x _
      exact ⟨_, rfl, by simp [enc3, Dd.enc]⟩
  have c2 : ∀ (w : Wo) (f : Int × Int → Dd) (hf : ∀ c, (f c).enc = .tup [.str w.s, .int c.1, .int c.2]) (x7 : Option S), eComp fzL (iSeq (eVar 4)) (.one 6) [6] tYesQ (nEmit (eBin gAdd (eTup (aCons (eC (.str w.s)) aNil)) (eVar 6))) [some (.p H.encT), some (.p (.lst ((asked H).map enc3))), z2, z3', some (.p (.lst ((allC H).map Enc.enc))), some (.p (.lst ((movesL H).map Dd.enc))), z6, x7, none, none, none, none, none] st = .ok (.p (.lst (((allC H).map f).map Dd.enc))) st := fun w f hf x7 => by
    rw [comp0 (enc := Enc.enc) (f := fun c => (f c).enc) (xs := allC H) (st1 := st)]
    · simp [Function.comp_def]
    · simp
    · omega
    · intro c _
      have ec : (Enc.enc c : P) = .tup [.int c.1, .int c.2] := rfl
      exact ⟨_, rfl, by simp [ec, hf]⟩
  have a1 := c1 false none
  have a2 := c1 true none
  have k1 := fun x7 => c2 .cancel (fun c => .cancel c.1 c.2) (fun _ => rfl) x7
  have k2 := fun x7 => c2 .firm (fun c => .firm c.1 c.2) (fun _ => rfl) x7
  have k3 := fun x7 => c2 .longer (fun c => .longer c.1 c.2) (fun _ => rfl) x7
  simp [askW] at a1 a2
  simp only [evE, List.map_cons, List.map_nil, lit_move, lit_ask, lit_hold] at h1 h2 h3
  simp [runF_ap, f__law_every]
  simp only [Function.comp_def]
  rw [h1]
  simp [i1, rangeS_rg]
  rw [h2]
  simp
  simp only [Function.comp_def]
  rw [h3]
  simp [a1, a2, k1, k2, k3, Function.comp_def]
  rw [if_pos (by omega), if_pos (by omega), if_pos (by omega), if_pos (by omega), if_pos (by omega), if_pos (by omega)]
  obtain ⟨L, hLd⟩ : ∃ L, L = ((asked H).map fun x => Dd.ask false x.1 x.2.1 x.2.2) ++ ((asked H).map fun x => Dd.ask true x.1 x.2.1 x.2.2) ++ ((allC H).map fun c => Dd.cancel c.1 c.2) ++ ((allC H).map fun c => Dd.firm c.1 c.2) ++ [Dd.lapse] ++ ((allC H).map fun c => Dd.longer c.1 c.2) ++ movesL H := ⟨_, rfl⟩
  have hL : (((asked H).map fun x => (Dd.ask false x.1 x.2.1 x.2.2).enc) ++ (((asked H).map fun x => (Dd.ask true x.1 x.2.1 x.2.2).enc) ++ (((allC H).map fun x => (Dd.cancel x.1 x.2).enc) ++ (((allC H).map fun x => (Dd.firm x.1 x.2).enc) ++ P.tup [P.str Wo.lapse.s] :: (((allC H).map fun x => (Dd.longer x.1 x.2).enc) ++ (movesL H).map Dd.enc))))) = L.map Dd.enc := by
    rw [hLd]
    simp [Function.comp_def]
    rfl
  have hLn : L.length ≤ 1000 := by
    rw [hLd]
    simp only [List.length_append, List.length_map, List.length_singleton]
    omega
  have hf := every_filter (st := st) (H := H) (some (S.p (P.lst (List.map enc3 (asked H))))) z2 z3' (some (S.p (P.lst (List.map Enc.enc (allC H))))) (some (S.p (P.lst (List.map Dd.enc (movesL H))))) z6 L hLn
  simp only [List.map_cons, List.map_nil, lit_ask] at hf
  rw [hL, hf]
  have he : every H = L.filter fun x => decide (x.word = .ask) || decide (x.word ∈ H.words) := by rw [hLd]; rfl
  rw [he]
  rfl
theorem law_able_ok {H : HD} (hH : H.ok) {bs : List Bk} (hb : Sms bs) (a : Ans) (fs : List Fd) : g__law_able [.p H.encT, .p (encSt bs a fs)] st = .ok (.p (.lst (((every H).filter fun x => canBe H bs x).map Dd.enc))) st := by
  apply gDef_of
  simp [runF_ap, f__law_able]
  rw [comp1 (enc := Dd.enc) (c := fun x => canBe H bs x) (f := Dd.enc) (xs := every H) (st1 := st)]
  · simp
  · simp [law_every_ok hH]
  · have la := asked_len hH
    have lc := allC_len hH
    have lm := moves_len hH
    refine Nat.le_trans (List.length_filter_le _ _) ?_
    simp only [List.length_append, List.length_map, List.length_singleton]
    omega
  · intro x _
    refine ⟨_, rfl, ?_, fun _ => by simp⟩
    simp [law_may_ok hb]
/-- there is always a deed that can be -/
theorem able_ne {H : HD} (hH : H.ok) (bs : List Bk) : (every H).filter (fun x => canBe H bs x) ≠ [] := by
  cases e : H.widths with
  | nil => exact absurd e hH.wn
  | cons w r =>
    have hw : w ∈ H.widths := by rw [e]; exact .head _
    have hl := hH.longest
    have hd := hH.days
    have : Dd.ask false w 0 1 ∈ every H := mem_every.mpr ⟨(by intro z; cases z), hw, by omega, by omega, by omega⟩
    intro h
    have h2 := List.filter_eq_nil_iff.mp h _ this
    exact h2 rfl
end QS

set_option Elab.async false
set_option linter.all false
set_option maxRecDepth 100000
set_option maxHeartbeats 4000000
/-! V22: the draws. -/
namespace QS
open PySem L2 Q
/-- the source of draws, at the cells 0 and 1 -/
def rng (ns : List Int) (a i : Int) : Store := [.lst (ns.map fun n => S.p (.int n)), .lst [.p (.int a), .c 0, .p (.int i), .p (.int 14)]]
@[simp] theorem ci_0 (x y : Cell) (r : Store) : (x :: y :: r)[0]? = some x := rfl
@[simp] theorem ci_1 (x y : Cell) (r : Store) : (x :: y :: r)[1]? = some y := rfl
theorem itemsOf_c {st : Store} {n : Nat} {xs : List S} (h : st[n]? = some (.lst xs)) : itemsOf st (.c n) = some xs := by
  unfold itemsOf; simp only [h]
theorem isDict_c {st : Store} {n : Nat} {xs : List S} (h : st[n]? = some (.lst xs)) : isDict st (.c n) = false := by
  unfold isDict; simp only [h]
theorem pure_ints (ns : List Int) : pureSs (ns.map fun n => S.p (.int n)) = some (ns.map P.int) := pureSs_mapf P.int ns
theorem lookP_c {st : Store} {n : Nat} {ns : List Int} (h : st[n]? = some (.lst (ns.map fun n => S.p (.int n)))) : lookP st (.c n) = some (.lst (ns.map P.int)) := by
  unfold lookP; simp only [h, pure_ints, Option.map_some]
theorem gIx_c {st : Store} {n : Nat} {xs : List S} (h : st[n]? = some (.lst xs)) (i : Int) : gIx (.c n) (.p (.int i)) st = match atI xs i with
  | some z => .ok z st
  | none => .stuck := by
  unfold gIx
  rw [isDict_c h, itemsOf_c h]
  rfl
theorem gLen_c {st : Store} {n : Nat} {xs : List S} (h : st[n]? = some (.lst xs)) : gLen [.c n] st = .ok (.p (.int xs.length)) st := by
  unfold gLen lenS
  simp only [itemsOf_c h, Option.map_some]
/-- a draw -/
theorem next_ok (ns : List Int) (a i : Int) (rest : Store) (b : Int) (hb : 0 < b) (hb2 : b < 1000000) (hn : ns.length ≤ 63) :
    ∃ r ns' a' i', g__law_next [.c 1, .p (.int b)] (rng ns a i ++ rest) = .ok (.p (.int r)) (rng ns' a' i' ++ rest) ∧ 0 ≤ r ∧ r < b ∧ ns'.length ≤ 63 := by
  have c0 : ∀ (ns : List Int) (a i : Int), (rng ns a i ++ rest)[0]? = some (.lst (ns.map fun n => S.p (.int n))) := fun _ _ _ => rfl
  have c1 : ∀ (ns : List Int) (a i : Int), (rng ns a i ++ rest)[1]? = some (.lst [.p (.int a), .c 0, .p (.int i), .p (.int 14)]) := fun _ _ _ => rfl
  have g0 : ∀ (ns : List Int) (a i : Int), gIx (.c 1) (.p (.int 0)) (rng ns a i ++ rest) = .ok (.p (.int a)) (rng ns a i ++ rest) := fun ns a i => by rw [gIx_c (c1 ns a i)]; simp
  have g1 : ∀ (ns : List Int) (a i : Int), gIx (.c 1) (.p (.int 1)) (rng ns a i ++ rest) = .ok (.c 0) (rng ns a i ++ rest) := fun ns a i => by rw [gIx_c (c1 ns a i)]; simp
  have g2 : ∀ (ns : List Int) (a i : Int), gIx (.c 1) (.p (.int 2)) (rng ns a i ++ rest) = .ok (.p (.int i)) (rng ns a i ++ rest) := fun ns a i => by rw [gIx_c (c1 ns a i)]; simp
  have l0 : ∀ (ns : List Int) (a i : Int), gLen [.c 0] (rng ns a i ++ rest) = .ok (.p (.int ns.length)) (rng ns a i ++ rest) := fun ns a i => by rw [gLen_c (c0 ns a i)]; simp
  have p0 : ∀ (ns : List Int) (a i : Int), lookP (rng ns a i ++ rest) (.c 0) = some (.lst (ns.map P.int)) := fun ns a i => lookP_c (c0 ns a i)
  have s1 : ∀ (v : Int) (ns : List Int) (a i : Int), setAt (rng ns a i ++ rest) (.c 1) (.p (.int 0)) (.p (.int v)) = some (rng ns v i ++ rest) := fun v ns a i => rfl
  have s2 : ∀ (v : Int) (ns : List Int) (a i : Int), setAt (rng ns a i ++ rest) (.c 1) (.p (.int 2)) (.p (.int v)) = some (rng ns a v ++ rest) := fun v ns a i => rfl
  obtain ⟨M, hMd⟩ : ∃ M : Int, M = (if (ns.length : Int) > 1 then (ns.length : Int) else 1) := ⟨_, rfl⟩
  have hM : ∀ st : Store, gMax2 [.p (.int 1), .p (.int ns.length)] st = .ok (.p (.int M)) st := fun st => by rw [hMd]; rfl
  have hm : 0 < M := by rw [hMd]; split <;> omega
  have hm2 : M ≤ ns.length + 1 := by rw [hMd]; split <;> omega
  have hm3 : 0 < ns.length → M = ns.length := fun h => by rw [hMd]; split <;> omega
  obtain ⟨m, hj⟩ : ∃ m : Nat, i % M = (m : Int) := ⟨(i % M).toNat, by have := Int.emod_nonneg i (b := M) (by omega); omega⟩
  have hj1 := Int.emod_lt_of_pos i hm
  rw [hj] at hj1
  have hml : m < (ns ++ [0]).length := by simp; omega
  have ex : ∃ x : Int, atI ((ns.map P.int ++ [P.int 0]).map S.p) (m : Int) = some (S.p (.int x)) ∧ (x ≠ 0 → m < ns.length) := by
    refine ⟨(ns ++ [0])[m], ?_, ?_⟩
    · have e1 : (ns.map P.int ++ [P.int 0]).map S.p = (ns ++ [0]).map fun n => S.p (P.int n) := by simp [Function.comp_def]
      rw [e1, atI_nat' (by rw [List.length_map]; omega), List.getElem?_map, List.getElem?_eq_getElem hml]
      rfl
    · intro hx
      by_cases q : m < ns.length
      · exact q
      · exfalso
        apply hx
        rw [List.getElem_append_right (by omega)]
        simp
  obtain ⟨x, hx, hxl⟩ := ex
  have hsz : ns.length + 1 ≤ 16777216 := by omega
  have hx' : gIx (.p (.lst (ns.map P.int ++ [P.int 0]))) (.p (.int (m : Int))) (rng ns a i ++ rest) = .ok (.p (.int x)) (rng ns a i ++ rest) := by rw [gIx_lst, hx]
  by_cases big : (1000000000000000000 : Int) ≤ x
  · -- a large cell
    have hnl : m < ns.length := hxl (by omega)
    have hnp : (0 : Int) < ns.length := by omega
    have hj2 : i % (ns.length : Int) = m := by rw [← hj, hm3 (by omega)]
    have s0 : setAt (rng ns a i ++ rest) (.c 0) (.p (.int (m : Int))) (.p (.int (x / b))) = some (rng (ns.set m (x / b)) a i ++ rest) := by
      have e1 : ixN (ns.map fun n => S.p (P.int n)).length (m : Int) = some m := by
        unfold ixN
        rw [if_pos (by omega), if_pos (by rw [List.length_map]; omega)]
        simp
      unfold setAt
      simp only [c0, e1]
      simp [rng, List.map_set]
    refine ⟨x % b, ns.set m (x / b), a, i, ?_, Int.emod_nonneg _ (by omega), Int.emod_lt_of_pos _ hb, by simpa using hn⟩
    apply gDef_len
    · simp [runF_ap, f__law_next, g0, g1, g2, l0, p0, hsz, Q.gPow, -gMax2_int, hM, hm, hj, hx', big, hnp, hj2, s0, hb]
      rw [if_pos (by omega), if_pos (by omega)]
    · simp [rng]
  · refine ⟨((a * 48271 + x * 69621 + 11) % 2147483647 / 7) % b, ns, (a * 48271 + x * 69621 + 11) % 2147483647, i + 1, ?_, Int.emod_nonneg _ (by omega), Int.emod_lt_of_pos _ hb, hn⟩
    apply gDef_len
    · simp [runF_ap, f__law_next, g0, g1, g2, l0, p0, hsz, Q.gPow, -gMax2_int, hM, hm, hj, hx', big, hb, s1, s2, Q.gMul]
    · simp [rng]
end QS

set_option Elab.async false
set_option linter.all false
set_option maxRecDepth 100000
set_option maxHeartbeats 4000000
/-! V23: halls that are drawn. -/
namespace QS
open PySem L2 Q
theorem mix_ok (ns : List Int) (hn : ns.length ≤ 63) (k : Int) : ∃ a, g__law_mix [.p (.scr ns), .p (.int k)] [] = .ok (.c 1) (rng ns a 0) := by
  obtain ⟨e, st', h1, a, z, h2, h3⟩ := forLoop_inv (t := .one 3) (body := (sSet 2 (eBin gMod (eCallB gIntOf (aCons (eBin gAdd (eBin gAdd (eBin gMul (eVar 2) (eC (.int 48271))) (eBin gMod (eCallB gIntOf (aCons (eVar 3) aNil)) (eC (.int 2147483629)))) (eC (.int 1))) aNil)) (eC (.int 2147483647)))))
    (fun k' env st' => ∃ a z, env = [some (S.p (.scr ns)), some (.p (.int k)), some (.p (.int a)), z] ∧ st' = [])
    (items := ns.map fun n => S.p (.int n)) (env := [some (S.p (.scr ns)), some (.p (.int k)), some (.p (.int k)), none]) (st := []) 0 ⟨k, none, rfl, rfl⟩ (by
      rintro k' s env st' hs ⟨a, z, rfl, rfl⟩
      rw [List.getElem?_map] at hs
      cases hk : ns[k']? with
      | none => rw [hk] at hs; cases hs
      | some n =>
        rw [hk] at hs
        simp only [Option.map_some, Option.some.injEq] at hs
        subst hs
        refine ⟨[some (S.p (.scr ns)), some (.p (.int k)), some (.p (.int a)), some (.p (.int n))], [some (S.p (.scr ns)), some (.p (.int k)), some (.p (.int ((a * 48271 + n % 2147483629 + 1) % 2147483647))), some (.p (.int n))], [], by simp, .inl ?_, ⟨_, _, rfl, rfl⟩⟩
        simp [Q.gMul])
  subst h2 h3
  refine ⟨a, ?_⟩
  apply gDef_cell
  simp [runF_ap, f__law_mix]
  rw [h1]
  simp [gListC, itemsOf, rng]
@[simp] theorem rng_len (ns : List Int) (a i : Int) : (rng ns a i).length = 2 := rfl
theorem gDef_rng {N : Nat} {f : XS} {us : List S} {p : P} {ns ns' : List Int} {a i a' i' : Int} {rest more : Store} (hn : ns.length ≤ 63) (hn' : ns'.length ≤ 63) (h : runF N f us (rng ns a i ++ rest) = .ok (.p p) (rng ns' a' i' ++ (rest ++ more))) :
    ∃ more2 ns2 a2 i2, gDef N f us (rng ns a i ++ rest) = .ok (.p p) (rng ns2 a2 i2 ++ (rest ++ more2)) ∧ ns2.length ≤ 63 := by
  unfold gDef
  rw [h]
  unfold clean
  by_cases e : eqSt ((rng ns' a' i' ++ (rest ++ more)).take (rng ns a i ++ rest).length) (rng ns a i ++ rest) = true
  · simp only [e, if_true]
    exact ⟨[], ns, a, i, by rw [List.append_nil], hn⟩
  · simp only [e]
    exact ⟨more, ns', a', i', rfl, hn'⟩
/-- a cell that stands last behind the draws -/
theorem last_at (ns : List Int) (a i : Int) (rest : Store) (c : Cell) : (rng ns a i ++ (rest ++ [c]))[2 + rest.length]? = some c := by
  rw [List.getElem?_append_right (by simp)]; simp
theorem last_get (ns : List Int) (a i : Int) (rest : Store) (c : Cell) (h : 2 + rest.length < (rng ns a i ++ (rest ++ [c])).length) : (rng ns a i ++ (rest ++ [c]))[2 + rest.length]'h = c := (List.getElem?_eq_some_iff.mp (last_at ns a i rest c)).2
theorem last_set (ns : List Int) (a i : Int) (rest : Store) (c d : Cell) : (rng ns a i ++ (rest ++ [c])).set (2 + rest.length) d = rng ns a i ++ (rest ++ [d]) := by
  rw [List.set_append_right _ _ (by simp)]; simp
theorem rule_ok (rest : Store) (ns : List Int) (a i : Int) (hn : ns.length ≤ 63) : ∃ ck gv hd pl more ns' a' i', g__law_rule [.c 1] (rng ns a i ++ rest) = .ok (.p (HD.rule ⟨0, 0, [], 0, ck, gv, hd, pl, []⟩)) (rng ns' a' i' ++ (rest ++ more)) ∧ ns'.length ≤ 63 ∧
    (ck = .cells ∨ ck = .walls) ∧ (gv = .first ∨ gv = .last ∨ gv = .tight) ∧ (hd = .blocks ∨ hd = .last ∨ hd = .yields) ∧ (pl = .any ∨ pl = .steps) := by
  obtain ⟨r1, ns1, a1, i1, e1, p1, q1, n1⟩ := next_ok ns a i rest 2 (by decide) (by decide) hn
  obtain ⟨r2, ns2, a2, i2, e2, p2, q2, n2⟩ := next_ok ns1 a1 i1 rest 3 (by decide) (by decide) n1
  have w1 : ∃ ck : Wo, (ck = .cells ∨ ck = .walls) ∧ ∀ st, gIx (.p (.lst [.str Wo.cells.s, .str Wo.walls.s])) (.p (.int r1)) st = .ok (.p (.str ck.s)) st := by
    have : r1 = 0 ∨ r1 = 1 := by omega
    rcases this with rfl | rfl
    · exact ⟨.cells, .inl rfl, fun st => by simp⟩
    · exact ⟨.walls, .inr rfl, fun st => by simp⟩
  have w2 : ∃ gv : Wo, (gv = .first ∨ gv = .last ∨ gv = .tight) ∧ ∀ st, gIx (.p (.lst [.str Wo.first.s, .str Wo.last.s, .str Wo.tight.s])) (.p (.int r2)) st = .ok (.p (.str gv.s)) st := by
    have : r2 = 0 ∨ r2 = 1 ∨ r2 = 2 := by omega
    rcases this with rfl | rfl | rfl
    · exact ⟨.first, .inl rfl, fun st => by simp⟩
    · exact ⟨.last, .inr (.inl rfl), fun st => by simp⟩
    · exact ⟨.tight, .inr (.inr rfl), fun st => by simp⟩
  obtain ⟨ck, hck, w1⟩ := w1
  obtain ⟨gv, hgv, w2⟩ := w2
  obtain ⟨D, hD⟩ : ∃ D : Store, D = rest ++ [.dk [(.inr Wo.checking.s, .p (.str ck.s)), (.inr Wo.giving.s, .p (.str gv.s))]] := ⟨_, rfl⟩
  obtain ⟨r3, ns3, a3, i3, e3, p3, q3, n3⟩ := next_ok ns2 a2 i2 D 3 (by decide) (by decide) n2
  have w3 : ∃ hd : Wo, (hd = .blocks ∨ hd = .last ∨ hd = .yields) ∧ ∀ st, gIx (.p (.lst [.str Wo.blocks.s, .str Wo.last.s, .str Wo.yields.s])) (.p (.int r3)) st = .ok (.p (.str hd.s)) st := by
    have : r3 = 0 ∨ r3 = 1 ∨ r3 = 2 := by omega
    rcases this with rfl | rfl | rfl
    · exact ⟨.blocks, .inl rfl, fun st => by simp⟩
    · exact ⟨.last, .inr (.inl rfl), fun st => by simp⟩
    · exact ⟨.yields, .inr (.inr rfl), fun st => by simp⟩
  obtain ⟨hd, hhd, w3⟩ := w3
  obtain ⟨D2, hD2⟩ : ∃ D : Store, D = rest ++ [.dk [(.inr Wo.checking.s, .p (.str ck.s)), (.inr Wo.giving.s, .p (.str gv.s)), (.inr Wo.holding.s, .p (.str hd.s))]] := ⟨_, rfl⟩
  obtain ⟨r4, ns4, a4, i4, e4, p4, q4, n4⟩ := next_ok ns3 a3 i3 D2 3 (by decide) (by decide) n3
  have w4 : ∃ pl : Wo, (pl = .any ∨ pl = .steps) ∧ ∀ st, gIx (.p (.lst [.str Wo.any.s, .str Wo.any.s, .str Wo.steps.s])) (.p (.int r4)) st = .ok (.p (.str pl.s)) st := by
    have : r4 = 0 ∨ r4 = 1 ∨ r4 = 2 := by omega
    rcases this with rfl | rfl | rfl
    · exact ⟨.any, .inl rfl, fun st => by simp⟩
    · exact ⟨.any, .inl rfl, fun st => by simp⟩
    · exact ⟨.steps, .inr rfl, fun st => by simp⟩
  obtain ⟨pl, hpl, w4⟩ := w4
  have key : runF 2 f__law_rule [.c 1] (rng ns a i ++ rest) = .ok (.p (HD.rule ⟨0, 0, [], 0, ck, gv, hd, pl, []⟩)) (rng ns4 a4 i4 ++ (rest ++ [.dead])) := by
    have mg : mergeS [] [(Sum.inr Wo.checking.s, S.p (.str ck.s)), (Sum.inr Wo.giving.s, S.p (.str gv.s))] = [((Sum.inr Wo.checking.s : Key), S.p (.str ck.s)), (Sum.inr Wo.giving.s, S.p (.str gv.s))] := by simp [mergeS, putS]
    have st3 : setAt (rng ns3 a3 i3 ++ D) (.c (2 + rest.length)) (.p (.str Wo.holding.s)) (.p (.str hd.s)) = some (rng ns3 a3 i3 ++ D2) := by
      subst hD hD2
      unfold setAt
      simp only [last_at, asKey]
      simp [putS, last_set]
    have st4 : setAt (rng ns4 a4 i4 ++ D2) (.c (2 + rest.length)) (.p (.str Wo.places.s)) (.p (.str pl.s)) = some (rng ns4 a4 i4 ++ (rest ++ [.dk [(.inr Wo.checking.s, .p (.str ck.s)), (.inr Wo.giving.s, .p (.str gv.s)), (.inr Wo.holding.s, .p (.str hd.s)), (.inr Wo.places.s, .p (.str pl.s))]])) := by
      subst hD2
      unfold setAt
      simp only [last_at, asKey]
      simp [putS, last_set]
    simp [runF_ap, f__law_rule, e1, e2, w1, w2, asKeyS, asKey, mg]
    rw [← hD]
    simp [e3, w3, st3, e4, w4, st4]
    simp [sFrz_ap, last_at, last_get, frzC, frzO, frzD, pureKs, last_set, HD.rule]
  obtain ⟨more2, ns2, a2, i2, h1, h2⟩ := gDef_rng hn n4 key
  exact ⟨ck, gv, hd, pl, more2, ns2, a2, i2, h1, h2, hck, hgv, hhd, hpl⟩
end QS

set_option Elab.async false
set_option linter.all false
set_option maxRecDepth 100000
set_option maxHeartbeats 4000000
/-! V24: halls that are made. -/
namespace QS
open PySem L2 Q
variable {st : Store}
theorem memK_iff (ks : List Key) (k : Key) : memK ks k = true ↔ k ∈ ks := by
  unfold memK
  rw [List.any_eq_true]
  constructor
  · rintro ⟨x, hx, e⟩; exact of_decide_eq_true e ▸ hx
  · intro h; exact ⟨k, h, decide_eq_true rfl⟩
theorem dedupK_nodup : ∀ {ks : List Key}, ks.Nodup → dedupK ks = ks
  | [], _ => rfl
  | k :: r, h => by
    have h1 := List.nodup_cons.mp h
    unfold dedupK
    rw [if_neg (by rw [memK_iff]; exact h1.1), dedupK_nodup h1.2]
theorem sortK_asc {ks : List Key} (h1 : ks.Nodup) (h2 : ks.Pairwise fun a b => PySem.W.dataLe false keyD a b = true) : sortK ks = ks := by
  unfold sortK
  rw [dedupK_nodup h1]
  exact List.mergeSort_of_pairwise h2
theorem keysP_ints : ∀ l : List Int, keysP (l.map P.int) = some (l.map Sum.inl)
  | [] => rfl
  | x :: r => by simp [keysP, asKey, keysP_ints r]
theorem keysP_wos : ∀ l : List Wo, keysP (l.map fun w => P.str w.s) = some (l.map fun w => Sum.inr w.s)
  | [] => rfl
  | x :: r => by simp [keysP, asKey, keysP_wos r]
theorem le_inl (a b : Int) : PySem.W.dataLe false keyD (Sum.inl a : Key) (Sum.inl b) = !decide (b < a) := by
  show (!PyProof.Rows.lexLt PyProof.Rows.itemOrd [Sum.inl b] [Sum.inl a]) = _
  rw [lexInt, lexNil]
  simp
theorem sort_widths {l : List Int} (h : l.Pairwise (· < ·)) : sortK (l.map Sum.inl) = l.map Sum.inl := by
  refine sortK_asc ?_ ?_
  · unfold List.Nodup
    rw [List.pairwise_map]
    exact h.imp fun h e => by cases e; omega
  · rw [List.pairwise_map]
    exact h.imp fun h => by rw [le_inl]; simp; omega
def six : List Wo := [.cancel, .firm, .hold, .lapse, .longer, .move]
theorem six_asc : (six.map fun w => (Sum.inr w.s : Key)).Pairwise fun a b => PySem.W.dataLe false keyD a b = true := by
  decide +kernel
theorem sort_words {l : List Wo} (h : l.Sublist six) : sortK (l.map fun w => Sum.inr w.s) = l.map fun w => Sum.inr w.s := by
  refine sortK_asc ?_ ?_
  · unfold List.Nodup
    rw [List.pairwise_map]
    have : six.Pairwise fun a b => a ≠ b := by decide
    exact (this.sublist h).imp fun h e => h (by simpa using e)
  · have := six_asc
    rw [List.pairwise_map] at this ⊢
    exact this.sublist h
theorem gEq_ints_t (l : List Int) : gEqD false (.p (.lst (l.map P.int))) (.p (.lst (l.map P.int))) st = .ok (.p (.bl true)) st := by
  rw [ints_eq]; simp
theorem gEq_wos_t (l : List Wo) : gEqD false (.p (.lst (l.map fun w => P.str w.s))) (.p (.lst (l.map fun w => P.str w.s))) st = .ok (.p (.bl true)) st := by
  have := gEq_lst st l l (by decide)
  simpa [Enc.enc] using this
theorem are_widths_ok {H : HD} (hH : H.ok) : g_are_widths [.p (.tup (H.widths.map P.int)), .p (.int H.parts)] st = .ok (.p (.bl true)) st := by
  apply gDef_of
  have hl := hH.wl
  have hne : 0 < H.widths.length := by
    cases e : H.widths with
    | nil => exact absurd e hH.wn
    | cons => simp
  have hk : sameK (H.widths.map Sum.inl) = true := by
    cases H.widths with
    | nil => rfl
    | cons x r => simp [sameK]
  have e1 : ((H.widths.map (Sum.inl : Int → Key)).map keyP) = H.widths.map P.int := by simp [Function.comp_def, keyP]
  simp [runF_ap, f_are_widths]
  rw [comp0 (enc := P.int) (f := fun w => .bl (decide (1 ≤ w ∧ w ≤ H.parts))) (xs := H.widths) (st1 := st)]
  · have ha : (H.widths.all fun w => decide (1 ≤ w ∧ w ≤ H.parts)) = true := by
      rw [List.all_eq_true]
      intro w hw
      exact decide_eq_true (hH.widths w hw)
    simp only [R.bind_ok, all_bl, ha]
    have hl2 : H.widths.length ≤ 1000 := by omega
    simp [hne, keysP_ints, hl2, hk, sort_widths hH.wa]
    have e2 : List.map (keyP ∘ Sum.inl) H.widths = H.widths.map P.int := by simp [Function.comp_def, keyP]
    rw [e2, gEq_ints_t]
    rfl
  · simp
  · omega
  · intro w _
    exact ⟨_, rfl, by simp [is_between_int]⟩
theorem in_kwos (w : Wo) (l : List Wo) : gIn false (.p (.str w.s)) (.p (.ktup (l.map fun w => .str w.s))) st = .ok (.p (.bl (decide (w ∈ l)))) st := by
  have h1 := dataOf_enc st w (by decide)
  have h2 : dataOf st (.p (.ktup (l.map fun w : Wo => P.str w.s))) = some (.tuple (l.map Enc.dat)) := by
    have := dataOf_enc st (Tup.mk l) (by decide)
    unfold dataOf at this ⊢
    simp only [lookD] at this ⊢
    exact this
  unfold gIn
  rw [isDict_ktup]
  simp only [h2, show dataOf st (.p (.str w.s)) = some (Enc.dat w) from h1, any_eqv]
  simp
theorem wos_in (w : Wo) : gIn false (.p (.str w.s)) (.p c_WORDS) st = .ok (.p (.bl (decide (w ∈ six)))) st := in_kwos w six
theorem are_words_ok {H : HD} (hH : H.ok) : g_are_words [.p (.tup (H.words.map fun w => .str w.s))] st = .ok (.p (.bl true)) st := by
  apply gDef_of
  have hl : H.words.length ≤ 6 := hH.ws.length_le
  have hk : sameK (H.words.map fun w => Sum.inr w.s) = true := by
    cases H.words with
    | nil => rfl
    | cons x r => simp [sameK]
  simp [runF_ap, f_are_words]
  rw [comp0 (enc := fun w : Wo => P.str w.s) (f := fun w => .bl (decide (w ∈ six))) (xs := H.words) (st1 := st)]
  · have ha : (H.words.all fun w => decide (w ∈ six)) = true := by
      rw [List.all_eq_true]
      intro w hw
      exact decide_eq_true (hH.ws.subset hw)
    simp only [R.bind_ok, all_bl, ha]
    have hl2 : H.words.length ≤ 1000 := by omega
    simp [keysP_wos, hl2, hk, sort_words hH.ws]
    have e2 : List.map (keyP ∘ fun w : Wo => Sum.inr w.s) H.words = H.words.map fun w => P.str w.s := by simp [Function.comp_def, keyP]
    rw [e2, gEq_wos_t]
    rfl
  · simp [Function.comp_def]
  · omega
  · intro w _
    exact ⟨_, rfl, by simp [wos_in]⟩
/-! ### the rule -/
def pts4 : List Wo := [.checking, .giving, .holding, .places]
def wordsOf : Wo → List Wo
  | .checking => [.cells, .walls]
  | .giving => [.first, .last, .tight]
  | .holding => [.blocks, .last, .yields]
  | .places => [.any, .steps]
  | _ => []
theorem pts_ix {p : Wo} (hp : p ∈ pts4) : gIx (.p c_POINTS) (.p (.str p.s)) st = .ok (.p (.ktup ((wordsOf p).map fun w => .str w.s))) st := by
  simp only [pts4, List.mem_cons, List.mem_nil_iff, or_false] at hp
  rcases hp with rfl | rfl | rfl | rfl <;> simp [c_POINTS, gIx, dictAtK, asKey, atK, wordsOf]
theorem is_word_of_ok {p : Wo} (hp : p ∈ pts4) (w : Wo) : g_is_word_of [.p (.str p.s), .p (.str w.s)] st = .ok (.p (.bl (decide (w ∈ wordsOf p)))) st := by
  apply gDef_of
  simp [runF_ap, f_is_word_of, pts_ix hp, in_kwos]
def HD.wd (H : HD) : Wo → Wo
  | .checking => H.ck
  | .giving => H.gv
  | .holding => H.hd
  | _ => H.pl
theorem rule_ix {H : HD} {p : Wo} (hp : p ∈ pts4) : gIx (.p H.rule) (.p (.str p.s)) st = .ok (.p (.str (H.wd p).s)) st := by
  simp only [pts4, List.mem_cons, List.mem_nil_iff, or_false] at hp
  rcases hp with rfl | rfl | rfl | rfl <;> simp [HD.wd]
theorem rule_in {H : HD} {p : Wo} (hp : p ∈ pts4) : gIn false (.p (.str p.s)) (.p H.rule) st = .ok (.p (.bl true)) st := by
  simp only [pts4, List.mem_cons, List.mem_nil_iff, or_false] at hp
  rcases hp with rfl | rfl | rfl | rfl <;> simp [HD.rule, gIn, dictAtK, dictAt, asKey, atK]
theorem wd_ok {H : HD} (hH : H.ok) {p : Wo} (hp : p ∈ pts4) : H.wd p ∈ wordsOf p := by
  simp only [pts4, List.mem_cons, List.mem_nil_iff, or_false] at hp
  rcases hp with rfl | rfl | rfl | rfl
  · rcases hH.ck with e | e <;> simp [HD.wd, wordsOf, e]
  · rcases hH.gv with e | e | e <;> simp [HD.wd, wordsOf, e]
  · rcases hH.hd with e | e | e <;> simp [HD.wd, wordsOf, e]
  · rcases hH.pl with e | e <;> simp [HD.wd, wordsOf, e]
theorem dkeys_pts : dkeys (.p c_POINTS) = some (pts4.map fun p => S.p (.str p.s)) := by rfl
theorem look_ok {H : HD} (hH : H.ok) : g_look_at_rule [.p H.rule] st = .ok (.p .non) st := by
  apply gDef_of
  have l1 : gLen [.p H.rule] st = .ok (.p (.int 4)) st := by simp [gLen, HD.rule, lenS, itemsOf]
  have l2 : gLen [.p c_POINTS] st = .ok (.p (.int 4)) st := by simp [gLen, c_POINTS, lenS, itemsOf]
  have t1 : tyS st (.p H.rule) = some "dict" := rfl
  simp [runF_ap, f_look_at_rule, l1, l2, t1]
  rw [comp0 (enc := fun p : Wo => P.str p.s) (f := fun _ => .bl true) (xs := pts4) (st1 := st)]
  · have ha := all_bl (fun _ : Wo => true) pts4 st
    simp only [R.bind_ok, ha]
    simp [dkeys_pts]
    obtain ⟨e, st', h1, z, h2, h3⟩ := forLoop_inv (t := .one 1) (body := (sIf (eNot (eCall 2 g_is_word_of (aCons (eVar 1) (aCons (eBin gIx (eVar 0) (eVar 1)) aNil)))) sStuck sNext))
      (fun k env st' => ∃ z, env = [some (S.p H.rule), z] ∧ st' = st) (items := pts4.map fun p => S.p (.str p.s)) (env := [some (S.p H.rule), none]) (st := st) 0 ⟨none, rfl, rfl⟩ (by
        rintro k s env st' hs ⟨z, rfl, rfl⟩
        rw [List.getElem?_map] at hs
        cases hk : pts4[k]? with
        | none => rw [hk] at hs; cases hs
        | some p =>
          rw [hk] at hs
          simp only [Option.map_some, Option.some.injEq] at hs
          subst hs
          have hp := List.mem_of_getElem? hk
          refine ⟨[some (S.p H.rule), some (.p (.str p.s))], [some (S.p H.rule), some (.p (.str p.s))], st', by simp, .inl ?_, ⟨_, rfl, rfl⟩⟩
          simp [rule_ix hp, is_word_of_ok hp, wd_ok hH hp])
    subst h3
    rw [h1]
    rfl
  · simp [dkeys_pts]
  · decide
  · intro p hp
    exact ⟨_, rfl, by simp [rule_in hp]⟩
end QS

set_option Elab.async false
set_option linter.all false
set_option maxRecDepth 100000
set_option maxHeartbeats 4000000
/-! V25: a hall is made; halls are drawn. -/
namespace QS
open PySem L2 Q
variable {st : Store}
theorem compDK1 {α : Type} {st1 : Store} {env : Q.Env} {a : XI} {t : Tg} {V : List Nat} {fk fv : XE} (enc : α → P) (k : α → Key) (q : α → P) (f : α → P) {xs : List α} (ha : a env st = .ok (xs.map fun x => S.p (enc x)) st1) (hl : xs.length ≤ 16777216)
    (h : ∀ x ∈ xs, ∃ env1, t.set (.p (enc x)) (wipeE env V) = some env1 ∧ fk env1 st1 = .ok (.p (q x)) st1 ∧ asKey (q x) = some (k x) ∧ fv env1 st1 = .ok (.p (f x)) st1) :
    eComp clDK a t V tYesQ (nEmitK fk fv) env st = .ok (.c st1.length) (st1 ++ [.dk (mergeS [] (xs.map fun x => (k x, S.p (f x))))]) := by
  have h1 := clLoop_flat (t := t) (ft := tYesQ) (inner := nEmitK fk fv) (env := wipeE env V) (st := st1) enc (fun _ => true) (fun x => [(k x, S.p (f x))]) (xs := xs) fun x hx => by
    obtain ⟨e1, k1, k2, k3, k4⟩ := h x hx
    exact ⟨e1, k1, rfl, fun _ => by simp [nEmitK, k2, k4, asKeyS, k3]⟩
  simp only [eComp, ha, R.bind_ok, h1, filter_all, flatMap_one, clDK]
  rw [if_pos (decide_eq_true (by rw [List.length_map]; exact hl))]
theorem mk_hall {H : HD} (hH : H.ok) : m_Hall [.p (.int H.parts), .p (.int H.days), .p (.tup (H.widths.map P.int)), .p (.int H.longest), .p H.rule, .p (.tup (H.words.map fun w => .str w.s))] st = .ok (.p H.enc) st := by
  have hp := hH.parts
  have hd := hH.days
  have hl := hH.longest
  have mg : mergeS [] (pts4.map fun p => ((Sum.inr p.s : Key), S.p (.str (H.wd p).s))) = [(Sum.inr Wo.checking.s, S.p (.str H.ck.s)), (Sum.inr Wo.giving.s, S.p (.str H.gv.s)), (Sum.inr Wo.holding.s, S.p (.str H.hd.s)), (Sum.inr Wo.places.s, S.p (.str H.pl.s))] := by
    simp [pts4, mergeS, putS, HD.wd]
  have e : g_Hall___init__ [.c st.length, .p (.int H.parts), .p (.int H.days), .p (.tup (H.widths.map P.int)), .p (.int H.longest), .p H.rule, .p (.tup (H.words.map fun w => .str w.s))] (st ++ [.slt 12 []]) =
      .ok (.p .non) (st ++ [.slt 12 [.p (.int H.parts), .p (.int H.days), .p (.tup (H.widths.map P.int)), .p (.int H.longest), .p H.rule, .p (.tup (H.words.map fun w => .str w.s))], .dead]) := by
    have h : runF 8 f_Hall___init__ [.c st.length, .p (.int H.parts), .p (.int H.days), .p (.tup (H.widths.map P.int)), .p (.int H.longest), .p H.rule, .p (.tup (H.words.map fun w => .str w.s))] (st ++ [.slt 12 []]) =
      .ok (.p .non) (st ++ [.slt 12 [.p (.int H.parts), .p (.int H.days), .p (.tup (H.widths.map P.int)), .p (.int H.longest), .p H.rule, .p (.tup (H.words.map fun w => .str w.s))], .dead]) := by
      have b1 : decide ((1 : Int) ≤ H.parts ∧ H.parts ≤ 4) = true := decide_eq_true hp
      have b2 : decide ((1 : Int) ≤ H.days ∧ H.days ≤ 3) = true := decide_eq_true hd
      have b3 : decide ((1 : Int) ≤ H.longest ∧ H.longest ≤ H.days) = true := decide_eq_true hl
      simp [runF_ap, f_Hall___init__, c_MOST_PARTS, c_MOST_DAYS, is_between_int, hp, hd, hl, are_widths_ok hH, are_words_ok hH, look_ok hH]
      rw [compDK1 (enc := fun p : Wo => P.str p.s) (k := fun p => Sum.inr p.s) (q := fun p => .str p.s) (f := fun p => .str (H.wd p).s) (xs := pts4) (st1 := st ++ [.slt 12 [.p (.int H.parts), .p (.int H.days), .p (.tup (H.widths.map P.int)), .p (.int H.longest)]])]
      · rw [mg]
        simp [frzC, frzO, frzD, pureKs]
        rfl
      · simp [dkeys_pts]
      · decide
      · intro p hp
        exact ⟨_, rfl, by simp, rfl, by simp [rule_ix hp]⟩
    show clean (runF 8 f_Hall___init__ _ (st ++ [.slt 12 []])) (st ++ [.slt 12 []]) = _
    rw [h]
    unfold clean
    simp only
    rw [if_neg]
    intro h2
    have h3 := eqSt_ok h2
    have h4 := congrArg (fun l : Store => l[st.length]?) h3
    simp at h4
  show gMkF (.slt 12 []) g_Hall___init__ _ st = _
  unfold gMkF
  rw [e]
  have e2 : (st ++ [.slt 12 [.p (.int H.parts), .p (.int H.days), .p (.tup (H.widths.map P.int)), .p (.int H.longest), .p H.rule, .p (.tup (H.words.map fun w => .str w.s))], .dead])[st.length]? = some (.slt 12 [.p (.int H.parts), .p (.int H.days), .p (.tup (H.widths.map P.int)), .p (.int H.longest), .p H.rule, .p (.tup (H.words.map fun w => .str w.s))]) := by simp
  simp [e2, frzO, eqSt_self]
  rfl
theorem built_ok {H : HD} (hH : H.ok) : g__law_built [.p H.encT] st = .ok (.p H.enc) st := by
  apply gDef_of
  simp [runF_ap, f__law_built, mk_hall hH]
end QS

set_option Elab.async false
set_option linter.all false
set_option maxRecDepth 100000
set_option maxHeartbeats 4000000
/-! V26: halls are drawn. -/
namespace QS
open PySem L2 Q
theorem clLoop_rng {α : Type} {rest : Store} {t : Tg} {ft : XT} {fe : XE} {env : Q.Env} (enc : α → P) : ∀ {xs : List α} (ns : List Int) (a i : Int), ns.length ≤ 63 →
    (∀ x ∈ xs, ∃ env1, t.set (.p (enc x)) env = some env1 ∧ (∀ (ns : List Int) (a i : Int), ns.length ≤ 63 → ∃ b ns' a' i', ft env1 (rng ns a i ++ rest) = .ok b (rng ns' a' i' ++ rest) ∧ ns'.length ≤ 63) ∧ ∀ st, fe env1 st = .ok (.p (enc x)) st) →
    ∃ ys ns' a' i', List.Sublist ys xs ∧ clLoop t ft (nEmit fe) env (xs.map fun x => S.p (enc x)) (rng ns a i ++ rest) = some (ys.map fun x => S.p (enc x), rng ns' a' i' ++ rest) ∧ ns'.length ≤ 63
  | [], ns, a, i, hn, _ => ⟨[], ns, a, i, List.Sublist.slnil, rfl, hn⟩
  | x :: r, ns, a, i, hn, h => by
    obtain ⟨env1, h1, h2, h3⟩ := h x (.head _)
    obtain ⟨b, ns1, a1, i1, e1, n1⟩ := h2 ns a i hn
    obtain ⟨ys, ns2, a2, i2, s2, e2, n2⟩ := clLoop_rng enc (xs := r) ns1 a1 i1 n1 fun y hy => h y (.tail _ hy)
    cases b with
    | true =>
      refine ⟨x :: ys, ns2, a2, i2, s2.cons_cons x, ?_, n2⟩
      simp only [List.map_cons, clLoop, h1, e1, nEmit, h3, e2]
      rfl
    | false =>
      refine ⟨ys, ns2, a2, i2, s2.cons x, ?_, n2⟩
      simp only [List.map_cons, clLoop, h1, e1, e2]
theorem comp_rng {α : Type} {rest : Store} {aI : XI} {t : Tg} {V : List Nat} {ft : XT} {fe : XE} {env : Q.Env} (enc : α → P) {xs : List α} (ns : List Int) (a i : Int) (hn : ns.length ≤ 63)
    (ha : aI env (rng ns a i ++ rest) = .ok (xs.map fun x => S.p (enc x)) (rng ns a i ++ rest)) (hl : xs.length ≤ 16777216)
    (h : ∀ x ∈ xs, ∃ env1, t.set (.p (enc x)) (wipeE env V) = some env1 ∧ (∀ (ns : List Int) (a i : Int), ns.length ≤ 63 → ∃ b ns' a' i', ft env1 (rng ns a i ++ rest) = .ok b (rng ns' a' i' ++ rest) ∧ ns'.length ≤ 63) ∧ ∀ st, fe env1 st = .ok (.p (enc x)) st) :
    ∃ ys ns' a' i', List.Sublist ys xs ∧ eComp fzL aI t V ft (nEmit fe) env (rng ns a i ++ rest) = .ok (.p (.lst (ys.map enc))) (rng ns' a' i' ++ rest) ∧ ns'.length ≤ 63 := by
  obtain ⟨ys, ns2, a2, i2, s2, e2, n2⟩ := clLoop_rng (rest := rest) (t := t) (ft := ft) (fe := fe) (env := wipeE env V) enc ns a i hn h
  refine ⟨ys, ns2, a2, i2, s2, ?_, n2⟩
  have := s2.length_le
  simp only [eComp, ha, R.bind_ok, e2, fzL, pureSs_mapf]
  rw [if_pos (decide_eq_true (by rw [List.length_map]; omega))]
@[simp] theorem gIx_last (ns : List Int) (a i : Int) (tl : Store) (xs : List S) (k : Int) : gIx (.c (2 + tl.length)) (.p (.int k)) (rng ns a i ++ (tl ++ [.lst xs])) = match atI xs k with
  | some z => .ok z (rng ns a i ++ (tl ++ [.lst xs]))
  | none => .stuck := gIx_c (last_at ns a i tl _) k
@[simp] theorem setAt_last (ns : List Int) (a i : Int) (tl : Store) (xs : List S) (k : Int) (v : S) : setAt (rng ns a i ++ (tl ++ [.lst xs])) (.c (2 + tl.length)) (.p (.int k)) v = match ixN xs.length k with
  | some j => some (rng ns a i ++ (tl ++ [.lst (xs.set j v)]))
  | none => none := by
  unfold setAt
  simp only [last_at, last_set]
  all_goals (cases ixN xs.length k <;> rfl)
theorem hall_ok (PP D : Int) (hP : 1 ≤ PP ∧ PP ≤ 4) (hD : 1 ≤ D ∧ D ≤ 3) (ws : List Wo) (hws : ws.Sublist six) (rest : Store) (ns : List Int) (a i : Int) (hn : ns.length ≤ 63) :
    ∃ H more ns' a' i', HD.ok H ∧ H.parts ≤ PP ∧ H.days ≤ D ∧ H.words.Sublist ws ∧ g__law_hall [.c 1, .p (.int PP), .p (.int D), .p (.lst (ws.map fun w => .str w.s))] (rng ns a i ++ rest) = .ok (.p H.encT) (rng ns' a' i' ++ (rest ++ more)) ∧ ns'.length ≤ 63 := by
  obtain ⟨r1, ns1, a1, i1, e1, p1, q1, n1⟩ := next_ok ns a i rest PP (by omega) (by omega) hn
  obtain ⟨r2, ns2, a2, i2, e2, p2, q2, n2⟩ := next_ok ns1 a1 i1 rest D (by omega) (by omega) n1
  obtain ⟨ck, gv, hd, pl, more, ns3, a3, i3, e3, n3, hck, hgv, hhd, hpl⟩ := rule_ok rest ns2 a2 i2 n2
  obtain ⟨tl, htl⟩ : ∃ tl, tl = rest ++ more := ⟨_, rfl⟩
  rw [← htl] at e3
  have hrl : (HD.rule ⟨0, 0, [], 0, ck, gv, hd, pl, []⟩) = HD.rule ⟨1 + r1, 1 + r2, [], 0, ck, gv, hd, pl, []⟩ := rfl
  generalize hR : HD.rule ⟨0, 0, [], 0, ck, gv, hd, pl, []⟩ = R at e3
  have w1 : inWord 1 = true := by decide
  have w2 : inWord (1 + r1 + 1) = true := by simp [inWord]; omega
  -- the widths
  obtain ⟨ys, ns4, a4, i4, s4, e4, n4⟩ := comp_rng (rest := tl ++ [.lst [S.p (.int (1 + r1)), .p (.int (1 + r2)), .p (.tup []), .p (.int 0), .p R, .p (.tup [])]]) (aI := (iRange2 (eC (.int 1)) (eBin gAdd (eBin gIx (eVar 4) (eC (.int 0))) (eC (.int 1))))) (t := .one 6) (V := [6]) (ft := (tOf (eBin gGt (eCall 2 g__law_next (aCons (eVar 0) (aCons (eC (.int 3)) aNil))) (eC (.int 0))))) (fe := eVar 6)
    (env := [some (S.c 1), some (.p (.int PP)), some (.p (.int D)), some (.p (.lst (ws.map fun w => .str w.s))), some (.c (2 + tl.length)), none, none, none]) (fun k : Int => P.int (1 + k)) (xs := rg (1 + r1)) ns3 a3 i3 n3 (by
      simp [w1, w2, rangeS_add]) (by rw [rg_len]; omega) (by
      intro k _
      refine ⟨_, rfl, fun ns a i hn => ?_, fun st => by simp⟩
      obtain ⟨r, ns', a', i', e, _, _, n'⟩ := next_ok ns a i (tl ++ [.lst [S.p (.int (1 + r1)), .p (.int (1 + r2)), .p (.tup []), .p (.int 0), .p R, .p (.tup [])]]) 3 (by decide) (by decide) hn
      exact ⟨decide (0 < r), ns', a', i', by simp [e], n'⟩)
  -- the widths in the list
  have stage : ∃ (W : List Int) (ns6 : List Int) (a6 i6 : Int), ns6.length ≤ 63 ∧ W ≠ [] ∧ W.Pairwise (· < ·) ∧ (∀ w ∈ W, 1 ≤ w ∧ w ≤ 1 + r1) ∧
      (sSub (eVar 4) (eC (.int 2)) (eCallB gTuple (aCons (eIf (eBin (gEqD true) (eVar 5) (eLst aNil)) (eVar 5) (eLst (aCons (eBin gAdd (eC (.int 1)) (eCall 2 g__law_next (aCons (eVar 0) (aCons (eBin gIx (eVar 4) (eC (.int 0))) aNil)))) aNil))) aNil))) [some (S.c 1), some (.p (.int PP)), some (.p (.int D)), some (.p (.lst (ws.map fun w => .str w.s))), some (.c (2 + tl.length)), some (.p (.lst (ys.map fun k => P.int (1 + k)))), none, none] (rng ns4 a4 i4 ++ (tl ++ [.lst [S.p (.int (1 + r1)), .p (.int (1 + r2)), .p (.tup []), .p (.int 0), .p R, .p (.tup [])]])) =
        .ok (.nx [some (S.c 1), some (.p (.int PP)), some (.p (.int D)), some (.p (.lst (ws.map fun w => .str w.s))), some (.c (2 + tl.length)), some (.p (.lst (ys.map fun k => P.int (1 + k)))), none, none]) (rng ns6 a6 i6 ++ (tl ++ [.lst [S.p (.int (1 + r1)), .p (.int (1 + r2)), .p (.tup (W.map P.int)), .p (.int 0), .p R, .p (.tup [])]])) := by
    have ix2 : ixN 6 2 = some 2 := by decide
    cases hy : ys with
    | nil =>
      obtain ⟨r5, ns5, a5, i5, e5, p5, q5, n5⟩ := next_ok ns4 a4 i4 (tl ++ [.lst [S.p (.int (1 + r1)), .p (.int (1 + r2)), .p (.tup []), .p (.int 0), .p R, .p (.tup [])]]) (1 + r1) (by omega) (by omega) n4
      refine ⟨[1 + r5], ns5, a5, i5, n5, by simp, List.pairwise_singleton _ _, fun w hw => by simp at hw; omega, ?_⟩
      simp [e5, ix2]
    | cons y r =>
      refine ⟨(y :: r).map (1 + ·), ns4, a4, i4, n4, by simp, ?_, fun w hw => ?_, ?_⟩
      · rw [List.pairwise_map]
        rw [hy] at s4
        exact ((rg_asc _).sublist s4).imp fun h => by omega
      · obtain ⟨k, hk, rfl⟩ := List.mem_map.mp hw
        rw [hy] at s4
        have := mem_rg.mp (s4.subset hk)
        omega
      · have hne : ∀ st : Store, gEqD true (.p (.lst (P.int (1 + y) :: r.map fun k => P.int (1 + k)))) (.p (.lst [])) st = .ok (.p (.bl true)) st := fun st => by
          have := ints_ne (st := st) ((y :: r).map (1 + ·)) []
          simpa [Function.comp_def] using this
        simp [hne, ix2, Function.comp_def]
  obtain ⟨W, ns6, a6, i6, n6, hW1, hW2, hW3, e6⟩ := stage
  obtain ⟨r7, ns7, a7, i7, e7, p7, q7, n7⟩ := next_ok ns6 a6 i6 (tl ++ [.lst [S.p (.int (1 + r1)), .p (.int (1 + r2)), .p (.tup (W.map P.int)), .p (.int 0), .p R, .p (.tup [])]]) (1 + r2) (by omega) (by omega) n6
  obtain ⟨us, ns8, a8, i8, s8, e8, n8⟩ := comp_rng (rest := tl ++ [.lst [S.p (.int (1 + r1)), .p (.int (1 + r2)), .p (.tup (W.map P.int)), .p (.int (1 + r7)), .p R, .p (.tup [])]]) (aI := (iSeq (eVar 3))) (t := .one 7) (V := [7]) (ft := (tOf (eBin gGt (eCall 2 g__law_next (aCons (eVar 0) (aCons (eC (.int 3)) aNil))) (eC (.int 0))))) (fe := eVar 7)
    (env := [some (S.c 1), some (.p (.int PP)), some (.p (.int D)), some (.p (.lst (ws.map fun w => .str w.s))), some (.c (2 + tl.length)), some (.p (.lst (ys.map fun k => P.int (1 + k)))), none, none]) (fun w : Wo => P.str w.s) (xs := ws) ns7 a7 i7 n7 (by
      simp [Function.comp_def]) (by have := hws.length_le; simp [six] at this; omega) (by
      intro w _
      refine ⟨_, rfl, fun ns a i hn => ?_, fun st => by simp⟩
      obtain ⟨r, ns', a', i', e, _, _, n'⟩ := next_ok ns a i (tl ++ [.lst [S.p (.int (1 + r1)), .p (.int (1 + r2)), .p (.tup (W.map P.int)), .p (.int (1 + r7)), .p R, .p (.tup [])]]) 3 (by decide) (by decide) hn
      exact ⟨decide (0 < r), ns', a', i', by simp [e], n'⟩)
  obtain ⟨H, hHd⟩ : ∃ H : HD, H = ⟨1 + r1, 1 + r2, W, 1 + r7, ck, gv, hd, pl, us⟩ := ⟨_, rfl⟩
  have hH : H.ok := by
    subst hHd
    exact ⟨by simp only; omega, by simp only; omega, hW3, by simp only; omega, hck, hgv, hhd, hpl, hW1, hW2, s8.trans hws⟩
  have ix3 : ixN 6 3 = some 3 := by decide
  have ix5 : ixN 6 5 = some 5 := by decide
  have key : runF 8 f__law_hall [.c 1, .p (.int PP), .p (.int D), .p (.lst (ws.map fun w => .str w.s))] (rng ns a i ++ rest) = .ok (.p H.encT) (rng ns8 a8 i8 ++ (rest ++ (more ++ [.dead]))) := by
    rw [show rest ++ (more ++ [Cell.dead]) = tl ++ [Cell.dead] by rw [htl, List.append_assoc]]
    simp [runF_ap, f__law_hall, e1, e2, e3]
    rw [e4]
    simp at e6 ⊢
    rw [e6]
    simp [e7, ix3]
    rw [e8]
    simp [ix5]
    simp [sFrz_ap, last_at, last_get, last_set, frzC, frzO, frzD]
    subst hHd
    rw [← hR]
    rfl
  obtain ⟨more2, ns9, a9, i9, h1, h2⟩ := gDef_rng hn n8 key
  exact ⟨H, more2, ns9, a9, i9, hH, by subst hHd; simp only; omega, by subst hHd; simp only; omega, by subst hHd; exact s8, h1, h2⟩
end QS

set_option Elab.async false
set_option linter.all false
set_option maxRecDepth 100000
set_option maxHeartbeats 4000000
/-! V27: the plan by the law's own model. -/
namespace QS
open PySem L2 Q
variable {st : Store}
abbrev Gd := Int → Int → Option Int
def rowC (H : HD) (g : Gd) (d : Int) : Cell := .lst ((rg H.parts).map fun p => S.p (encOI (g d p)))
/-- the list of lists, of k days -/
def planS (st : Store) (H : HD) (k : Nat) (g : Gd) : Store := st ++ (.lst ((List.range k).map fun j => S.c (st.length + 1 + j)) :: (List.range k).map fun (j : Nat) => rowC H g (j : Int))
theorem planS_len (H : HD) (k : Nat) (g : Gd) : (planS st H k g).length = st.length + 1 + k := by
  simp [planS]; omega
theorem planS_0 (H : HD) (k : Nat) (g : Gd) : (planS st H k g)[st.length]? = some (.lst ((List.range k).map fun j => S.c (st.length + 1 + j))) := by
  unfold planS
  rw [List.getElem?_append_right (Nat.le_refl _)]
  simp
theorem planS_at (H : HD) (k : Nat) (g : Gd) {j : Nat} (hj : j < k) : (planS st H k g)[st.length + 1 + j]? = some (rowC H g (j : Int)) := by
  unfold planS
  rw [List.getElem?_append_right (by omega), show st.length + 1 + j - st.length = j + 1 by omega, List.getElem?_cons_succ, List.getElem?_map, List.getElem?_range hj]
  rfl
def updG (g : Gd) (d p v : Int) : Gd := fun d' p' => if d' = d ∧ p' = p then some v else g d' p'
theorem rowC_set (H : HD) (g : Gd) (d : Int) {p : Int} (hp : 0 ≤ p ∧ p < H.parts) (v : Int) : ((rg H.parts).map fun q => S.p (encOI (g d q))).set p.toNat (.p (.int v)) = (rg H.parts).map fun q => S.p (encOI (updG g d p v d q)) := by
  apply List.ext_getElem?
  intro j
  by_cases hj : j < H.parts.toNat
  · have e : ∀ f : Int → S, ((rg H.parts).map f)[j]? = some (f (j : Int)) := fun f => by
      unfold rg
      rw [List.map_map, List.getElem?_map, List.getElem?_range hj]
      rfl
    by_cases q : p.toNat = j
    · subst q
      rw [List.getElem?_set_self (by rw [List.length_map, rg_len]; exact hj), e]
      have : (p.toNat : Int) = p := by omega
      simp [updG, this, encOI]
    · rw [List.getElem?_set_ne q, e, e]
      have : ¬ (j : Int) = p := by omega
      simp [updG, this]
  · rw [List.getElem?_eq_none (by rw [List.length_set, List.length_map, rg_len]; omega), List.getElem?_eq_none (by rw [List.length_map, rg_len]; omega)]
theorem planS_set (H : HD) (k : Nat) (g : Gd) {d p : Int} (hd : 0 ≤ d ∧ d < k) (hp : 0 ≤ p ∧ p < H.parts) (v : Int) :
    setAt (planS st H k g) (.c (st.length + 1 + d.toNat)) (.p (.int p)) (.p (.int v)) = some (planS st H k (updG g d p v)) := by
  have hj : d.toNat < k := by omega
  have hdd : (d.toNat : Int) = d := by omega
  have ix : ixN ((rg H.parts).map fun q => S.p (encOI (g (d.toNat : Int) q))).length p = some p.toNat := by
    unfold ixN
    rw [if_pos hp.1, if_pos (by rw [List.length_map, rg_len]; omega)]
  unfold setAt
  simp only [planS_at H k g hj, rowC, ix]
  congr 1
  rw [rowC_set H g _ hp v]
  unfold planS
  rw [List.set_append_right _ _ (by omega), show st.length + 1 + d.toNat - st.length = d.toNat + 1 by omega, List.set_cons_succ]
  congr 2
  apply List.ext_getElem?
  intro j
  by_cases hjk : j < k
  · by_cases q : d.toNat = j
    · subst q
      rw [List.getElem?_set_self (by simpa using hjk), List.getElem?_map, List.getElem?_range hjk]
      simp [rowC, hdd]
    · rw [List.getElem?_set_ne q, List.getElem?_map, List.getElem?_map, List.getElem?_range hjk]
      have : ¬ (j : Int) = d := by omega
      simp [rowC, updG, this]
  · rw [List.getElem?_eq_none (by simp; omega), List.getElem?_eq_none (by simp; omega)]
def foldG (d p : Int) (bs : List Bk) (acc : Option Int) : Option Int := bs.foldl (fun acc b => if (d, p) ∈ cells b then some b.part else acc) acc
theorem foldG_none {d p : Int} : ∀ {bs : List Bk} {acc : Option Int}, (∀ b ∈ bs, (d, p) ∉ cells b) → foldG d p bs acc = acc
  | [], _, _ => rfl
  | b :: r, acc, h => by
    show foldG d p r (if (d, p) ∈ cells b then some b.part else acc) = acc
    rw [if_neg (h b (.head _))]
    exact foldG_none fun y hy => h y (.tail _ hy)
theorem foldG_taker {d p : Int} : ∀ {bs : List Bk}, bs.Pairwise apart → foldG d p bs none = (taker bs d p).map Bk.part
  | [], _ => rfl
  | b :: r, h => by
    obtain ⟨h1, h2⟩ := List.pairwise_cons.mp h
    show foldG d p r (if (d, p) ∈ cells b then some b.part else none) = _
    unfold taker
    rw [List.find?_cons]
    by_cases q : (d, p) ∈ cells b
    · rw [if_pos q, foldG_none fun y hy => h1 y hy (d, p) q]
      simp [q]
    · rw [if_neg q, foldG_taker h2]
      simp [q, taker]
theorem foldG_snoc (d p : Int) (bs : List Bk) (b : Bk) (acc : Option Int) : foldG d p (bs ++ [b]) acc = if (d, p) ∈ cells b then some b.part else foldG d p bs acc := by
  unfold foldG
  rw [List.foldl_append]
  rfl
theorem law_plan_ok {H : HD} (hH : H.ok) {bs : List Bk} (hS : Std H bs) : g__law_plan [.p H.encT, .p (.lst (bs.map Bk.enc))] st = .ok (.c st.length) (planS st H H.days.toNat fun d p => foldG d p bs none) := by
  apply gDef_cell
  have hp := hH.parts
  have hd := hH.days
  have w1 : inWord H.days = true := by simp [inWord]; omega
  -- the empty plan
  obtain ⟨e, st', h1, z3, h2, h3⟩ := forLoop_inv (t := .one 3) (body := (sExpr (eMt isLst gAppend (eVar 2) (aCons (eBin gMulC (eLst (aCons (eC .non) aNil)) (eBin gIx (eVar 0) (eC (.int 0)))) aNil))))
    (fun k env st' => ∃ z3, env = [some (S.p H.encT), some (.p (.lst (bs.map Bk.enc))), some (.c st.length), z3, none, none] ∧ st' = planS st H k fun _ _ => none)
    (items := (rg H.days).map fun i => S.p (.int i)) (env := [some (S.p H.encT), some (.p (.lst (bs.map Bk.enc))), some (.c st.length), none, none, none]) (st := st ++ [.lst []]) 0 ⟨none, rfl, rfl⟩ (by
      rintro k s env st' hs ⟨z3, rfl, rfl⟩
      rw [Nat.zero_add]
      rw [List.getElem?_map] at hs
      cases hk : (rg H.days)[k]? with
      | none => rw [hk] at hs; cases hs
      | some d =>
        rw [hk] at hs
        simp only [Option.map_some, Option.some.injEq] at hs
        subst hs
        have hkl : k < H.days.toNat := by
          have := (List.getElem?_eq_some_iff.mp hk).1
          rwa [rg_len] at this
        refine ⟨[some (S.p H.encT), some (.p (.lst (bs.map Bk.enc))), some (.c st.length), some (.p (.int d)), none, none], [some (S.p H.encT), some (.p (.lst (bs.map Bk.enc))), some (.c st.length), some (.p (.int d)), none, none], planS st H (k + 1) fun _ _ => none, by simp, .inl ?_, ⟨_, rfl, rfl⟩⟩
        have il : isLst (planS st H k fun _ _ => none) (.c st.length) = true := by
          unfold isLst; simp only [planS_0]
        have hpc : (0 ≤ H.parts ∧ H.parts < 1000) := by omega
        have mc : gMulC (.p (.lst [.non])) (.p (.int H.parts)) (planS st H k fun _ _ => none) = .ok (.c (st.length + 1 + k)) ((planS st H k fun _ _ => none) ++ [rowC H (fun _ _ => none) k]) := by
          unfold gMulC
          simp only
          rw [if_pos (decide_eq_true ⟨hpc.1, hpc.2, by simp⟩), planS_len]
          congr 3
          unfold rowC
          simp [encOI]
          apply List.ext_getElem
          · simp [rg_len]
          · intro j h1 h2
            simp
        have ap : gAppend (.c st.length) [.c (st.length + 1 + k)] ((planS st H k fun _ _ => none) ++ [rowC H (fun _ _ => none) k]) = .ok (.p .non) (planS st H (k + 1) fun _ _ => none) := by
          have g0 : ((planS st H k fun _ _ => none) ++ [rowC H (fun _ _ => none) k])[st.length]? = some (.lst ((List.range k).map fun j => S.c (st.length + 1 + j))) := by
            rw [List.getElem?_append_left (by rw [planS_len]; omega)]; exact planS_0 H k _
          have hlt : ((List.range k).map fun j => S.c (st.length + 1 + j)).length < 16777216 := by simp; omega
          unfold gAppend
          simp only [g0]
          rw [if_pos (decide_eq_true hlt)]
          congr 1
          unfold planS
          rw [List.range_succ]
          simp
        simp [il, mc, ap])
  rw [List.length_map, Nat.zero_add, rg_len] at h3
  subst h2 h3
  -- the bookings
  have gi : ∀ (g : Gd) (d : Int), 0 ≤ d → d < H.days → gIx (.c st.length) (.p (.int d)) (planS st H H.days.toNat g) = .ok (.c (st.length + 1 + d.toNat)) (planS st H H.days.toNat g) := fun g d h0 h1 => by
    rw [gIx_c (planS_0 H _ g)]
    have : atI ((List.range H.days.toNat).map fun j => S.c (st.length + 1 + j)) d = some (.c (st.length + 1 + d.toNat)) := by
      have hj : d.toNat < H.days.toNat := by omega
      have h2 := atI_nat' (xs := (List.range H.days.toNat).map fun j => S.c (st.length + 1 + j)) (k := d.toNat) (by simpa using hj)
      rw [show ((d.toNat : Nat) : Int) = d by omega] at h2
      rw [h2, List.getElem?_map, List.getElem?_range hj]
      rfl
    rw [this]
  have inner : ∀ (b : Bk) (hb : b ∈ bs) (g : Gd) (z3 z5 : Option S), ∃ z3' z5', forLoop (.many [3, 5]) (sSub (eBin gIx (eVar 2) (eVar 3)) (eVar 5) (eBin gIx (eVar 4) (eC (.int 1)))) ((cells b).map fun c => S.p (Enc.enc c)) [some (S.p H.encT), some (.p (.lst (bs.map Bk.enc))), some (.c st.length), z3, some (.p b.enc), z5] (planS st H H.days.toNat g) =
      .ok (.nx [some (S.p H.encT), some (.p (.lst (bs.map Bk.enc))), some (.c st.length), z3', some (.p b.enc), z5']) (planS st H H.days.toNat fun d p => if (d, p) ∈ cells b then some b.part else g d p) := fun b hb g z3 z5 => by
    have hbi := hS.inh b hb
    obtain ⟨e, st', h1, z3', z5', h2, h3⟩ := forLoop_inv (t := .many [3, 5]) (body := (sSub (eBin gIx (eVar 2) (eVar 3)) (eVar 5) (eBin gIx (eVar 4) (eC (.int 1)))))
      (fun k env st' => ∃ z3 z5, env = [some (S.p H.encT), some (.p (.lst (bs.map Bk.enc))), some (.c st.length), z3, some (.p b.enc), z5] ∧ st' = planS st H H.days.toNat fun d p => if (d, p) ∈ (cells b).take k then some b.part else g d p)
      (items := (cells b).map fun c => S.p (Enc.enc c)) (env := [some (S.p H.encT), some (.p (.lst (bs.map Bk.enc))), some (.c st.length), z3, some (.p b.enc), z5]) (st := planS st H H.days.toNat g) 0 ⟨z3, z5, rfl, by simp⟩ (by
        rintro k s env st' hs ⟨z3, z5, rfl, rfl⟩
        rw [Nat.zero_add]
        rw [List.getElem?_map] at hs
        cases hk : (cells b)[k]? with
        | none => rw [hk] at hs; cases hs
        | some c =>
          rw [hk] at hs
          simp only [Option.map_some, Option.some.injEq] at hs
          subst hs
          obtain ⟨d, p⟩ := c
          have hc := mem_cells.mp (List.mem_of_getElem? hk)
          obtain ⟨b1, b2, b3, b4, b5, b6⟩ := hbi
          have hdd : 0 ≤ d ∧ d < H.days := by omega
          have hpp : 0 ≤ p ∧ p < H.parts := by omega
          refine ⟨[some (S.p H.encT), some (.p (.lst (bs.map Bk.enc))), some (.c st.length), some (.p (.int d)), some (.p b.enc), some (.p (.int p))], [some (S.p H.encT), some (.p (.lst (bs.map Bk.enc))), some (.c st.length), some (.p (.int d)), some (.p b.enc), some (.p (.int p))], planS st H H.days.toNat fun d p => if (d, p) ∈ (cells b).take (k + 1) then some b.part else g d p, by simp [Enc.enc], .inl ?_, ⟨_, _, rfl, rfl⟩⟩
          have hst := planS_set (st := st) H H.days.toNat (fun d p => if (d, p) ∈ (cells b).take k then some b.part else g d p) (d := d) (p := p) (by omega) hpp b.part
          have hfe : updG (fun d p => if (d, p) ∈ (cells b).take k then some b.part else g d p) d p b.part = fun d p => if (d, p) ∈ (cells b).take (k + 1) then some b.part else g d p := by
            funext d' p'
            have e1 : (cells b).take (k + 1) = (cells b).take k ++ [(d, p)] := by rw [List.take_add_one, hk]; rfl
            unfold updG
            rw [e1]
            by_cases q : d' = d ∧ p' = p
            · obtain ⟨rfl, rfl⟩ := q
              simp
            · have : ¬ (d', p') = (d, p) := fun z => q (by simpa using z)
              simp [q, this]
          rw [hfe] at hst
          simp [gi _ d hdd.1 hdd.2, hst])
    rw [List.length_map, Nat.zero_add, List.take_of_length_le (Nat.le_refl _)] at h3
    subst h2 h3
    exact ⟨z3', z5', h1⟩
  obtain ⟨e, st', h4, z3, z4, z5, h5, h6⟩ := forLoop_inv (t := .one 4) (body := (sFor (iSeq (eCall 1 g__law_cells (aCons (eVar 4) aNil))) (.many [3, 5]) (sSub (eBin gIx (eVar 2) (eVar 3)) (eVar 5) (eBin gIx (eVar 4) (eC (.int 1))))))
    (fun k env st' => ∃ z3 z4 z5, env = [some (S.p H.encT), some (.p (.lst (bs.map Bk.enc))), some (.c st.length), z3, z4, z5] ∧ st' = planS st H H.days.toNat fun d p => foldG d p (bs.take k) none)
    (items := bs.map fun b => S.p b.enc) (env := [some (S.p H.encT), some (.p (.lst (bs.map Bk.enc))), some (.c st.length), z3, none, none]) (st := planS st H H.days.toNat fun _ _ => none) 0 ⟨z3, none, none, rfl, rfl⟩ (by
      rintro k s env st' hs ⟨z3, z4, z5, rfl, rfl⟩
      rw [Nat.zero_add]
      rw [List.getElem?_map] at hs
      cases hk : bs[k]? with
      | none => rw [hk] at hs; cases hs
      | some b =>
        rw [hk] at hs
        simp only [Option.map_some, Option.some.injEq] at hs
        subst hs
        have hb := List.mem_of_getElem? hk
        obtain ⟨z3', z5', hin⟩ := inner b hb (fun d p => foldG d p (bs.take k) none) z3 z5
        refine ⟨[some (S.p H.encT), some (.p (.lst (bs.map Bk.enc))), some (.c st.length), z3, some (.p b.enc), z5], [some (S.p H.encT), some (.p (.lst (bs.map Bk.enc))), some (.c st.length), z3', some (.p b.enc), z5'], planS st H H.days.toNat fun d p => foldG d p (bs.take (k + 1)) none, by simp, .inl ?_, ⟨_, _, _, rfl, rfl⟩⟩
        have e1 : bs.take (k + 1) = bs.take k ++ [b] := by rw [List.take_add_one, hk]; rfl
        rw [e1]
        simp only [foldG_snoc]
        simp [law_cells_ok ((hS.inh b hb).sm hH)]
        simp only [Function.comp_def]
        rw [hin])
  rw [List.length_map, Nat.zero_add, List.take_of_length_le (Nat.le_refl _)] at h6
  subst h5 h6
  simp [runF_ap, f__law_plan, w1, rangeS_rg]
  rw [h1]
  simp
  simp only [Function.comp_def]
  rw [h4]
  simp
end QS

set_option Elab.async false
set_option linter.all false
set_option maxRecDepth 100000
set_option maxHeartbeats 4000000
/-! V28: what is compared; a record's answers. -/
namespace QS
open PySem L2 Q
variable {st : Store}
mutual
theorem eqv_self : ∀ d : PyData, d.canLay0 = true → PyData.eqv d d = true
  | .none, _ => by simp [PyData.eqv]
  | .bool b, _ => by simp [PyData.eqv]
  | .int i, _ => by simp [PyData.eqv]
  | .str x, _ => by simp [PyData.eqv]
  | .list xs, h => by
    simp only [PyData.eqv]
    exact eqvAll_self xs (by simpa [PyData.canLay0] using h)
  | .tuple xs, h => by
    simp only [PyData.eqv]
    exact eqvAll_self xs (by simpa [PyData.canLay0] using h)
  | .dict _, h => by simp [PyData.canLay0] at h
theorem eqvAll_self : ∀ xs : List PyData, PyData.canLayAll0 xs = true → PyData.eqvAll xs xs = true
  | [], _ => by simp [PyData.eqvAll]
  | x :: r, h => by
    simp only [PyData.canLayAll0, Bool.and_eq_true] at h
    simp [PyData.eqvAll, eqv_self x h.1, eqvAll_self r h.2]
end
theorem dataOf_lay {u : S} {d : PyData} (h : dataOf st u = some d) : d.canLay0 = true := by
  unfold dataOf at h
  split at h
  · split at h
    · split at h
      · rename_i q
        cases h
        have q : (PyData.canLay0 _ && decide (PyData.depth _ ≤ 64)) = true := q
        rw [Bool.and_eq_true] at q
        exact q.1
      · cases h
    · cases h
  · cases h
theorem ne_same {u v : S} {d : PyData} (hu : dataOf st u = some d) (hv : dataOf st v = some d) : gEqD true u v st = .ok (.p (.bl false)) st := by
  rw [gEqD_of true hu hv, eqv_self d (dataOf_lay hu)]; rfl
theorem eq_same {u v : S} {d : PyData} (hu : dataOf st u = some d) (hv : dataOf st v = some d) : gEqD false u v st = .ok (.p (.bl true)) st := by
  rw [gEqD_of false hu hv, eqv_self d (dataOf_lay hu)]; rfl
theorem lookDs_p (f : Nat) (st : Store) : ∀ ps : List P, lookDs f st (ps.map S.p) = some ps
  | [] => by simp [lookDs]
  | p :: r => by
    have h1 : lookD f st (.p p) = some p := by cases f <;> simp only [lookD]
    simp [lookDs, h1, lookDs_p f st r]
theorem dataOf_cell {n : Nat} {ps : List P} (h : st[n]? = some (.lst (ps.map S.p))) : dataOf st (.c n) = dataOf st (.p (.lst ps)) := by
  unfold dataOf
  have h1 : lookD 3 st (.c n) = some (.lst ps) := by
    unfold lookD
    simp only [h, lookDs_p]
  have h2 : lookD 3 st (.p (.lst ps)) = some (.lst ps) := by simp only [lookD]
  rw [h1, h2]
def Ans.dat : Ans → PyData
  | .non => .none
  | .int i => .int i
  | .bl b => .bool b
theorem ans_toDs : ∀ l : List Ans, toDs (l.map Ans.enc) = some (l.map Ans.dat)
  | [] => rfl
  | x :: r => by cases x <;> simp [toDs, Ans.enc, Ans.dat, Q.toD, ans_toDs r]
theorem ans_lay : ∀ l : List Ans, PyData.canLayAll0 (l.map Ans.dat) = true
  | [] => rfl
  | x :: r => by cases x <;> simp [PyData.canLayAll0, PyData.canLay0, Ans.dat, ans_lay r]
theorem ans_dep : ∀ l : List Ans, PyData.depthAll (l.map Ans.dat) = 0
  | [] => rfl
  | x :: r => by cases x <;> simp [PyData.depthAll, PyData.depth, Ans.dat, ans_dep r]
theorem ans_data (l : List Ans) : dataOf st (.p (.lst (l.map Ans.enc))) = some (.list (l.map Ans.dat)) := by
  unfold dataOf
  simp only [lookD, Q.toD, ans_toDs, Option.map_some]
  rw [if_pos]
  show (PyData.canLay0 (.list _) && decide (PyData.depth (.list _) ≤ 64)) = true
  simp [PyData.canLay0, ans_lay, PyData.depth, ans_dep]
instance : Enc Fd := ⟨Fd.enc, fun f => match f with
  | .clash w => .tuple [.str Wo.clash.s, .str w.s]
  | .crowded w => .tuple [.str Wo.crowded.s, .int w]
  | .dropped w => .tuple [.str Wo.dropped.s, .int w]
  | .refused w => .tuple [.str Wo.refused.s, .int w], 1, fun f => by cases f <;> rfl, fun f => by
  have := Wo.ok
  cases f <;> simp [PyData.canLay0, PyData.canLayAll0] <;> simp [PyData.canLay0] at this <;> simp [this], fun f => by cases f <;> simp [PyData.depth, PyData.depthAll], fun a b => by
  cases a <;> cases b <;> simp [PyData.eqv, PyData.eqvAll]⟩
theorem nf_data (l : List (Int × Fd)) : ∃ d, dataOf st (.p (.lst (l.map encNF))) = some d := ⟨_, dataOf_enc st (Lst.mk l) (by decide)⟩
theorem bks_data (l : List Bk) : ∃ d, dataOf st (.p (.tup (l.map Bk.enc))) = some d := ⟨_, dataOf_enc st (Tup.mk l) (by decide)⟩
theorem bools_data (l : List Bool) : ∃ d, dataOf st (.p (.lst (l.map P.bl))) = some d := ⟨_, dataOf_enc st (Lst.mk l) (by decide)⟩
def oiD : Option Int → PyData
  | none => .none
  | some i => .int i
theorem oi_toDs : ∀ l : List (Option Int), toDs (l.map encOI) = some (l.map oiD)
  | [] => rfl
  | x :: r => by cases x <;> simp [toDs, encOI, oiD, Q.toD, oi_toDs r]
theorem oi_lay : ∀ l : List (Option Int), PyData.canLayAll0 (l.map oiD) = true
  | [] => rfl
  | x :: r => by cases x <;> simp [PyData.canLayAll0, PyData.canLay0, oiD, oi_lay r]
theorem oi_dep : ∀ l : List (Option Int), PyData.depthAll (l.map oiD) = 0
  | [] => rfl
  | x :: r => by cases x <;> simp [PyData.depthAll, PyData.depth, oiD, oi_dep r]
def planD (l : List (List (Option Int))) : PyData := .list (l.map fun r => .list (r.map oiD))
theorem plan_toDs : ∀ l : List (List (Option Int)), toDs (l.map fun r => .lst (r.map encOI)) = some (l.map fun r => .list (r.map oiD))
  | [] => rfl
  | x :: r => by simp [toDs, Q.toD, oi_toDs, plan_toDs r]
theorem plan_lay : ∀ l : List (List (Option Int)), PyData.canLayAll0 (l.map fun r => .list (r.map oiD)) = true
  | [] => rfl
  | x :: r => by simp [PyData.canLayAll0, PyData.canLay0, oi_lay, plan_lay r]
theorem plan_dep : ∀ l : List (List (Option Int)), PyData.depthAll (l.map fun r => .list (r.map oiD)) ≤ 1
  | [] => by simp [PyData.depthAll]
  | x :: r => by simp [PyData.depthAll, PyData.depth, oi_dep, plan_dep r]
theorem plan_shape (l : List (List (Option Int))) : SeqAt.shaped (planD l) = true := by
  show (PyData.canLay0 (.list _) && decide (PyData.depth (.list _) ≤ 64)) = true
  have := plan_dep l
  simp [PyData.canLay0, plan_lay, PyData.depth]
  omega
theorem plan_data (l : List (List (Option Int))) : dataOf st (.p (.lst (l.map fun r => .lst (r.map encOI)))) = some (planD l) := by
  unfold dataOf
  simp only [lookD, Q.toD, plan_toDs, Option.map_some]
  exact if_pos (plan_shape l)
/-- a list of cells -/
theorem lookDs_c {f : Nat} {st : Store} : ∀ {cs : List Nat} {rows : List (List P)}, cs.length = rows.length → (∀ (j : Nat) c r, cs[j]? = some c → rows[j]? = some r → st[c]? = some (.lst (r.map S.p))) → lookDs (f + 1) st (cs.map S.c) = some (rows.map P.lst)
  | [], [], _, _ => by simp [lookDs]
  | c :: cs, r :: rows, hl, h => by
    have h1 := h 0 c r rfl rfl
    have h2 : lookD (f + 1) st (.c c) = some (.lst r) := by
      unfold lookD
      simp only [h1, lookDs_p]
    have ih := lookDs_c (f := f) (st := st) (cs := cs) (rows := rows) (by simpa using hl) fun j c r e1 e2 => h (j + 1) c r (by simpa using e1) (by simpa using e2)
    simp [lookDs, h2, ih]
  | [], _ :: _, hl, _ => by simp at hl
  | _ :: _, [], hl, _ => by simp at hl
theorem law_plan_data {H : HD} (g : Gd) {more : Store} (l : List (List (Option Int))) (hl : l = (rg H.days).map fun d => (rg H.parts).map fun p => g d p) :
    dataOf (planS st H H.days.toNat g ++ more) (.c st.length) = some (planD l) := by
  have h0 : (planS st H H.days.toNat g ++ more)[st.length]? = some (.lst ((List.range H.days.toNat).map fun j => S.c (st.length + 1 + j))) := by
    rw [List.getElem?_append_left (by rw [planS_len]; omega)]; exact planS_0 H _ g
  have h1 : lookD 3 (planS st H H.days.toNat g ++ more) (.c st.length) = some (.lst (l.map fun r => .lst (r.map encOI))) := by
    have h2 := lookDs_c (f := 1) (st := planS st H H.days.toNat g ++ more) (cs := (List.range H.days.toNat).map fun j => st.length + 1 + j) (rows := l.map fun r => r.map encOI) (by rw [hl]; simp [rg_len]) (by
      intro j c r e1 e2
      rw [List.getElem?_map] at e1
      cases q : (List.range H.days.toNat)[j]? with
      | none => rw [q] at e1; cases e1
      | some j' =>
        have hj : j < H.days.toNat := by
          have := (List.getElem?_eq_some_iff.mp q).1
          simpa using this
        rw [List.getElem?_range hj] at q
        cases q
        rw [List.getElem?_range hj] at e1
        simp only [Option.map_some, Option.some.injEq] at e1
        subst e1
        rw [List.getElem?_append_left (by rw [planS_len]; omega), planS_at H _ g hj]
        rw [hl, List.getElem?_map, List.getElem?_map] at e2
        have e3 : (rg H.days)[j]? = some (j : Int) := by
          unfold rg
          rw [List.getElem?_map, List.getElem?_range hj]
          rfl
        rw [e3] at e2
        simp only [Option.map_some, Option.some.injEq] at e2
        subst e2
        simp [rowC, Function.comp_def])
    rw [List.map_map] at h2
    unfold lookD
    simp only [h0]
    simp only [Function.comp_def] at h2
    rw [h2, List.map_map]
    rfl
  unfold dataOf
  rw [h1]
  simp only [Q.toD, plan_toDs, Option.map_some]
  exact if_pos (plan_shape l)
/-! ### a record's answers -/
/-- the record that stands at n -/
structure RecAt (st : Store) (n : Nat) (H : HD) (s : RS) : Prop where
  r : ∃ m, st[n]? = some (recC H s.bs m) ∧ st[m + 1]? = some (.lst ((s.as.map Ans.enc).map S.p)) ∧ st[m + 2]? = some (.lst ((s.fs.map encNF).map S.p))
theorem RecAt.more {n : Nat} {H : HD} {s : RS} (h : RecAt st n H s) (more : Store) : RecAt (st ++ more) n H s := by
  obtain ⟨m, a, b, c⟩ := h.r
  have ha := (List.getElem?_eq_some_iff.mp a).1
  have hb := (List.getElem?_eq_some_iff.mp b).1
  have hc := (List.getElem?_eq_some_iff.mp c).1
  exact ⟨m, by rw [List.getElem?_append_left ha]; exact a, by rw [List.getElem?_append_left hb]; exact b, by rw [List.getElem?_append_left hc]; exact c⟩
theorem RecAt.new (H : HD) (s : RS) : RecAt (st ++ recS H s st.length) st.length H s := by
  refine ⟨st.length, ?_, ?_, ?_⟩
  · simp [recS]
  · simp [recS, Function.comp_def]
  · simp [recS, Function.comp_def]
theorem RecAt.fld {n : Nat} {H : HD} {s : RS} (h : RecAt st n H s) : ∃ m, fldS st (.c n) = some (14, [(Str.ofString "place", .p H.enc), (Str.ofString "at", .p (.tup (s.bs.map Bk.enc))), (Str.ofString "answers", .c (m + 1)), (Str.ofString "told_findings", .c (m + 2))]) ∧ st[m + 1]? = some (.lst ((s.as.map Ans.enc).map S.p)) ∧ st[m + 2]? = some (.lst ((s.fs.map encNF).map S.p)) := by
  obtain ⟨m, a, b, c⟩ := h.r
  refine ⟨m, ?_, b, c⟩
  have := fld_at a []
  rwa [List.append_nil] at this
theorem bookings_ok {n : Nat} {H : HD} {s : RS} (h : RecAt st n H s) : g_Record_bookings [.c n] st = .ok (.p (.tup (s.bs.map Bk.enc))) st := by
  apply gDef_of
  obtain ⟨m, h1, _, _⟩ := h.fld
  simp [runF_ap, f_Record_bookings, h1]
theorem told_ok {n : Nat} {H : HD} {s : RS} (h : RecAt st n H s) : g_Record_told [.c n] st = .ok (.c st.length) (st ++ [.lst ((s.as.map Ans.enc).map S.p)]) := by
  apply gDef_cell
  obtain ⟨m, h1, h2, _⟩ := h.fld
  simp [runF_ap, f_Record_told, h1, gListC, itemsOf_c h2]
theorem found_ok {n : Nat} {H : HD} {s : RS} (h : RecAt st n H s) : g_Record_found [.c n] st = .ok (.c st.length) (st ++ [.lst ((s.fs.map encNF).map S.p)]) := by
  apply gDef_cell
  obtain ⟨m, h1, _, h2⟩ := h.fld
  simp [runF_ap, f_Record_found, h1, gListC, itemsOf_c h2]
theorem rlen_ok {n : Nat} {H : HD} {s : RS} (h : RecAt st n H s) : g_Record___len__ [.c n] st = .ok (.p (.int s.as.length)) st := by
  apply gDef_of
  obtain ⟨m, h1, h2, _⟩ := h.fld
  simp [runF_ap, f_Record___len__, h1, gLen_c h2]
end QS

set_option Elab.async false
set_option linter.all false
set_option maxRecDepth 100000
set_option maxHeartbeats 8000000
/-! V29: the law about whole records. -/
namespace QS
open PySem L2 Q
theorem start_ok (st : Store) : g__law_start [] st = .ok (.p (encSt [] .non [])) st := by
  apply gDef_any
  refine ⟨[.dead], ?_⟩
  have fz : ∀ kvs : List (Key × S), frzS (.c st.length) (st ++ [.dk kvs]) = match (pureKs kvs).map P.dk with
    | some x => .ok (.p x) (st ++ [.dead])
    | none => .stuck := fun kvs => by
    simp only [frzS, List.getElem?_concat_length, frzC, frzO, frzD]
    cases pureKs kvs <;> simp
  simp [runF_ap, f__law_start, asKeyS, asKey, merge3, fz, pureKs]
  rfl
/-- what the law knows behind some deeds -/
def lastA (s : RS) : Ans := s.as.getLast?.getD .non
/-- the law's names in its loop -/
def evL (H : HD) (bs : List Bk) (a : Ans) (f : List Fd) (dc tc : Nat) (nf : List (Int × Fd)) (z8 z9 z10 z11 z12 z13 : Option S) (ns : List Int) : Q.Env :=
  [some (.p (.scr ns)), some (.c 1), some (.p H.encT), some (.p H.enc), some (.p (encSt bs a f)), some (.c dc), some (.c tc), some (.p (.lst (nf.map encNF))), z8, z9, z10, z11, z12, z13]
/-- the two lists behind the draws -/
def tail2 (tl : Store) (xs : List Dd) (as : List Ans) : Store := tl ++ [.lst (xs.map fun x => S.p x.enc), .lst (as.map fun a => S.p a.enc)]
theorem t2_d (ns : List Int) (a i : Int) (tl : Store) (xs : List Dd) (as : List Ans) : (rng ns a i ++ tail2 tl xs as)[2 + tl.length]? = some (.lst (xs.map fun x => S.p x.enc)) := by
  unfold tail2
  rw [List.getElem?_append_right (by simp)]; simp
theorem t2_t (ns : List Int) (a i : Int) (tl : Store) (xs : List Dd) (as : List Ans) : (rng ns a i ++ tail2 tl xs as)[3 + tl.length]? = some (.lst (as.map fun a => S.p a.enc)) := by
  unfold tail2
  rw [List.getElem?_append_right (by simp; omega), rng_len, List.getElem?_append_right (by omega), show 3 + tl.length - 2 - tl.length = 1 by omega]; rfl
theorem t2_sd (ns : List Int) (a i : Int) (tl : Store) (xs ys : List Dd) (as : List Ans) : (rng ns a i ++ tail2 tl xs as).set (2 + tl.length) (.lst (ys.map fun x => S.p x.enc)) = rng ns a i ++ tail2 tl ys as := by
  unfold tail2
  rw [List.set_append_right _ _ (by simp)]; simp
theorem t2_st (ns : List Int) (a i : Int) (tl : Store) (xs : List Dd) (as bs : List Ans) : (rng ns a i ++ tail2 tl xs as).set (3 + tl.length) (.lst (bs.map fun a => S.p a.enc)) = rng ns a i ++ tail2 tl xs bs := by
  unfold tail2
  rw [List.set_append_right _ _ (by simp; omega), rng_len, List.set_append_right _ _ (by omega), show 3 + tl.length - 2 - tl.length = 1 by omega]; rfl
theorem turn_ok {H : HD} (hH : H.ok) (sc : List Int) (tl : Store) (xs : List Dd) (hR : Row H [] xs) (hx : xs.length ≤ 100) (a : Ans) (f : List Fd) (z8 z9 z10 z11 z12 z13 : Option S) (ns : List Int) (ra ri : Int) (hn : ns.length ≤ 63) :
    ∃ x ns' ra' ri' a' f' z9' , ns'.length ≤ 63 ∧ x.of H ∧ canBe H (rowR H RS.nil xs).bs x = true ∧
      (sSeq (sSet 9 (eCall 2 g__law_able (aCons (eVar 2) (aCons (eVar 4) aNil)))) (sSeq (sExpr (eMt isLst gAppend (eVar 5) (aCons (eBin gIx (eVar 9) (eCall 2 g__law_next (aCons (eVar 1) (aCons (eCallB gLen (aCons (eVar 9) aNil)) aNil)))) aNil))) (sSeq (sSet 4 (eCall 3 g__law_do (aCons (eVar 2) (aCons (eVar 4) (aCons (eBin gIx (eVar 5) (eC (.int (-1)))) aNil))))) (sSeq (sExpr (eMt isLst gAppend (eVar 6) (aCons (eBin gIx (eVar 4) (eC (.str "told"))) aNil))) (sSet 7 (eBin gAdd (eVar 7) (eComp fzL (iSeq (eBin gIx (eVar 4) (eC (.str "found")))) (.one 12) (([("_law_finding", 12)] : List (PySem.Str × Nat)).map (·.2)) tYesQ (nEmit (eTup (aCons (eCallB gLen (aCons (eVar 5) aNil)) (aCons (eVar 12) aNil))))))))))) (evL H (rowR H RS.nil xs).bs a f (2 + tl.length) (3 + tl.length) (rowR H RS.nil xs).fs z8 z9 z10 z11 z12 z13 sc) (rng ns ra ri ++ tail2 tl xs (rowR H RS.nil xs).as) =
        .ok (.nx (evL H (rowR H RS.nil (xs ++ [x])).bs a' f' (2 + tl.length) (3 + tl.length) (rowR H RS.nil (xs ++ [x])).fs z8 z9' z10 z11 z12 z13 sc)) (rng ns' ra' ri' ++ tail2 tl (xs ++ [x]) (rowR H RS.nil (xs ++ [x])).as) := by
  have hS := Std.row hH (Std.nil H) (s := RS.nil) hR
  have hlen := rowR_len H xs RS.nil
  have hfs := rowR_fs H xs RS.nil
  simp only [RS.nil, List.length_nil] at hlen hfs
  rw [show (⟨[], [], []⟩ : RS) = RS.nil from rfl] at hlen hfs
  have hab : ∀ st : Store, _ := fun st => law_able_ok (st := st) hH (hS.sms hH) a f
  generalize hA : (every H).filter (fun x => canBe H (rowR H RS.nil xs).bs x) = A at hab
  have hAn : A ≠ [] := by rw [← hA]; exact able_ne hH _
  have hAl : 0 < A.length := by cases A with
    | nil => exact absurd rfl hAn
    | cons => simp
  have hAb : A.length ≤ 1000 := by
    rw [← hA]
    have la := asked_len hH
    have lc := allC_len hH
    have lm := moves_len hH
    refine Nat.le_trans (List.length_filter_le _ _) (Nat.le_trans (List.length_filter_le _ _) ?_)
    simp only [List.length_append, List.length_map, List.length_singleton]
    omega
  obtain ⟨r, ns1, a1, i1, e1, p1, q1, n1⟩ := next_ok ns ra ri (tail2 tl xs (rowR H RS.nil xs).as) A.length (by omega) (by omega) hn
  obtain ⟨m, rfl⟩ : ∃ m : Nat, r = m := ⟨r.toNat, by omega⟩
  have hm : m < A.length := by omega
  obtain ⟨x, hx'⟩ : ∃ x, A[m]? = some x := ⟨A[m], List.getElem?_eq_getElem hm⟩
  have hxA := List.mem_of_getElem? hx'
  rw [← hA] at hxA
  have hxo := mem_every.mp (List.mem_filter.mp hxA).1
  have hxc := (List.mem_filter.mp hxA).2
  have gx : ∀ st : Store, gIx (.p (.lst (A.map Dd.enc))) (.p (.int (m : Int))) st = .ok (.p x.enc) st := fun st => by
    rw [gIx_lst, atI_nat' (by simpa using hm), List.getElem?_map, List.getElem?_map, hx']
    rfl
  obtain ⟨s, hs⟩ : ∃ s, s = rowR H RS.nil xs := ⟨_, rfl⟩
  have hsn : rowR H RS.nil (xs ++ [x]) = stepR H s x := by rw [rowR_snoc, hs]
  rw [← hs] at e1 hS hlen hfs hxc hab
  have il : ∀ ns a i, isLst (rng ns a i ++ tail2 tl xs s.as) (.c (2 + tl.length)) = true := fun ns a i => by
    unfold isLst; simp only [t2_d]
  have il2 : ∀ ns a i xs, isLst (rng ns a i ++ tail2 tl xs s.as) (.c (3 + tl.length)) = true := fun ns a i xs => by
    unfold isLst; simp only [t2_t]
  have ap1 : ∀ ns a i, gAppend (.c (2 + tl.length)) [.p x.enc] (rng ns a i ++ tail2 tl xs s.as) = .ok (.p .non) (rng ns a i ++ tail2 tl (xs ++ [x]) s.as) := fun ns a i => by
    unfold gAppend
    simp only [t2_d]
    rw [if_pos (by simp; omega)]
    have := t2_sd ns a i tl xs (xs ++ [x]) s.as
    rw [List.map_append] at this
    simp only [List.map_cons, List.map_nil] at this
    rw [this]
  have ap2 : ∀ ns a i (b : Ans), gAppend (.c (3 + tl.length)) [.p b.enc] (rng ns a i ++ tail2 tl (xs ++ [x]) s.as) = .ok (.p .non) (rng ns a i ++ tail2 tl (xs ++ [x]) (s.as ++ [b])) := fun ns a i b => by
    unfold gAppend
    simp only [t2_t]
    rw [if_pos (by simp; omega)]
    have := t2_st ns a i tl (xs ++ [x]) s.as (s.as ++ [b])
    rw [List.map_append] at this
    simp only [List.map_cons, List.map_nil] at this
    rw [this]
  have gl : ∀ ns a i, gIx (.c (2 + tl.length)) (.p (.int (-1))) (rng ns a i ++ tail2 tl (xs ++ [x]) s.as) = .ok (.p x.enc) (rng ns a i ++ tail2 tl (xs ++ [x]) s.as) := fun ns a i => by
    rw [gIx_c (t2_d ns a i tl (xs ++ [x]) s.as)]
    have : atI ((xs ++ [x]).map fun x => S.p x.enc) (-1) = some (.p x.enc) := by
      rw [List.map_append]; exact Q.atI_last _ _
    rw [this]
  have ll : ∀ ns a i b, gLen [.c (2 + tl.length)] (rng ns a i ++ tail2 tl (xs ++ [x]) b) = .ok (.p (.int ((s.as.length + 1 : Nat) : Int))) (rng ns a i ++ tail2 tl (xs ++ [x]) b) := fun ns a i b => by
    rw [gLen_c (t2_d ns a i tl (xs ++ [x]) b)]
    simp [hlen]
  have hdo := fun st : Store => law_do_ok (st := st) hH hS hxo hxc a f
  have hfl := findings_len H s.bs (doneWith H s.bs x) x
  refine ⟨x, ns1, a1, i1, (doneWith H s.bs x).answer, findingsOf H s.bs (doneWith H s.bs x) x, some (.p (.lst (A.map Dd.enc))), n1, hxo, by rw [← hs]; exact hxc, ?_⟩
  rw [hsn, ← hs]
  simp [evL, hab, il, e1, gx, ap1, gl, hdo, il2, ap2]
  rw [comp0 (enc := Fd.enc) (f := fun f => encNF (((s.as.length + 1 : Nat) : Int), f)) (xs := findingsOf H s.bs (doneWith H s.bs x) x) (st1 := rng ns1 a1 i1 ++ tail2 tl (xs ++ [x]) (s.as ++ [(doneWith H s.bs x).answer]))]
  rotate_left
  · simp
  · omega
  · intro fd _
    exact ⟨_, rfl, by simp [ll, encNF]⟩
  have hsz : s.fs.length + (findingsOf H s.bs (doneWith H s.bs x) x).length ≤ 16777216 := by omega
  simp [hsz, stepR, Function.comp_def]
/-- what is looked at behind -/
theorem check_ok {H : HD} (hH : H.ok) {s : RS} (hS : Std H s.bs) (xs : List Dd) (hxl : xs.length = s.as.length) (hasl : s.as.length ≤ 1000) (a : Ans) (f : List Fd) (n : Nat) (st : Store) (hr : RecAt st n H s) (z1 z8 z9 z11 z12 z13 : Option S) (sc : List Int) :
    ∃ more, (sSeq (sIf (eOr (eBin (gEqD true) (eProp 14 g_Record_bookings (eVar 10)) (eCallB gTuple (aCons (eBin gIx (eVar 4) (eC (.str "rows"))) aNil))) (eOr (eBin (gEqD true) (eProp 14 g_Record_told (eVar 10)) (eVar 6)) (eBin (gEqD true) (eProp 14 g_Record_found (eVar 10)) (eVar 7)))) (sRet (eC (.bl false))) sNext) (sSeq (sIf (eBin (gEqD true) (eComp fzL (iSeq (eFrz (eProp 14 g_Record_told (eVar 10)))) (.one 13) (([("_law_one", 13)] : List (PySem.Str × Nat)).map (·.2)) tYesQ (nEmit (eIsT "bool" (eVar 13)))) (eComp fzL (iSeq (eVar 6)) (.one 13) (([("_law_one", 13)] : List (PySem.Str × Nat)).map (·.2)) tYesQ (nEmit (eIsT "bool" (eVar 13))))) (sRet (eC (.bl false))) sNext) (sSeq (sIf (eOr (eBin (gEqD true) (eLenO 14 g_Record___len__ (eVar 10)) (eCallB gLen (aCons (eVar 5) aNil))) (eBin (gEqD true) (eCall 1 g_plan (aCons (eVar 10) aNil)) (eCall 2 g__law_plan (aCons (eVar 2) (aCons (eBin gIx (eVar 4) (eC (.str "rows"))) aNil))))) (sRet (eC (.bl false))) sNext) (sSeq (sExpr (eMt isLst gAppend (eProp 14 g_Record_told (eVar 10)) (aCons (eC .non) aNil))) (sSeq (sExpr (eMt isLst gClear (eProp 14 g_Record_found (eVar 10)) aNil)) (sExpr (eMt isLst gClear (eCall 1 g_plan (aCons (eVar 10) aNil)) aNil))))))) [some (.p (.scr sc)), z1, some (.p H.encT), some (.p H.enc), some (.p (encSt s.bs a f)), some (.p (.lst (xs.map Dd.enc))), some (.p (.lst (s.as.map Ans.enc))), some (.p (.lst (s.fs.map encNF))), z8, z9, some (.c n), z11, z12, z13] st =
      .ok (.nx [some (.p (.scr sc)), z1, some (.p H.encT), some (.p H.enc), some (.p (encSt s.bs a f)), some (.p (.lst (xs.map Dd.enc))), some (.p (.lst (s.as.map Ans.enc))), some (.p (.lst (s.fs.map encNF))), z8, z9, some (.c n), z11, z12, z13]) (st ++ more) := by
  have hB := fun st : Store => (⟨_, dataOf_enc st (Tup.mk s.bs) (by decide)⟩ : ∃ d, dataOf st (.p (.tup (s.bs.map Bk.enc))) = some d)
  have c1 : ∀ st : Store, gEqD true (.p (.tup (s.bs.map Bk.enc))) (.p (.tup (s.bs.map Bk.enc))) st = .ok (.p (.bl false)) st := fun st => by
    obtain ⟨d, h⟩ := hB st
    exact ne_same h h
  -- what was told
  obtain ⟨s1, hs1⟩ : ∃ s1, s1 = st ++ [.lst ((s.as.map Ans.enc).map S.p)] := ⟨_, rfl⟩
  have r1 : RecAt s1 n H s := by rw [hs1]; exact hr.more _
  have t1 : g_Record_told [.c n] st = .ok (.c st.length) s1 := by rw [hs1]; exact told_ok hr
  have c2 : gEqD true (.c st.length) (.p (.lst (s.as.map Ans.enc))) s1 = .ok (.p (.bl false)) s1 :=
    ne_same (d := .list (s.as.map Ans.dat)) (by rw [dataOf_cell (ps := s.as.map Ans.enc) (by rw [hs1]; simp)]; exact ans_data _) (ans_data _)
  obtain ⟨s2, hs2⟩ : ∃ s2, s2 = s1 ++ [.lst ((s.fs.map encNF).map S.p)] := ⟨_, rfl⟩
  have r2 : RecAt s2 n H s := by rw [hs2]; exact r1.more _
  have t2 : g_Record_found [.c n] s1 = .ok (.c s1.length) s2 := by rw [hs2]; exact found_ok r1
  have c3 : gEqD true (.c s1.length) (.p (.lst (s.fs.map encNF))) s2 = .ok (.p (.bl false)) s2 := by
    obtain ⟨d, h⟩ := nf_data (st := s2) s.fs
    exact ne_same (by rw [dataOf_cell (ps := s.fs.map encNF) (by rw [hs2]; simp)]; exact h) h
  -- the kinds
  obtain ⟨s3, hs3⟩ : ∃ s3, s3 = s2 ++ [.lst ((s.as.map Ans.enc).map S.p)] := ⟨_, rfl⟩
  have t3 : g_Record_told [.c n] s2 = .ok (.c s2.length) s3 := by rw [hs3]; exact told_ok r2
  obtain ⟨s4, hs4⟩ : ∃ s4, s4 = s2 ++ [.dead] := ⟨_, rfl⟩
  have r4 : RecAt s4 n H s := by rw [hs4]; exact r2.more _
  have fz : frzS (.c s2.length) s3 = .ok (.p (.lst (s.as.map Ans.enc))) s4 := by
    rw [hs3, hs4, frzS_last, pureSs_map]
    rfl
  have ty : ∀ (x : Ans) (st : Store), ∃ b, eIsT "bool" (eVar 13) [some (.p (.scr sc)), z1, some (.p H.encT), some (.p H.enc), some (.p (encSt s.bs a f)), some (.p (.lst (xs.map Dd.enc))), some (.p (.lst (s.as.map Ans.enc))), some (.p (.lst (s.fs.map encNF))), z8, z9, some (.c n), z11, z12, some (.p x.enc)] st = .ok (.p (.bl b)) st := fun x st => by
    cases x <;> simp [Ans.enc]
  have tyb : ∀ (x : Ans) (st : Store), eIsT "bool" (eVar 13) [some (.p (.scr sc)), z1, some (.p H.encT), some (.p H.enc), some (.p (encSt s.bs a f)), some (.p (.lst (xs.map Dd.enc))), some (.p (.lst (s.as.map Ans.enc))), some (.p (.lst (s.fs.map encNF))), z8, z9, some (.c n), z11, z12, some (.p x.enc)] st = .ok (.p (.bl (match x with
    | .bl _ => true
    | _ => false))) st := fun x st => by
    cases x <;> simp [Ans.enc]
  obtain ⟨kd, hkd⟩ : ∃ kd : Ans → Bool, kd = fun x => match x with
    | .bl _ => true
    | _ => false := ⟨_, rfl⟩
  have hl : s.as.length ≤ 16777216 := by omega
  have cA : eComp fzL (iSeq (eFrz (eProp 14 g_Record_told (eVar 10)))) (.one 13) [13] tYesQ (nEmit (eIsT "bool" (eVar 13))) [some (.p (.scr sc)), z1, some (.p H.encT), some (.p H.enc), some (.p (encSt s.bs a f)), some (.p (.lst (xs.map Dd.enc))), some (.p (.lst (s.as.map Ans.enc))), some (.p (.lst (s.fs.map encNF))), z8, z9, some (.c n), z11, z12, z13] s2 = .ok (.p (.lst ((s.as.map kd).map P.bl))) s4 := by
    rw [comp0 (enc := Ans.enc) (f := fun x => .bl (kd x)) (xs := s.as) (st1 := s4)]
    · simp [Function.comp_def]
    · obtain ⟨m, hm, _, _⟩ := r2.fld
      simp [hm, t3, fz, Function.comp_def]
    · exact hl
    · intro x _
      exact ⟨_, rfl, by rw [hkd]; exact tyb x s4⟩
  have cB : eComp fzL (iSeq (eVar 6)) (.one 13) [13] tYesQ (nEmit (eIsT "bool" (eVar 13))) [some (.p (.scr sc)), z1, some (.p H.encT), some (.p H.enc), some (.p (encSt s.bs a f)), some (.p (.lst (xs.map Dd.enc))), some (.p (.lst (s.as.map Ans.enc))), some (.p (.lst (s.fs.map encNF))), z8, z9, some (.c n), z11, z12, z13] s4 = .ok (.p (.lst ((s.as.map kd).map P.bl))) s4 := by
    rw [comp0 (enc := Ans.enc) (f := fun x => .bl (kd x)) (xs := s.as) (st1 := s4)]
    · simp [Function.comp_def]
    · simp [Function.comp_def]
    · exact hl
    · intro x _
      exact ⟨_, rfl, by rw [hkd]; exact tyb x s4⟩
  have c4 : gEqD true (.p (.lst ((s.as.map kd).map P.bl))) (.p (.lst ((s.as.map kd).map P.bl))) s4 = .ok (.p (.bl false)) s4 := by
    obtain ⟨d, h⟩ := bools_data (st := s4) (s.as.map kd)
    exact ne_same h h
  have cL : eLenO 14 g_Record___len__ (eVar 10) [some (.p (.scr sc)), z1, some (.p H.encT), some (.p H.enc), some (.p (encSt s.bs a f)), some (.p (.lst (xs.map Dd.enc))), some (.p (.lst (s.as.map Ans.enc))), some (.p (.lst (s.fs.map encNF))), z8, z9, some (.c n), z11, z12, z13] s4 = .ok (.p (.int s.as.length)) s4 := by
    obtain ⟨m, hm, _, _⟩ := r4.fld
    unfold eLenO
    simp [hm, rlen_ok r4]
    omega
  -- the plans
  obtain ⟨s5, hs5⟩ : ∃ s5, s5 = s4 ++ [.lst ((planF H s.bs).map fun r => S.p (.lst (r.map encOI)))] := ⟨_, rfl⟩
  have t5 : g_plan [.c n] s4 = .ok (.c s4.length) s5 := by
    obtain ⟨m, hm, _, _⟩ := r4.r
    rw [hs5]; exact plan_ok hH (hS.fits hH) hm
  have r5 : RecAt s5 n H s := by rw [hs5]; exact r4.more _
  obtain ⟨s6, hs6⟩ : ∃ s6, s6 = planS s5 H H.days.toNat fun d p => foldG d p s.bs none := ⟨_, rfl⟩
  have t6 : g__law_plan [.p H.encT, .p (.lst (s.bs.map Bk.enc))] s5 = .ok (.c s5.length) s6 := by rw [hs6]; exact law_plan_ok hH hS
  have r6 : RecAt s6 n H s := by rw [hs6]; exact r5.more _
  have c5 : gEqD true (.c s4.length) (.c s5.length) s6 = .ok (.p (.bl false)) s6 := by
    refine ne_same (d := planD (planF H s.bs)) ?_ ?_
    · have : s6[s4.length]? = some (.lst (((planF H s.bs).map fun r => P.lst (r.map encOI)).map S.p)) := by
        rw [hs6]
        unfold planS
        rw [hs5, List.getElem?_append_left (by simp)]
        simp [Function.comp_def]
      rw [dataOf_cell this]
      exact plan_data _
    · have := law_plan_data (st := s5) (H := H) (fun d p => foldG d p s.bs none) (more := []) (planF H s.bs) (by
        unfold planF
        apply List.map_congr_left
        intro d _
        apply List.map_congr_left
        intro p _
        exact (foldG_taker hS.ap).symm)
      rw [List.append_nil] at this
      rw [hs6]; exact this
  -- what is returned is changed
  have t7 := told_ok r6
  obtain ⟨s7, hs7⟩ : ∃ s7, s7 = s6 ++ [.lst ((s.as.map Ans.enc).map S.p ++ [.p .non])] := ⟨_, rfl⟩
  have a7 : gAppend (.c s6.length) [.p .non] (s6 ++ [.lst ((s.as.map Ans.enc).map S.p)]) = .ok (.p .non) s7 := by
    rw [append_last, if_pos (by simp; omega), hs7]
  have r7 : RecAt s7 n H s := by rw [hs7]; exact r6.more _
  have t8 := found_ok r7
  obtain ⟨s8, hs8⟩ : ∃ s8, s8 = s7 ++ [.lst []] := ⟨_, rfl⟩
  have cl8 : gClear (.c s7.length) [] (s7 ++ [.lst ((s.fs.map encNF).map S.p)]) = .ok (.p .non) s8 := by
    rw [hs8]; simp [gClear]
  have r8 : RecAt s8 n H s := by rw [hs8]; exact r7.more _
  have t9 : g_plan [.c n] s8 = .ok (.c s8.length) (s8 ++ [.lst ((planF H s.bs).map fun r => S.p (.lst (r.map encOI)))]) := by
    obtain ⟨m, hm, _, _⟩ := r8.r
    exact plan_ok hH (hS.fits hH) hm
  have cl9 : gClear (.c s8.length) [] (s8 ++ [.lst ((planF H s.bs).map fun r => S.p (.lst (r.map encOI)))]) = .ok (.p .non) (s8 ++ [.lst []]) := by
    simp [gClear]
  have hfin : ∃ more, s8 ++ [.lst []] = st ++ more := by
    rw [hs8, hs7, hs6, hs5, hs4, hs2, hs1]
    unfold planS
    simp only [List.append_assoc]
    exact ⟨_, rfl⟩
  obtain ⟨more, hmore⟩ := hfin
  refine ⟨more, ?_⟩
  rw [← hmore]
  obtain ⟨m0, f0, _, _⟩ := hr.fld
  obtain ⟨m1, f1, _, _⟩ := r1.fld
  obtain ⟨m6, f6, _, _⟩ := r6.fld
  obtain ⟨m7, f7, _, _⟩ := r7.fld
  simp only [List.map_map] at t7 a7 t8 cl8
  simp [f0, f1, bookings_ok hr, c1, t1, c2, t2, c3]
  simp only [List.map_map] at c4 cA cB
  rw [cA]
  simp
  rw [cB]
  simp [c4]
  rw [cL]
  simp [hxl, t5, t6, c5, f6, t7, a7, f7, t8, cl8, t9, cl9]
end QS

set_option Elab.async false
set_option linter.all false
set_option maxRecDepth 100000
set_option maxHeartbeats 8000000
/-! V30: the law about whole records holds. -/
namespace QS
open PySem L2 Q
theorem sFrz_lst {i n : Nat} {f : XS} {env : Q.Env} {st : Store} {ps : List P} (h1 : env[i]? = some (some (.c n))) (h2 : st[n]? = some (.lst (ps.map S.p))) : sFrz i f env st = f (env.set i (some (.p (.lst ps)))) (st.set n .dead) := by
  rw [sFrz_ap, h1]
  simp only [h2, frzC, frzO, pureSs_map, Option.map_some]
theorem two_1 (ns : List Int) (a i : Int) (tl : Store) (c d x : Cell) : (rng ns a i ++ (tl ++ [c, d])).set (3 + tl.length) x = rng ns a i ++ (tl ++ [c, x]) := by
  rw [List.set_append_right _ _ (by simp; omega), rng_len, List.set_append_right _ _ (by omega), show 3 + tl.length - 2 - tl.length = 1 by omega]; rfl
theorem two_0 (ns : List Int) (a i : Int) (tl : Store) (c d x : Cell) : (rng ns a i ++ (tl ++ [c, d])).set (2 + tl.length) x = rng ns a i ++ (tl ++ [x, d]) := by
  rw [List.set_append_right _ _ (by simp), rng_len, List.set_append_right _ _ (by omega), show 2 + tl.length - 2 - tl.length = 0 by omega]; rfl
theorem law_k01_ok (sc : List Int) (hsc : sc.length ≤ 63) : ∃ st, g_law_k01 [.p (.scr sc)] [] = .ok (.p (.bl true)) st := by
  refine ⟨[], ?_⟩
  apply gDef_any
  obtain ⟨a0, e0⟩ := mix_ok sc hsc 1
  obtain ⟨H, tl, ns1, a1, i1, hH, _, _, _, e1, n1⟩ := hall_ok 4 3 (by omega) (by omega) six (List.Sublist.refl _) [] sc a0 0 hsc
  rw [List.append_nil, List.nil_append] at e1
  have e1 : g__law_hall [.c 1, .p (.int 4), .p (.int 3), .p (.lst [.str Wo.cancel.s, .str Wo.firm.s, .str Wo.hold.s, .str Wo.lapse.s, .str Wo.longer.s, .str Wo.move.s])] (rng sc a0 0) = .ok (.p H.encT) (rng ns1 a1 i1 ++ tl) := e1
  have d0 : rng ns1 a1 i1 ++ (tl ++ [Cell.lst [], Cell.lst []]) = rng ns1 a1 i1 ++ tail2 tl [] [] := rfl
  obtain ⟨r2, ns2, a2, i2, e2, p2, q2, n2⟩ := next_ok ns1 a1 i1 (tail2 tl [] []) 31 (by decide) (by decide) n1
  have w2 : inWord r2 = true := by simp [inWord]; omega
  -- the turns
  obtain ⟨e, st', h1, xs, ns3, a3, i3, fa, ff, z8, z9, hxl, hR, n3, h2, h3⟩ := forLoop_inv (t := .one 8) (body := (sSeq (sSet 9 (eCall 2 g__law_able (aCons (eVar 2) (aCons (eVar 4) aNil)))) (sSeq (sExpr (eMt isLst gAppend (eVar 5) (aCons (eBin gIx (eVar 9) (eCall 2 g__law_next (aCons (eVar 1) (aCons (eCallB gLen (aCons (eVar 9) aNil)) aNil)))) aNil))) (sSeq (sSet 4 (eCall 3 g__law_do (aCons (eVar 2) (aCons (eVar 4) (aCons (eBin gIx (eVar 5) (eC (.int (-1)))) aNil))))) (sSeq (sExpr (eMt isLst gAppend (eVar 6) (aCons (eBin gIx (eVar 4) (eC (.str "told"))) aNil))) (sSet 7 (eBin gAdd (eVar 7) (eComp fzL (iSeq (eBin gIx (eVar 4) (eC (.str "found")))) (.one 12) (([("_law_finding", 12)] : List (PySem.Str × Nat)).map (·.2)) tYesQ (nEmit (eTup (aCons (eCallB gLen (aCons (eVar 5) aNil)) (aCons (eVar 12) aNil))))))))))))
    (fun k env st' => ∃ xs ns a i fa ff z8 z9, xs.length = k ∧ Row H [] xs ∧ ns.length ≤ 63 ∧ env = evL H (rowR H RS.nil xs).bs fa ff (2 + tl.length) (3 + tl.length) (rowR H RS.nil xs).fs z8 z9 none none none none sc ∧ st' = rng ns a i ++ tail2 tl xs (rowR H RS.nil xs).as)
    (items := (rg r2).map fun i => S.p (.int i)) (env := evL H [] .non [] (2 + tl.length) (3 + tl.length) [] none none none none none none sc) (st := rng ns2 a2 i2 ++ tail2 tl [] []) 0 ⟨[], ns2, a2, i2, .non, [], none, none, rfl, trivial, n2, rfl, rfl⟩ (by
      rintro k s env st' hs ⟨xs, ns, a, i, fa, ff, z8, z9, hxl, hR, hn, rfl, rfl⟩
      rw [List.getElem?_map] at hs
      cases hk : (rg r2)[k]? with
      | none => rw [hk] at hs; cases hs
      | some j =>
        rw [hk] at hs
        simp only [Option.map_some, Option.some.injEq] at hs
        subst hs
        have hkl : k < 31 := by
          have := (List.getElem?_eq_some_iff.mp hk).1
          rw [rg_len] at this
          omega
        obtain ⟨x, ns', ra', ri', a', f', z9', n', hxo, hxc, ht⟩ := turn_ok hH sc tl xs hR (by omega) fa ff (some (.p (.int j))) z9 none none none none ns a i hn
        refine ⟨_, _, _, by simp [evL], .inl ht, ⟨xs ++ [x], ns', ra', ri', a', f', _, z9', by simp; omega, Row.snoc (s := RS.nil) hR hxo hxc, n', rfl, rfl⟩⟩)
  subst h2 h3
  rw [List.length_map, rg_len, Nat.zero_add] at hxl
  have hxl2 : xs.length ≤ 30 := by omega
  have hS := Std.row hH (Std.nil H) (s := RS.nil) hR
  obtain ⟨s, hs⟩ : ∃ s, s = rowR H RS.nil xs := ⟨_, rfl⟩
  have hlen := rowR_len H xs RS.nil
  simp only [RS.nil, List.length_nil, Nat.zero_add] at hlen
  rw [show (⟨[], [], []⟩ : RS) = RS.nil from rfl] at hlen
  rw [← hs] at h1 hS hlen
  -- frozen
  obtain ⟨S5, hS5⟩ : ∃ S5, S5 = rng ns3 a3 i3 ++ (tl ++ [Cell.dead, Cell.dead]) := ⟨_, rfl⟩
  have g6 := t2_t ns3 a3 i3 tl xs s.as
  have g5 : ((rng ns3 a3 i3 ++ tail2 tl xs s.as).set (3 + tl.length) .dead)[2 + tl.length]? = some (.lst (xs.map fun x => S.p x.enc)) := by
    rw [List.getElem?_set_ne (by omega)]; exact t2_d ns3 a3 i3 tl xs s.as
  have g55 : ((rng ns3 a3 i3 ++ tail2 tl xs s.as).set (3 + tl.length) .dead).set (2 + tl.length) .dead = S5 := by
    rw [hS5]
    unfold tail2
    rw [two_1, two_0]
  have hrep := replay_ok (st := S5) hH (xs := xs) hR (by omega)
  rw [← hs] at hrep
  have hr0 : RecAt (S5 ++ recS H s S5.length) S5.length H s := RecAt.new H s
  -- looked at twice
  obtain ⟨e, st', h4, z11, more, h5, h6⟩ := forLoop_inv (t := .one 11) (body := (sSeq (sIf (eOr (eBin (gEqD true) (eProp 14 g_Record_bookings (eVar 10)) (eCallB gTuple (aCons (eBin gIx (eVar 4) (eC (.str "rows"))) aNil))) (eOr (eBin (gEqD true) (eProp 14 g_Record_told (eVar 10)) (eVar 6)) (eBin (gEqD true) (eProp 14 g_Record_found (eVar 10)) (eVar 7)))) (sRet (eC (.bl false))) sNext) (sSeq (sIf (eBin (gEqD true) (eComp fzL (iSeq (eFrz (eProp 14 g_Record_told (eVar 10)))) (.one 13) (([("_law_one", 13)] : List (PySem.Str × Nat)).map (·.2)) tYesQ (nEmit (eIsT "bool" (eVar 13)))) (eComp fzL (iSeq (eVar 6)) (.one 13) (([("_law_one", 13)] : List (PySem.Str × Nat)).map (·.2)) tYesQ (nEmit (eIsT "bool" (eVar 13))))) (sRet (eC (.bl false))) sNext) (sSeq (sIf (eOr (eBin (gEqD true) (eLenO 14 g_Record___len__ (eVar 10)) (eCallB gLen (aCons (eVar 5) aNil))) (eBin (gEqD true) (eCall 1 g_plan (aCons (eVar 10) aNil)) (eCall 2 g__law_plan (aCons (eVar 2) (aCons (eBin gIx (eVar 4) (eC (.str "rows"))) aNil))))) (sRet (eC (.bl false))) sNext) (sSeq (sExpr (eMt isLst gAppend (eProp 14 g_Record_told (eVar 10)) (aCons (eC .non) aNil))) (sSeq (sExpr (eMt isLst gClear (eProp 14 g_Record_found (eVar 10)) aNil)) (sExpr (eMt isLst gClear (eCall 1 g_plan (aCons (eVar 10) aNil)) aNil))))))))
    (fun k env st' => ∃ z11 more, env = [some (.p (.scr sc)), some (.c 1), some (.p H.encT), some (.p H.enc), some (.p (encSt s.bs fa ff)), some (.p (.lst (xs.map Dd.enc))), some (.p (.lst (s.as.map Ans.enc))), some (.p (.lst (s.fs.map encNF))), z8, z9, some (.c S5.length), z11, none, none] ∧ st' = (S5 ++ recS H s S5.length) ++ more)
    (items := (rg 2).map fun i => S.p (.int i)) (env := [some (.p (.scr sc)), some (.c 1), some (.p H.encT), some (.p H.enc), some (.p (encSt s.bs fa ff)), some (.p (.lst (xs.map Dd.enc))), some (.p (.lst (s.as.map Ans.enc))), some (.p (.lst (s.fs.map encNF))), z8, z9, some (.c S5.length), none, none, none]) (st := S5 ++ recS H s S5.length) 0 ⟨none, [], rfl, by simp⟩ (by
      rintro k s' env st' hs' ⟨z11, more, rfl, rfl⟩
      rw [List.getElem?_map] at hs'
      cases hk : (rg 2)[k]? with
      | none => rw [hk] at hs'; cases hs'
      | some j =>
        rw [hk] at hs'
        simp only [Option.map_some, Option.some.injEq] at hs'
        subst hs'
        obtain ⟨more2, hc⟩ := check_ok hH hS xs hlen.symm (by omega) fa ff S5.length ((S5 ++ recS H s S5.length) ++ more) (hr0.more more) (some (.c 1)) z8 z9 (some (.p (.int j))) none none sc
        refine ⟨_, _, _, by simp, .inl hc, ⟨_, more ++ more2, rfl, by simp⟩⟩)
  subst h5 h6
  refine ⟨(S5 ++ recS H s S5.length) ++ more, ?_⟩
  have lt : ∀ (x : Cell), (rng ns1 a1 i1 ++ tl ++ [x]).length = 3 + tl.length := fun x => by simp; omega
  simp [runF_ap, f_law_k01, e0, e1, built_ok hH, start_ok, d0, e2, w2, rangeS_rg]
  rw [show 2 + (tl.length + 1) = 3 + tl.length by omega]
  simp only [evL, List.map_cons, List.map_nil, lit_told, lit_found] at h1
  rw [h1]
  simp only [R.bind_ok, thenS_nx]
  rw [sFrz_lst (n := 3 + tl.length) (ps := s.as.map Ans.enc) rfl (by rw [g6]; simp [Function.comp_def])]
  rw [sFrz_lst (n := 2 + tl.length) (ps := xs.map Dd.enc) rfl (by rw [g5]; simp [Function.comp_def])]
  rw [g55]
  have w22 : inWord 2 = true := by decide
  have rg2 : rangeS 0 2 = (rg 2).map fun i => S.p (.int i) := rangeS_rg 2
  simp only [List.map_cons, List.map_nil, lit_rows] at h4
  simp [hrep, w22, rg2]
  rw [h4]
  simp
end QS

set_option Elab.async false
set_option linter.all false
set_option maxRecDepth 100000
set_option maxHeartbeats 4000000
namespace Zk01
open PySem L2 Q QS PySem.Spec PyProof.Rows
structure Tx (P : Program) (w : World) (K : PySem.W.Frag) (mg : PySem.Str → Option Value) (C : QC) where
  hC : C.K = K
  hP : C.prog = P
  hw : C.w = w
  n_all : mg "all" = none
  n_any : mg "any" = none
  n_bool : mg "bool" = none
  n_dict : mg "dict" = none
  n_enumerate : mg "enumerate" = none
  n_int : mg "int" = none
  n_isinstance : mg "isinstance" = none
  n_len : mg "len" = none
  n_list : mg "list" = none
  n_max : mg "max" = none
  n_min : mg "min" = none
  n_range : mg "range" = none
  n_set : mg "set" = none
  n_sorted : mg "sorted" = none
  n_str : mg "str" = none
  n_tuple : mg "tuple" = none
  c_ASK : GlP K mg C "ASK" c_ASK
  c_CANCEL : GlP K mg C "CANCEL" c_CANCEL
  c_FIRM : GlP K mg C "FIRM" c_FIRM
  c_HOLD : GlP K mg C "HOLD" c_HOLD
  c_LAPSE : GlP K mg C "LAPSE" c_LAPSE
  c_LONGER : GlP K mg C "LONGER" c_LONGER
  c_MOST_DAYS : GlP K mg C "MOST_DAYS" c_MOST_DAYS
  c_MOST_PARTS : GlP K mg C "MOST_PARTS" c_MOST_PARTS
  c_MOVE : GlP K mg C "MOVE" c_MOVE
  c_POINTS : GlP K mg C "POINTS" c_POINTS
  c_SIZES : GlP K mg C "SIZES" c_SIZES
  c_WORDS : GlP K mg C "WORDS" c_WORDS
  d_is_integer : DefAt K mg "is_integer" s_is_integer ["value"]
  d_is_between : DefAt K mg "is_between" s_is_between ["value", "least", "most"]
  d_are_widths : DefAt K mg "are_widths" s_are_widths ["value", "parts"]
  d_are_words : DefAt K mg "are_words" s_are_words ["value"]
  d_is_word_of : DefAt K mg "is_word_of" s_is_word_of ["point", "value"]
  d_look_at_rule : DefAt K mg "look_at_rule" s_look_at_rule ["rule"]
  d_is_asked : DefAt K mg "is_asked" s_is_asked ["hall", "value"]
  d_is_deed : DefAt K mg "is_deed" s_is_deed ["hall", "value"]
  d_cells_of : DefAt K mg "cells_of" s_cells_of ["booking"]
  d_do_share : DefAt K mg "do_share" s_do_share ["one", "other", "width", "other_width"]
  d_do_clash : DefAt K mg "do_clash" s_do_clash ["one", "other"]
  d_clashes : DefAt K mg "clashes" s_clashes ["booking", "others"]
  d_is_free : DefAt K mg "is_free" s_is_free ["booking", "others"]
  d_does_suit : DefAt K mg "does_suit" s_does_suit ["booking", "others"]
  d_asked_at : DefAt K mg "asked_at" s_asked_at ["deed", "start"]
  d_starts_for : DefAt K mg "starts_for" s_starts_for ["hall", "width"]
  d_suiting : DefAt K mg "suiting" s_suiting ["hall", "deed", "bookings"]
  d_let_starts : DefAt K mg "let_starts" s_let_starts ["hall", "deed", "bookings"]
  d_gap_of : DefAt K mg "gap_of" s_gap_of ["hall", "deed", "start", "bookings"]
  d_given_of : DefAt K mg "given_of" s_given_of ["hall", "deed", "starts", "bookings"]
  d_counting : DefAt K mg "counting" s_counting ["hall", "deed", "bookings"]
  d_start_given : DefAt K mg "start_given" s_start_given ["hall", "deed", "bookings"]
  d_taker : DefAt K mg "taker" s_taker ["bookings", "day", "part"]
  d_can_be : DefAt K mg "can_be" s_can_be ["hall", "bookings", "deed"]
  d_others_of : DefAt K mg "others_of" s_others_of ["bookings", "own"]
  d_is_let_there : DefAt K mg "is_let_there" s_is_let_there ["hall", "booking", "others"]
  d_with_booking : DefAt K mg "with_booking" s_with_booking ["bookings", "own"]
  q_Done___init__ : Addr
  d_Done___init__ : MetAt K "__init__" "Done.__init__" s_Done___init__ q_Done___init__ ["self", "answer", "bookings", "own"]
  d_done_with : DefAt K mg "done_with" s_done_with ["hall", "bookings", "deed"]
  d_has_room : DefAt K mg "has_room" s_has_room ["hall", "rows", "laid"]
  d_refusal_findings : DefAt K mg "refusal_findings" s_refusal_findings ["hall", "deed", "bookings"]
  d_findings_of : DefAt K mg "findings_of" s_findings_of ["hall", "deed", "bookings", "done"]
  d_led_to : DefAt K mg "led_to" s_led_to ["hall", "bookings", "deed"]
  q_Record_take_in : Addr
  d_Record_take_in : MetAt K "take_in" "Record.take_in" s_Record_take_in q_Record_take_in ["self", "deed", "done"]
  q_Record___init__ : Addr
  d_Record___init__ : MetAt K "__init__" "Record.__init__" s_Record___init__ q_Record___init__ ["self", "hall"]
  d_replay : DefAt K mg "replay" s_replay ["hall", "deeds"]
  d_first_at : DefAt K mg "first_at" s_first_at ["bookings", "day", "part"]
  d_plan : DefAt K mg "plan" s_plan ["record"]
  d__law_mix : DefAt K mg "_law_mix" s__law_mix ["_law_script", "_law_seed"]
  d__law_next : DefAt K mg "_law_next" s__law_next ["_law_h", "_law_bound"]
  d__law_rule : DefAt K mg "_law_rule" s__law_rule ["_law_h"]
  d__law_hall : DefAt K mg "_law_hall" s__law_hall ["_law_h", "_law_parts", "_law_days", "_law_some"]
  q_Hall___init__ : Addr
  d_Hall___init__ : MetAt K "__init__" "Hall.__init__" s_Hall___init__ q_Hall___init__ ["self", "parts", "days", "widths", "longest", "rule", "words"]
  d__law_built : DefAt K mg "_law_built" s__law_built ["_law_t"]
  d__law_every : DefAt K mg "_law_every" s__law_every ["_law_t"]
  d__law_cells : DefAt K mg "_law_cells" s__law_cells ["_law_row_here"]
  d__law_clash : DefAt K mg "_law_clash" s__law_clash ["_law_one", "_law_two"]
  d__law_free : DefAt K mg "_law_free" s__law_free ["_law_row_here", "_law_rows"]
  d__law_suits : DefAt K mg "_law_suits" s__law_suits ["_law_row_here", "_law_rows"]
  d__law_row : DefAt K mg "_law_row" s__law_row ["_law_deed", "_law_start_here"]
  d__law_suiting : DefAt K mg "_law_suiting" s__law_suiting ["_law_t", "_law_deed", "_law_rows"]
  d__law_gap : DefAt K mg "_law_gap" s__law_gap ["_law_t", "_law_deed", "_law_start_here", "_law_rows"]
  d__law_let : DefAt K mg "_law_let" s__law_let ["_law_t", "_law_deed", "_law_rows"]
  d__law_given : DefAt K mg "_law_given" s__law_given ["_law_t", "_law_deed", "_law_rows"]
  d__law_taker : DefAt K mg "_law_taker" s__law_taker ["_law_rows", "_law_deed"]
  d__law_may : DefAt K mg "_law_may" s__law_may ["_law_t", "_law_rows", "_law_deed"]
  d__law_nearer : DefAt K mg "_law_nearer" s__law_nearer ["_law_deed", "_law_rows"]
  d__law_fits : DefAt K mg "_law_fits" s__law_fits ["_law_t", "_law_left", "_law_laid"]
  d__law_change : DefAt K mg "_law_change" s__law_change ["_law_t", "_law_rows", "_law_deed"]
  d__law_do : DefAt K mg "_law_do" s__law_do ["_law_t", "_law_c", "_law_deed"]
  d__law_able : DefAt K mg "_law_able" s__law_able ["_law_t", "_law_c"]
  d__law_start : DefAt K mg "_law_start" s__law_start []
  d__law_plan : DefAt K mg "_law_plan" s__law_plan ["_law_t", "_law_rows"]
  q_Record___len__ : Addr
  d_Record___len__ : MetAt K "__len__" "Record.__len__" s_Record___len__ q_Record___len__ ["self"]
  q_Record_bookings : Addr
  d_Record_bookings : MetAt K "bookings" "Record.bookings" s_Record_bookings q_Record_bookings ["self"]
  q_Record_found : Addr
  d_Record_found : MetAt K "found" "Record.found" s_Record_found q_Record_found ["self"]
  q_Record_told : Addr
  d_Record_told : MetAt K "told" "Record.told" s_Record_told q_Record_told ["self"]
  d_law : DefAt K mg "law" s_law ["_law_script"]
  q_Hall_parts : Addr
  d_Hall_parts : MetAt K "parts" "Hall.parts" s_Hall_parts q_Hall_parts ["self"]
  q_Hall_days : Addr
  d_Hall_days : MetAt K "days" "Hall.days" s_Hall_days q_Hall_days ["self"]
  q_Hall_widths : Addr
  d_Hall_widths : MetAt K "widths" "Hall.widths" s_Hall_widths q_Hall_widths ["self"]
  q_Hall_longest : Addr
  d_Hall_longest : MetAt K "longest" "Hall.longest" s_Hall_longest q_Hall_longest ["self"]
  q_Hall_rule : Addr
  d_Hall_rule : MetAt K "rule" "Hall.rule" s_Hall_rule q_Hall_rule ["self"]
  q_Hall_words : Addr
  d_Hall_words : MetAt K "words" "Hall.words" s_Hall_words q_Hall_words ["self"]
  q_Hall_frame : Addr
  d_Hall_frame : MetAt K "frame" "Hall.frame" s_Hall_frame q_Hall_frame ["self"]
  fl_Done_answer : FldOk K C [13] "answer"
  fl_Done_behind : FldOk K C [13] "behind"
  fl_Done_own : FldOk K C [13] "own"
  fl_Record_answers : FldOk K C [14] "answers"
  fl_Record_at : FldOk K C [14] "at"
  fl_Record_place : FldOk K C [14] "place"
  fl_Record_told_findings : FldOk K C [14] "told_findings"
  sc_Hall : SlX.SCls K (C.ca 12)
  cl_Done : Cls K (C.ca 13)
  cl_Record : Cls K (C.ca 14)
  sq_Hall_many_days : Addr
  sl_Hall_many_days : SlX.Slot1 K (C.ca 12) "many_days" sq_Hall_many_days (slPerm 1)
  sq_Hall_many_parts : Addr
  sl_Hall_many_parts : SlX.Slot1 K (C.ca 12) "many_parts" sq_Hall_many_parts (slPerm 0)
  sq_Hall_own_longest : Addr
  sl_Hall_own_longest : SlX.Slot1 K (C.ca 12) "own_longest" sq_Hall_own_longest (slPerm 3)
  sq_Hall_own_widths : Addr
  sl_Hall_own_widths : SlX.Slot1 K (C.ca 12) "own_widths" sq_Hall_own_widths (slPerm 2)
  sq_Hall_points : Addr
  sl_Hall_points : SlX.Slot1 K (C.ca 12) "points" sq_Hall_points (slPerm 4)
  sq_Hall_told_words : Addr
  sl_Hall_told_words : SlX.Slot1 K (C.ca 12) "told_words" sq_Hall_told_words (slPerm 5)
  pr_Record_bookings : PropAt K (C.ca 14) "bookings" q_Record_bookings
  pr_Record_found : PropAt K (C.ca 14) "found" q_Record_found
  pr_Record_told : PropAt K (C.ca 14) "told" q_Record_told
  me_Record_take_in : Meth K (C.ca 14) "take_in" q_Record_take_in
  ln_Record : LenAt K (C.ca 14) q_Record___len__
  mk_Done : Mk K (C.ca 13) q_Done___init__ ∧ mg "Done" = some (.ref (C.ca 13))
  mk_Hall : Mk K (C.ca 12) q_Hall___init__ ∧ mg "Hall" = some (.ref (C.ca 12))
  mk_Record : Mk K (C.ca 14) q_Record___init__ ∧ mg "Record" = some (.ref (C.ca 14))
section
variable {P : Program} {w : World} {K : PySem.W.Frag} {mg : PySem.Str → Option Value} {base : Heap} {C : QC}
theorem sc_is_integer : FnScope ["value"] ["value"] (defScope s_is_integer) := ⟨rfl, rfl, rfl, by decide +kernel, rfl, by decide +kernel, by decide +kernel⟩
theorem F_is_integer (t : Tx P w K mg C) : FS P w K mg base C 1 "is_integer" 1 g_is_integer := fsD t.hC t.hP t.hw t.d_is_integer sc_is_integer fun f0 cdv A outer sh H E ok hr => by
  have S := sc_is_integer
  exact (qss_one (qs_ret (qe_and (qe_isT ok rfl t.n_isinstance rfl t.n_int (by decide +kernel) (qv 0)) (qe_one (qe_not (qe_isT ok rfl t.n_isinstance rfl t.n_bool (by decide +kernel) (qv 0)))))))
theorem sc_is_between : FnScope ["value", "least", "most"] ["value", "least", "most"] (defScope s_is_between) := ⟨rfl, rfl, rfl, by decide +kernel, rfl, by decide +kernel, by decide +kernel⟩
theorem F_is_between (t : Tx P w K mg C) : FS P w K mg base C 2 "is_between" 3 g_is_between := fsD t.hC t.hP t.hw t.d_is_between sc_is_between fun f0 cdv A outer sh H E ok hr => by
  have S := sc_is_between
  exact (qss_one (qs_ret (qe_and (qe_call (F_is_integer t) hr (by decide) rfl (qa_cons (qv 0) qa_nil)) (qe_one (qe_chain op_le op_le rq_le rq_le (qv 1) (qv 0) (qv 2) rfl)))))
theorem sc_are_widths : FnScope ["value", "parts", "width"] ["value", "parts"] (defScope s_are_widths) := ⟨rfl, rfl, rfl, by decide +kernel, rfl, by decide +kernel, by decide +kernel⟩
theorem F_are_widths (t : Tx P w K mg C) : FS P w K mg base C 3 "are_widths" 2 g_are_widths := fsD t.hC t.hP t.hw t.d_are_widths sc_are_widths fun f0 cdv A outer sh H E ok hr => by
  have S := sc_are_widths
  exact (qss_cons (qs_if (qw_pt (qw_or (qb_not (qb_val (qe_isT ok rfl t.n_isinstance rfl t.n_tuple (by decide +kernel) (qv 0)))) (qw_or1 (qb_not (qb_val (qe_callB (cr_all ok.calm) (rq_bools ok fun bs => bs.all id) rfl t.n_all (by decide +kernel) (qa_cons (qe_lc1 (t := (.one 2)) (own := [("width", 2)]) finFz ok S.nd (qi_seq ok (qv 0)) (blkOk_by rfl) (by intro i hi; revert i; decide) (fun s H c cl fp => (pg_name S.nd rfl (by first | exact .inl rfl | exact .inr rfl))) (fun s H c cl fp => qts_nil) (fun s H c cl fp => (qe_call (F_is_between t) hr (by decide) rfl (qa_cons (qv 2) (qa_cons qe_int (qa_cons (qv 1) qa_nil)))))) qa_nil))))))) (qss_one (qs_ret qe_bl)) qss_nil) (qss_one (qs_ret (qe_and (qe_cmp op_gt rq_gt (qe_callB (call_lenQ ok) (rq_len ok) rfl t.n_len PySem.boot_len (qa_cons (qv 0) qa_nil)) qe_int rfl) (qe_one (qe_cmp (op_eqD ok.hu64) (rq_eq ok.hC) (qe_callT call_list_of (rq_list ok) rfl t.n_list (by decide +kernel) (qa_cons (qv 0) qa_nil)) (qe_sortSet ok rfl t.n_sorted rfl t.n_set (qv 0)) rfl))))))
theorem sc_are_words : FnScope ["value", "word"] ["value"] (defScope s_are_words) := ⟨rfl, rfl, rfl, by decide +kernel, rfl, by decide +kernel, by decide +kernel⟩
theorem F_are_words (t : Tx P w K mg C) : FS P w K mg base C 1 "are_words" 1 g_are_words := fsD t.hC t.hP t.hw t.d_are_words sc_are_words fun f0 cdv A outer sh H E ok hr => by
  have S := sc_are_words
  exact (qss_cons (qs_if (qw_pt (qw_or (qb_not (qb_val (qe_isT ok rfl t.n_isinstance rfl t.n_tuple (by decide +kernel) (qv 0)))) (qw_or1 (qb_not (qb_val (qe_callB (cr_all ok.calm) (rq_bools ok fun bs => bs.all id) rfl t.n_all (by decide +kernel) (qa_cons (qe_lc1 (t := (.one 1)) (own := [("word", 1)]) finFz ok S.nd (qi_seq ok (qv 0)) (blkOk_by rfl) (by intro i hi; revert i; decide) (fun s H c cl fp => (pg_name S.nd rfl (by first | exact .inl rfl | exact .inr rfl))) (fun s H c cl fp => qts_nil) (fun s H c cl fp => (qe_and (qe_isT ok.blk rfl t.n_isinstance rfl t.n_str (by decide +kernel) (qv 1)) (qe_one (qe_cmp (op_inQ ok.blk) (rq_in ok.blk false) (qv 1) (qg t.c_WORDS) rfl))))) qa_nil))))))) (qss_one (qs_ret qe_bl)) qss_nil) (qss_one (qs_ret (qe_cmp (op_eqD ok.hu64) (rq_eq ok.hC) (qe_callT call_list_of (rq_list ok) rfl t.n_list (by decide +kernel) (qa_cons (qv 0) qa_nil)) (qe_sortSet ok rfl t.n_sorted rfl t.n_set (qv 0)) rfl))))
theorem sc_is_word_of : FnScope ["point", "value"] ["point", "value"] (defScope s_is_word_of) := ⟨rfl, rfl, rfl, by decide +kernel, rfl, by decide +kernel, by decide +kernel⟩
theorem F_is_word_of (t : Tx P w K mg C) : FS P w K mg base C 1 "is_word_of" 2 g_is_word_of := fsD t.hC t.hP t.hw t.d_is_word_of sc_is_word_of fun f0 cdv A outer sh H E ok hr => by
  have S := sc_is_word_of
  exact (qss_one (qs_ret (qe_and (qe_isT ok rfl t.n_isinstance rfl t.n_str (by decide +kernel) (qv 1)) (qe_one (qe_cmp (op_inQ ok) (rq_in ok false) (qv 1) (qe_ix ok (qg t.c_POINTS) (qv 0) (fun _ _ => rfl)) rfl)))))
theorem sc_look_at_rule : FnScope ["rule", "point"] ["rule"] (defScope s_look_at_rule) := ⟨rfl, rfl, rfl, by decide +kernel, rfl, by decide +kernel, by decide +kernel⟩
theorem F_look_at_rule (t : Tx P w K mg C) : FS P w K mg base C 2 "look_at_rule" 1 g_look_at_rule := fsD t.hC t.hP t.hw t.d_look_at_rule sc_look_at_rule fun f0 cdv A outer sh H E ok hr => by
  have S := sc_look_at_rule
  exact (qss_cons (qs_if (qw_pt (qw_or (qb_not (qb_val (qe_isT ok rfl t.n_isinstance rfl t.n_dict (by decide +kernel) (qv 0)))) (qw_or (qb_cmp (op_neD ok.hu64) (rq_ne ok.hC) (qe_callB (call_lenQ ok) (rq_len ok) rfl t.n_len PySem.boot_len (qa_cons (qv 0) qa_nil)) (qe_callB (call_lenQ ok) (rq_len ok) rfl t.n_len PySem.boot_len (qa_cons (qg t.c_POINTS) qa_nil)) rfl) (qw_or1 (qb_not (qb_val (qe_callB (cr_all ok.calm) (rq_bools ok fun bs => bs.all id) rfl t.n_all (by decide +kernel) (qa_cons (qe_lc1 (t := (.one 1)) (own := [("point", 1)]) finFz ok S.nd (qi_dict ok (qg t.c_POINTS)) (blkOk_by rfl) (by intro i hi; revert i; decide) (fun s H c cl fp => (pg_name S.nd rfl (by first | exact .inl rfl | exact .inr rfl))) (fun s H c cl fp => qts_nil) (fun s H c cl fp => (qe_cmp (op_inQ ok.blk) (rq_in ok.blk false) (qv 1) (qv 0) rfl))) qa_nil)))))))) (qss_one qs_stuck) qss_nil) (qss_one (qs_for (t := (.one 1)) ok PassesOwn.never (qi_dict ok (qg t.c_POINTS)) (pg_name S.nd rfl (by first | exact .inl rfl | exact .inr rfl)) (qss_one (qs_if (qb_not (qb_val (qe_call (F_is_word_of t) hr (by decide) rfl (qa_cons (qv 1) (qa_cons (qe_ix ok (qv 0) (qv 1) (fun _ _ => rfl)) qa_nil))))) (qss_one qs_stuck) qss_nil)))))
theorem sc_is_asked : FnScope ["hall", "value", "word", "width", "day", "length"] ["hall", "value"] (defScope s_is_asked) := ⟨rfl, rfl, rfl, by decide +kernel, rfl, by decide +kernel, by decide +kernel⟩
theorem F_is_asked (t : Tx P w K mg C) : FS P w K mg base C 3 "is_asked" 2 g_is_asked := fsD t.hC t.hP t.hw t.d_is_asked sc_is_asked fun f0 cdv A outer sh H E ok hr => by
  have S := sc_is_asked
  exact (qss_cons (qs_tg (t := (.many [2, 3, 4, 5])) ok (qv 1) (pg_tup ok.calm (pgs_cons (pg_name S.nd rfl (by first | exact .inl rfl | exact .inr rfl)) (pgs_cons (pg_name S.nd rfl (by first | exact .inl rfl | exact .inr rfl)) (pgs_cons (pg_name S.nd rfl (by first | exact .inl rfl | exact .inr rfl)) (pgs_cons (pg_name S.nd rfl (by first | exact .inl rfl | exact .inr rfl)) pgs_nil)))))) (qss_cons (qs_if (qw_pt (qw_or (qb_not (qb_val (qe_call (F_is_between t) hr (by decide) rfl (qa_cons (qv 3) (qa_cons qe_int (qa_cons (qe_slt (c := 12) (i := 0) t.sc_Hall t.sl_Hall_many_parts (by decide) (qv 0)) qa_nil)))))) (qw_or1 (qb_cmp (op_notInQ ok) (rq_in ok true) (qv 3) (qe_slt (c := 12) (i := 2) t.sc_Hall t.sl_Hall_own_widths (by decide) (qv 0)) rfl)))) (qss_one (qs_ret qe_bl)) qss_nil) (qss_one (qs_ret (qe_and (qe_call (F_is_between t) hr (by decide) rfl (qa_cons (qv 5) (qa_cons qe_int (qa_cons (qe_slt (c := 12) (i := 3) t.sc_Hall t.sl_Hall_own_longest (by decide) (qv 0)) qa_nil)))) (qe_one (qe_call (F_is_between t) hr (by decide) rfl (qa_cons (qv 4) (qa_cons qe_int (qa_cons (qe_op op_sub rq_sub (qe_slt (c := 12) (i := 1) t.sc_Hall t.sl_Hall_many_days (by decide) (qv 0)) (qv 5)) qa_nil))))))))))
theorem sc_is_deed : FnScope ["hall", "value", "word"] ["hall", "value"] (defScope s_is_deed) := ⟨rfl, rfl, rfl, by decide +kernel, rfl, by decide +kernel, by decide +kernel⟩
theorem F_is_deed (t : Tx P w K mg C) : FS P w K mg base C 4 "is_deed" 2 g_is_deed := fsD t.hC t.hP t.hw t.d_is_deed sc_is_deed fun f0 cdv A outer sh H E ok hr => by
  have S := sc_is_deed
  exact (qss_cons (qs_if (qw_pt (qw_or (qb_not (qb_val (qe_isT ok rfl t.n_isinstance rfl t.n_tuple (by decide +kernel) (qv 1)))) (qw_or (qb_cmp (op_eqD ok.hu64) (rq_eq ok.hC) (qe_callB (call_lenQ ok) (rq_len ok) rfl t.n_len PySem.boot_len (qa_cons (qv 1) qa_nil)) qe_int rfl) (qw_or1 (qb_not (qb_val (qe_isT ok rfl t.n_isinstance rfl t.n_str (by decide +kernel) (qe_ix ok (qv 1) qe_int (fun _ _ => rfl))))))))) (qss_one (qs_ret qe_bl)) qss_nil) (qss_cons (qs_set (i := 2) S.nd rfl (.inl rfl) (qe_ix ok (qv 1) qe_int (fun _ _ => rfl))) (qss_cons (qs_if (qw_pt (qw_or (qb_cmp (op_neD ok.hu64) (rq_ne ok.hC) (qe_mx PySem.F.plainAttrs_dict PySem.F.slot_dict_get PySem.F.type_dict_get (mt_get ok) (rq_get ok) (qg t.c_SIZES) (qa_cons (qv 2) (qa_cons qe_int qa_nil))) (qe_callB (call_lenQ ok) (rq_len ok) rfl t.n_len PySem.boot_len (qa_cons (qv 1) qa_nil)) rfl) (qw_or1 (qw_pt (qw_and (qb_cmp (op_neD ok.hu64) (rq_ne ok.hC) (qv 2) (qg t.c_ASK) rfl) (qw_and1 (qb_cmp (op_notInQ ok) (rq_in ok true) (qv 2) (qe_slt (c := 12) (i := 5) t.sc_Hall t.sl_Hall_told_words (by decide) (qv 0)) rfl))))))) (qss_one (qs_ret qe_bl)) qss_nil) (qss_cons (qs_if (qb_cmp (op_inQ ok) (rq_in ok false) (qv 2) (qe_tup (qa_cons (qg t.c_ASK) (qa_cons (qg t.c_HOLD) qa_nil))) rfl) (qss_one (qs_ret (qe_call (F_is_asked t) hr (by decide) rfl (qa_cons (qv 0) (qa_cons (qv 1) qa_nil))))) qss_nil) (qss_cons (qs_if (qb_cmp (op_eqD ok.hu64) (rq_eq ok.hC) (qv 2) (qg t.c_LAPSE) rfl) (qss_one (qs_ret qe_bl)) qss_nil) (qss_cons (qs_if (qw_pt (qw_or (qb_not (qb_val (qe_call (F_is_between t) hr (by decide) rfl (qa_cons (qe_ix ok (qv 1) qe_int (fun _ _ => rfl)) (qa_cons qe_int (qa_cons (qe_op op_sub rq_sub (qe_slt (c := 12) (i := 1) t.sc_Hall t.sl_Hall_many_days (by decide) (qv 0)) qe_int) qa_nil)))))) (qw_or1 (qb_not (qb_val (qe_call (F_is_between t) hr (by decide) rfl (qa_cons (qe_ix ok (qv 1) qe_int (fun _ _ => rfl)) (qa_cons qe_int (qa_cons (qe_op op_sub rq_sub (qe_slt (c := 12) (i := 0) t.sc_Hall t.sl_Hall_many_parts (by decide) (qv 0)) qe_int) qa_nil))))))))) (qss_one (qs_ret qe_bl)) qss_nil) (qss_one (qs_ret (qe_or (qe_cmp (op_neD ok.hu64) (rq_ne ok.hC) (qv 2) (qg t.c_MOVE) rfl) (qe_one (qe_call (F_is_between t) hr (by decide) rfl (qa_cons (qe_ix ok (qv 1) qe_int (fun _ _ => rfl)) (qa_cons qe_int (qa_cons (qe_op op_sub rq_sub (qe_slt (c := 12) (i := 0) t.sc_Hall t.sl_Hall_many_parts (by decide) (qv 0)) qe_int) qa_nil))))))))))))))
theorem sc_cells_of : FnScope ["booking", "day", "part", "length", "width", "held", "more", "next_one"] ["booking"] (defScope s_cells_of) := ⟨rfl, rfl, rfl, by decide +kernel, rfl, by decide +kernel, by decide +kernel⟩
theorem F_cells_of (t : Tx P w K mg C) : FS P w K mg base C 1 "cells_of" 1 g_cells_of := fsD t.hC t.hP t.hw t.d_cells_of sc_cells_of fun f0 cdv A outer sh H E ok hr => by
  have S := sc_cells_of
  exact (qss_cons (qs_tg (t := (.many [1, 2, 3, 4, 5])) ok (qv 0) (pg_tup ok.calm (pgs_cons (pg_name S.nd rfl (by first | exact .inl rfl | exact .inr rfl)) (pgs_cons (pg_name S.nd rfl (by first | exact .inl rfl | exact .inr rfl)) (pgs_cons (pg_name S.nd rfl (by first | exact .inl rfl | exact .inr rfl)) (pgs_cons (pg_name S.nd rfl (by first | exact .inl rfl | exact .inr rfl)) (pgs_cons (pg_name S.nd rfl (by first | exact .inl rfl | exact .inr rfl)) pgs_nil))))))) (qss_one (qs_ret (qe_lc2 (t := (.one 6)) (t1 := (.one 7)) (own := [("more", 6), ("next_one", 7)]) finFz ok S.nd (qi_range1 rfl t.n_range (qv 3)) (blkOk_by rfl) (by intro i hi; revert i; decide) (by intro i hi; revert i; decide) (fun s H c cl fp => (pg_name S.nd rfl (by first | exact .inl rfl | exact .inr rfl))) (fun s H c cl fp => qts_nil) (fun s H c cl fp => (qi_range1 rfl t.n_range (qv 4))) (fun s H c cl fp => (pg_name S.nd rfl (by first | exact .inl rfl | exact .inr rfl))) (fun s H c cl fp => qts_nil) (fun s H c cl fp => (qe_tup (qa_cons (qe_op op_addAll (rq_add ok.blk.hC) (qv 1) (qv 6)) (qa_cons (qe_op op_addAll (rq_add ok.blk.hC) (qv 2) (qv 7)) qa_nil))))))))
theorem sc_do_share : FnScope ["one", "other", "width", "other_width"] ["one", "other", "width", "other_width"] (defScope s_do_share) := ⟨rfl, rfl, rfl, by decide +kernel, rfl, by decide +kernel, by decide +kernel⟩
theorem F_do_share (t : Tx P w K mg C) : FS P w K mg base C 1 "do_share" 4 g_do_share := fsD t.hC t.hP t.hw t.d_do_share sc_do_share fun f0 cdv A outer sh H E ok hr => by
  have S := sc_do_share
  exact (qss_one (qs_ret (qe_and (qe_cmp op_lt rq_lt (qv 0) (qe_op op_addAll (rq_add ok.hC) (qv 1) (qv 3)) rfl) (qe_one (qe_cmp op_lt rq_lt (qv 1) (qe_op op_addAll (rq_add ok.hC) (qv 0) (qv 2)) rfl)))))
theorem sc_do_clash : FnScope ["one", "other", "is_near"] ["one", "other"] (defScope s_do_clash) := ⟨rfl, rfl, rfl, by decide +kernel, rfl, by decide +kernel, by decide +kernel⟩
theorem F_do_clash (t : Tx P w K mg C) : FS P w K mg base C 2 "do_clash" 2 g_do_clash := fsD t.hC t.hP t.hw t.d_do_clash sc_do_clash fun f0 cdv A outer sh H E ok hr => by
  have S := sc_do_clash
  exact (qss_cons (qs_set (i := 2) S.nd rfl (.inl rfl) (qe_or (qe_cmp (op_eqD ok.hu64) (rq_eq ok.hC) (qe_op op_addAll (rq_add ok.hC) (qe_ix ok (qv 0) qe_int (fun _ _ => rfl)) (qe_ix ok (qv 0) qe_int (fun _ _ => rfl))) (qe_ix ok (qv 1) qe_int (fun _ _ => rfl)) rfl) (qe_one (qe_cmp (op_eqD ok.hu64) (rq_eq ok.hC) (qe_op op_addAll (rq_add ok.hC) (qe_ix ok (qv 1) qe_int (fun _ _ => rfl)) (qe_ix ok (qv 1) qe_int (fun _ _ => rfl))) (qe_ix ok (qv 0) qe_int (fun _ _ => rfl)) rfl)))) (qss_cons (qs_if (qw_pt (qw_or (qb_not (qb_val (qv 2))) (qw_or1 (qb_cmp (op_eqD ok.hu64) (rq_eq ok.hC) (qe_tup (qa_cons (qe_ix ok (qv 0) qe_int (fun _ _ => rfl)) (qa_cons (qe_ix ok (qv 0) qe_int (fun _ _ => rfl)) qa_nil))) (qe_tup (qa_cons (qe_ix ok (qv 1) qe_int (fun _ _ => rfl)) (qa_cons (qe_ix ok (qv 1) qe_int (fun _ _ => rfl)) qa_nil))) rfl)))) (qss_one (qs_ret qe_bl)) qss_nil) (qss_one (qs_ret (qe_call (F_do_share t) hr (by decide) rfl (qa_cons (qe_ix ok (qv 0) qe_int (fun _ _ => rfl)) (qa_cons (qe_ix ok (qv 1) qe_int (fun _ _ => rfl)) (qa_cons (qe_ix ok (qv 0) qe_int (fun _ _ => rfl)) (qa_cons (qe_ix ok (qv 1) qe_int (fun _ _ => rfl)) qa_nil)))))))))
theorem sc_clashes : FnScope ["booking", "others", "other"] ["booking", "others"] (defScope s_clashes) := ⟨rfl, rfl, rfl, by decide +kernel, rfl, by decide +kernel, by decide +kernel⟩
theorem F_clashes (t : Tx P w K mg C) : FS P w K mg base C 3 "clashes" 2 g_clashes := fsD t.hC t.hP t.hw t.d_clashes sc_clashes fun f0 cdv A outer sh H E ok hr => by
  have S := sc_clashes
  exact (qss_one (qs_ret (qe_callB (cr_any ok.calm) (rq_bools ok fun bs => bs.any id) rfl t.n_any (by decide +kernel) (qa_cons (qe_lc1 (t := (.one 2)) (own := [("other", 2)]) finFz ok S.nd (qi_seq ok (qv 1)) (blkOk_by rfl) (by intro i hi; revert i; decide) (fun s H c cl fp => (pg_name S.nd rfl (by first | exact .inl rfl | exact .inr rfl))) (fun s H c cl fp => qts_nil) (fun s H c cl fp => (qe_call (F_do_clash t) hr (by decide) rfl (qa_cons (qv 0) (qa_cons (qv 2) qa_nil))))) qa_nil))))
theorem sc_is_free : FnScope ["booking", "others", "taken", "other", "cell"] ["booking", "others"] (defScope s_is_free) := ⟨rfl, rfl, rfl, by decide +kernel, rfl, by decide +kernel, by decide +kernel⟩
theorem F_is_free (t : Tx P w K mg C) : FS P w K mg base C 2 "is_free" 2 g_is_free := fsD t.hC t.hP t.hw t.d_is_free sc_is_free fun f0 cdv A outer sh H E ok hr => by
  have S := sc_is_free
  exact (qss_cons (qs_set (i := 2) S.nd rfl (.inr rfl) (qe_frz (qe_dt2 (t := (.one 3)) (t1 := (.one 4)) (own := [("other", 3), ("cell", 4)]) ok S.nd (qi_seq ok (qv 1)) (blkOk_by rfl) (by intro i hi; revert i; decide) (by intro i hi; revert i; decide) (fun s H c cl fp => (pg_name S.nd rfl (by first | exact .inl rfl | exact .inr rfl))) (fun s H c cl fp => qts_nil) (fun s H c cl fp => (qi_seq ok.blk (qe_call (F_cells_of t) hr (by decide) rfl (qa_cons (qv 3) qa_nil)))) (fun s H c cl fp => (pg_name S.nd rfl (by first | exact .inl rfl | exact .inr rfl))) (fun s H c cl fp => qts_nil) (fun s H c cl fp => (qv 4)) (fun s H c cl fp => qe_bl)))) (qss_one (qs_ret (qe_not (qe_callB (cr_any ok.calm) (rq_bools ok fun bs => bs.any id) rfl t.n_any (by decide +kernel) (qa_cons (qe_lc1 (t := (.one 4)) (own := [("cell", 4)]) finFz ok S.nd (qi_seq ok (qe_call (F_cells_of t) hr (by decide) rfl (qa_cons (qv 0) qa_nil))) (blkOk_by rfl) (by intro i hi; revert i; decide) (fun s H c cl fp => (pg_name S.nd rfl (by first | exact .inl rfl | exact .inr rfl))) (fun s H c cl fp => qts_nil) (fun s H c cl fp => (qe_cmp (op_inQ ok.blk) (rq_in ok.blk false) (qv 4) (qv 2) rfl))) qa_nil))))))
theorem sc_does_suit : FnScope ["booking", "others"] ["booking", "others"] (defScope s_does_suit) := ⟨rfl, rfl, rfl, by decide +kernel, rfl, by decide +kernel, by decide +kernel⟩
theorem F_does_suit (t : Tx P w K mg C) : FS P w K mg base C 4 "does_suit" 2 g_does_suit := fsD t.hC t.hP t.hw t.d_does_suit sc_does_suit fun f0 cdv A outer sh H E ok hr => by
  have S := sc_does_suit
  exact (qss_one (qs_ret (qe_and (qe_call (F_is_free t) hr (by decide) rfl (qa_cons (qv 0) (qa_cons (qv 1) qa_nil))) (qe_one (qe_not (qe_call (F_clashes t) hr (by decide) rfl (qa_cons (qv 0) (qa_cons (qv 1) qa_nil))))))))
theorem sc_asked_at : FnScope ["deed", "start", "word", "width", "day", "length"] ["deed", "start"] (defScope s_asked_at) := ⟨rfl, rfl, rfl, by decide +kernel, rfl, by decide +kernel, by decide +kernel⟩
theorem F_asked_at (t : Tx P w K mg C) : FS P w K mg base C 1 "asked_at" 2 g_asked_at := fsD t.hC t.hP t.hw t.d_asked_at sc_asked_at fun f0 cdv A outer sh H E ok hr => by
  have S := sc_asked_at
  exact (qss_cons (qs_tg (t := (.many [2, 3, 4, 5])) ok (qv 0) (pg_tup ok.calm (pgs_cons (pg_name S.nd rfl (by first | exact .inl rfl | exact .inr rfl)) (pgs_cons (pg_name S.nd rfl (by first | exact .inl rfl | exact .inr rfl)) (pgs_cons (pg_name S.nd rfl (by first | exact .inl rfl | exact .inr rfl)) (pgs_cons (pg_name S.nd rfl (by first | exact .inl rfl | exact .inr rfl)) pgs_nil)))))) (qss_one (qs_ret (qe_tup (qa_cons (qv 4) (qa_cons (qv 1) (qa_cons (qv 5) (qa_cons (qv 3) (qa_cons (qe_cmp (op_eqD ok.hu64) (rq_eq ok.hC) (qv 2) (qg t.c_HOLD) rfl) qa_nil)))))))))
theorem sc_starts_for : FnScope ["hall", "width"] ["hall", "width"] (defScope s_starts_for) := ⟨rfl, rfl, rfl, by decide +kernel, rfl, by decide +kernel, by decide +kernel⟩
theorem F_starts_for (t : Tx P w K mg C) : FS P w K mg base C 1 "starts_for" 2 g_starts_for := fsD t.hC t.hP t.hw t.d_starts_for sc_starts_for fun f0 cdv A outer sh H E ok hr => by
  have S := sc_starts_for
  exact (qss_one (qs_ret (qe_lstRg1 ok rfl t.n_list rfl t.n_range (qe_op op_addAll (rq_add ok.hC) (qe_op op_sub rq_sub (qe_slt (c := 12) (i := 0) t.sc_Hall t.sl_Hall_many_parts (by decide) (qv 0)) (qv 1)) qe_int))))
theorem sc_suiting : FnScope ["hall", "deed", "bookings", "start"] ["hall", "deed", "bookings"] (defScope s_suiting) := ⟨rfl, rfl, rfl, by decide +kernel, rfl, by decide +kernel, by decide +kernel⟩
theorem F_suiting (t : Tx P w K mg C) : FS P w K mg base C 5 "suiting" 3 g_suiting := fsD t.hC t.hP t.hw t.d_suiting sc_suiting fun f0 cdv A outer sh H E ok hr => by
  have S := sc_suiting
  exact (qss_one (qs_ret (qe_lc1 (t := (.one 3)) (own := [("start", 3)]) finFz ok S.nd (qi_seq ok (qe_call (F_starts_for t) hr (by decide) rfl (qa_cons (qv 0) (qa_cons (qe_ix ok (qv 1) qe_int (fun _ _ => rfl)) qa_nil)))) (blkOk_by rfl) (by intro i hi; revert i; decide) (fun s H c cl fp => (pg_name S.nd rfl (by first | exact .inl rfl | exact .inr rfl))) (fun s H c cl fp => (qts_one (qb_val (qe_call (F_does_suit t) hr (by decide) rfl (qa_cons (qe_call (F_asked_at t) hr (by decide) rfl (qa_cons (qv 1) (qa_cons (qv 3) qa_nil))) (qa_cons (qv 2) qa_nil)))))) (fun s H c cl fp => (qv 3)))))
theorem sc_let_starts : FnScope ["hall", "deed", "bookings", "starts", "start"] ["hall", "deed", "bookings"] (defScope s_let_starts) := ⟨rfl, rfl, rfl, by decide +kernel, rfl, by decide +kernel, by decide +kernel⟩
theorem F_let_starts (t : Tx P w K mg C) : FS P w K mg base C 5 "let_starts" 3 g_let_starts := fsD t.hC t.hP t.hw t.d_let_starts sc_let_starts fun f0 cdv A outer sh H E ok hr => by
  have S := sc_let_starts
  exact (qss_cons (qs_set (i := 3) S.nd rfl (.inl rfl) (qe_call (F_starts_for t) hr (by decide) rfl (qa_cons (qv 0) (qa_cons (qe_ix ok (qv 1) qe_int (fun _ _ => rfl)) qa_nil)))) (qss_cons (qs_if (qb_cmp (op_eqD ok.hu64) (rq_eq ok.hC) (qe_ix ok (qe_slt (c := 12) (i := 4) t.sc_Hall t.sl_Hall_points (by decide) (qv 0)) qe_str (fun _ _ => rfl)) qe_str rfl) (qss_one (qs_lc1 (t := (.one 4)) (own := [("start", 4)]) finFz ok S.nd rfl rfl (sw_true rfl rfl rfl rfl) (qi_seq ok (qv 3)) (blkOk_by rfl) (by intro i hi; revert i; decide) (fun s H c cl fp => (pg_name S.nd rfl (by first | exact .inl rfl | exact .inr rfl))) (fun s H c cl fp => (qts_one (qb_cmp (op_eqD ok.blk.hu64) (rq_eq ok.blk.hC) (qe_op op_mod rq_mod (qv 4) (qe_ix ok.blk (qv 1) qe_int (fun _ _ => rfl))) qe_int rfl))) (fun s H c cl fp => (qv 4)))) qss_nil) (qss_cons (qs_if (qb_cmp (op_eqD ok.hu64) (rq_eq ok.hC) (qe_ix ok (qe_slt (c := 12) (i := 4) t.sc_Hall t.sl_Hall_points (by decide) (qv 0)) qe_str (fun _ _ => rfl)) qe_str rfl) (qss_one (qs_ret (qe_lc1 (t := (.one 4)) (own := [("start", 4)]) finFz ok S.nd (qi_seq ok (qv 3)) (blkOk_by rfl) (by intro i hi; revert i; decide) (fun s H c cl fp => (pg_name S.nd rfl (by first | exact .inl rfl | exact .inr rfl))) (fun s H c cl fp => (qts_one (qb_val (qe_call (F_does_suit t) hr (by decide) rfl (qa_cons (qe_call (F_asked_at t) hr (by decide) rfl (qa_cons (qv 1) (qa_cons (qv 4) qa_nil))) (qa_cons (qv 2) qa_nil)))))) (fun s H c cl fp => (qv 4))))) qss_nil) (qss_one (qs_ret (qe_lc1 (t := (.one 4)) (own := [("start", 4)]) finFz ok S.nd (qi_seq ok (qv 3)) (blkOk_by rfl) (by intro i hi; revert i; decide) (fun s H c cl fp => (pg_name S.nd rfl (by first | exact .inl rfl | exact .inr rfl))) (fun s H c cl fp => (qts_one (qb_val (qe_call (F_is_free t) hr (by decide) rfl (qa_cons (qe_call (F_asked_at t) hr (by decide) rfl (qa_cons (qv 1) (qa_cons (qv 4) qa_nil))) (qa_cons (qv 2) qa_nil)))))) (fun s H c cl fp => (qv 4))))))))
theorem sc_gap_of : FnScope ["hall", "deed", "start", "bookings", "word", "width", "day", "length", "first", "last"] ["hall", "deed", "start", "bookings"] (defScope s_gap_of) := ⟨rfl, rfl, rfl, by decide +kernel, rfl, by decide +kernel, by decide +kernel⟩
theorem F_gap_of (t : Tx P w K mg C) : FS P w K mg base C 3 "gap_of" 4 g_gap_of := fsD t.hC t.hP t.hw t.d_gap_of sc_gap_of fun f0 cdv A outer sh H E ok hr => by
  have S := sc_gap_of
  exact (qss_cons (qs_tg (t := (.many [4, 5, 6, 7])) ok (qv 1) (pg_tup ok.calm (pgs_cons (pg_name S.nd rfl (by first | exact .inl rfl | exact .inr rfl)) (pgs_cons (pg_name S.nd rfl (by first | exact .inl rfl | exact .inr rfl)) (pgs_cons (pg_name S.nd rfl (by first | exact .inl rfl | exact .inr rfl)) (pgs_cons (pg_name S.nd rfl (by first | exact .inl rfl | exact .inr rfl)) pgs_nil)))))) (qss_cons (qs_par (i := 8) (j := 9) ok S.nd rfl rfl (by decide) rfl rfl (qv 2) (qe_op op_addAll (rq_add ok.hC) (qv 2) (qv 5)) rfl rfl rfl) (qss_cons (qs_while PassesOwn.never (qw_pt (qw_and (qb_cmp op_gt rq_gt (qv 8) qe_int rfl) (qw_and1 (qb_val (qe_call (F_is_free t) hr (by decide) rfl (qa_cons (qe_tup (qa_cons (qv 6) (qa_cons (qe_op op_sub rq_sub (qv 8) qe_int) (qa_cons (qv 7) (qa_cons qe_int (qa_cons qe_bl qa_nil)))))) (qa_cons (qv 3) qa_nil))))))) (qss_one (qs_aug (i := 8) S.nd rfl (.inl rfl) qe_int ip_sub rq_ipsub))) (qss_cons (qs_while PassesOwn.never (qw_pt (qw_and (qb_cmp op_lt rq_lt (qv 9) (qe_slt (c := 12) (i := 0) t.sc_Hall t.sl_Hall_many_parts (by decide) (qv 0)) rfl) (qw_and1 (qb_val (qe_call (F_is_free t) hr (by decide) rfl (qa_cons (qe_tup (qa_cons (qv 6) (qa_cons (qv 9) (qa_cons (qv 7) (qa_cons qe_int (qa_cons qe_bl qa_nil)))))) (qa_cons (qv 3) qa_nil))))))) (qss_one (qs_aug (i := 9) S.nd rfl (.inl rfl) qe_int ip_add rq_ipadd))) (qss_one (qs_ret (qe_op op_sub rq_sub (qv 9) (qv 8))))))))
theorem sc_given_of : FnScope ["hall", "deed", "starts", "bookings", "start"] ["hall", "deed", "starts", "bookings"] (defScope s_given_of) := ⟨rfl, rfl, rfl, by decide +kernel, rfl, by decide +kernel, by decide +kernel⟩
theorem F_given_of (t : Tx P w K mg C) : FS P w K mg base C 4 "given_of" 4 g_given_of := fsD t.hC t.hP t.hw t.d_given_of sc_given_of fun f0 cdv A outer sh H E ok hr => by
  have S := sc_given_of
  exact (qss_cons (qs_if (qb_cmp (op_eqD ok.hu64) (rq_eq ok.hC) (qe_ix ok (qe_slt (c := 12) (i := 4) t.sc_Hall t.sl_Hall_points (by decide) (qv 0)) qe_str (fun _ _ => rfl)) qe_str rfl) (qss_one (qs_ret (qe_callB (cr_minQ ok) (rq_best ok PySem.W.dataLt) rfl t.n_min (by decide +kernel) (qa_cons (qv 2) qa_nil)))) qss_nil) (qss_cons (qs_if (qb_cmp (op_eqD ok.hu64) (rq_eq ok.hC) (qe_ix ok (qe_slt (c := 12) (i := 4) t.sc_Hall t.sl_Hall_points (by decide) (qv 0)) qe_str (fun _ _ => rfl)) qe_str rfl) (qss_one (qs_ret (qe_callB (cr_maxQ ok) (rq_best ok (fun x y => PySem.W.dataLt y x)) rfl t.n_max (by decide +kernel) (qa_cons (qv 2) qa_nil)))) qss_nil) (qss_one (qs_ret (qe_ix ok (qe_callB (cr_minQ ok) (rq_best ok PySem.W.dataLt) rfl t.n_min (by decide +kernel) (qa_cons (qe_lc1 (t := (.one 4)) (own := [("start", 4)]) finFz ok S.nd (qi_seq ok (qv 2)) (blkOk_by rfl) (by intro i hi; revert i; decide) (fun s H c cl fp => (pg_name S.nd rfl (by first | exact .inl rfl | exact .inr rfl))) (fun s H c cl fp => qts_nil) (fun s H c cl fp => (qe_tup (qa_cons (qe_call (F_gap_of t) hr (by decide) rfl (qa_cons (qv 0) (qa_cons (qv 1) (qa_cons (qv 4) (qa_cons (qv 3) qa_nil))))) (qa_cons (qv 4) qa_nil))))) qa_nil)) qe_int (fun _ _ => rfl))))))
theorem sc_counting : FnScope ["hall", "deed", "bookings", "starts", "holding", "firm", "booking"] ["hall", "deed", "bookings"] (defScope s_counting) := ⟨rfl, rfl, rfl, by decide +kernel, rfl, by decide +kernel, by decide +kernel⟩
theorem F_counting (t : Tx P w K mg C) : FS P w K mg base C 6 "counting" 3 g_counting := fsD t.hC t.hP t.hw t.d_counting sc_counting fun f0 cdv A outer sh H E ok hr => by
  have S := sc_counting
  exact (qss_cons (qs_set (i := 3) S.nd rfl (.inl rfl) (qe_call (F_let_starts t) hr (by decide) rfl (qa_cons (qv 0) (qa_cons (qv 1) (qa_cons (qv 2) qa_nil))))) (qss_cons (qs_set (i := 4) S.nd rfl (.inl rfl) (qe_ix ok (qe_slt (c := 12) (i := 4) t.sc_Hall t.sl_Hall_points (by decide) (qv 0)) qe_str (fun _ _ => rfl))) (qss_cons (qs_if (qw_pt (qw_or (qb_cmp (op_eqD ok.hu64) (rq_eq ok.hC) (qe_ix ok (qv 1) qe_int (fun _ _ => rfl)) (qg t.c_HOLD) rfl) (qw_or (qb_cmp (op_eqD ok.hu64) (rq_eq ok.hC) (qv 4) qe_str rfl) (qw_or1 (qw_pt (qw_and (qb_cmp (op_eqD ok.hu64) (rq_eq ok.hC) (qv 4) qe_str rfl) (qw_and1 (qb_cmp (op_neD ok.hu64) (rq_ne ok.hC) (qv 3) (qe_lst qa_nil) rfl)))))))) (qss_one (qs_ret (qe_tup (qa_cons (qv 3) (qa_cons (qv 2) qa_nil))))) qss_nil) (qss_cons (qs_set (i := 5) S.nd rfl (.inl rfl) (qe_callT call_tuple_of (rq_tuple ok) rfl t.n_tuple (by decide +kernel) (qa_cons (qe_lc1 (t := (.one 6)) (own := [("booking", 6)]) finFz ok S.nd (qi_seq ok (qv 2)) (blkOk_by rfl) (by intro i hi; revert i; decide) (fun s H c cl fp => (pg_name S.nd rfl (by first | exact .inl rfl | exact .inr rfl))) (fun s H c cl fp => (qts_one (qb_not (qb_val (qe_ix ok.blk (qv 6) qe_int (fun _ _ => rfl)))))) (fun s H c cl fp => (qv 6))) qa_nil))) (qss_one (qs_ret (qe_tup (qa_cons (qe_call (F_let_starts t) hr (by decide) rfl (qa_cons (qv 0) (qa_cons (qv 1) (qa_cons (qv 5) qa_nil)))) (qa_cons (qv 5) qa_nil)))))))))
theorem sc_start_given : FnScope ["hall", "deed", "bookings", "starts", "some"] ["hall", "deed", "bookings"] (defScope s_start_given) := ⟨rfl, rfl, rfl, by decide +kernel, rfl, by decide +kernel, by decide +kernel⟩
theorem F_start_given (t : Tx P w K mg C) : FS P w K mg base C 7 "start_given" 3 g_start_given := fsD t.hC t.hP t.hw t.d_start_given sc_start_given fun f0 cdv A outer sh H E ok hr => by
  have S := sc_start_given
  exact (qss_cons (qs_tg (t := (.many [3, 4])) ok (qe_call (F_counting t) hr (by decide) rfl (qa_cons (qv 0) (qa_cons (qv 1) (qa_cons (qv 2) qa_nil)))) (pg_tup ok.calm (pgs_cons (pg_name S.nd rfl (by first | exact .inl rfl | exact .inr rfl)) (pgs_cons (pg_name S.nd rfl (by first | exact .inl rfl | exact .inr rfl)) pgs_nil)))) (qss_one (qs_ret (qe_if (qb_cmp (op_eqD ok.hu64) (rq_eq ok.hC) (qv 3) (qe_lst qa_nil) rfl) qe_non (qe_call (F_given_of t) hr (by decide) rfl (qa_cons (qv 0) (qa_cons (qv 1) (qa_cons (qv 3) (qa_cons (qv 4) qa_nil)))))))))
theorem sc_taker : FnScope ["bookings", "day", "part", "booking"] ["bookings", "day", "part"] (defScope s_taker) := ⟨rfl, rfl, rfl, by decide +kernel, rfl, by decide +kernel, by decide +kernel⟩
theorem F_taker (t : Tx P w K mg C) : FS P w K mg base C 2 "taker" 3 g_taker := fsD t.hC t.hP t.hw t.d_taker sc_taker fun f0 cdv A outer sh H E ok hr => by
  have S := sc_taker
  exact (qss_cons (qs_for (t := (.one 3)) ok PassesOwn.never (qi_seq ok (qv 0)) (pg_name S.nd rfl (by first | exact .inl rfl | exact .inr rfl)) (qss_one (qs_if (qb_cmp (op_inQ ok) (rq_in ok false) (qe_tup (qa_cons (qv 1) (qa_cons (qv 2) qa_nil))) (qe_call (F_cells_of t) hr (by decide) rfl (qa_cons (qv 3) qa_nil)) rfl) (qss_one (qs_ret (qv 3))) qss_nil))) (qss_one (qs_ret qe_non)))
theorem sc_can_be : FnScope ["hall", "bookings", "deed", "word", "own", "booking"] ["hall", "bookings", "deed"] (defScope s_can_be) := ⟨rfl, rfl, rfl, by decide +kernel, rfl, by decide +kernel, by decide +kernel⟩
theorem F_can_be (t : Tx P w K mg C) : FS P w K mg base C 3 "can_be" 3 g_can_be := fsD t.hC t.hP t.hw t.d_can_be sc_can_be fun f0 cdv A outer sh H E ok hr => by
  have S := sc_can_be
  exact (qss_cons (qs_set (i := 3) S.nd rfl (.inl rfl) (qe_ix ok (qv 2) qe_int (fun _ _ => rfl))) (qss_cons (qs_if (qb_cmp (op_inQ ok) (rq_in ok false) (qv 3) (qe_tup (qa_cons (qg t.c_ASK) (qa_cons (qg t.c_HOLD) qa_nil))) rfl) (qss_one (qs_ret qe_bl)) qss_nil) (qss_cons (qs_if (qb_cmp (op_eqD ok.hu64) (rq_eq ok.hC) (qv 3) (qg t.c_LAPSE) rfl) (qss_one (qs_ret (qe_callB (cr_any ok.calm) (rq_bools ok fun bs => bs.any id) rfl t.n_any (by decide +kernel) (qa_cons (qe_lc1 (t := (.one 5)) (own := [("booking", 5)]) finFz ok S.nd (qi_seq ok (qv 1)) (blkOk_by rfl) (by intro i hi; revert i; decide) (fun s H c cl fp => (pg_name S.nd rfl (by first | exact .inl rfl | exact .inr rfl))) (fun s H c cl fp => qts_nil) (fun s H c cl fp => (qe_ix ok.blk (qv 5) qe_int (fun _ _ => rfl)))) qa_nil)))) qss_nil) (qss_cons (qs_set (i := 4) S.nd rfl (.inl rfl) (qe_call (F_taker t) hr (by decide) rfl (qa_cons (qv 1) (qa_cons (qe_ix ok (qv 2) qe_int (fun _ _ => rfl)) (qa_cons (qe_ix ok (qv 2) qe_int (fun _ _ => rfl)) qa_nil))))) (qss_cons (qs_if (qw_pt (qw_or (qb_cmp op_isN rq_isN (qv 4) qe_non rfl) (qw_or1 (qb_cmp (op_eqD ok.hu64) (rq_eq ok.hC) (qv 3) (qg t.c_CANCEL) rfl)))) (qss_one (qs_ret (qe_cmp op_notN rq_isNotN (qv 4) qe_non rfl))) qss_nil) (qss_cons (qs_if (qb_cmp (op_eqD ok.hu64) (rq_eq ok.hC) (qv 3) (qg t.c_FIRM) rfl) (qss_one (qs_ret (qe_ix ok (qv 4) qe_int (fun _ _ => rfl)))) qss_nil) (qss_cons (qs_if (qb_cmp (op_eqD ok.hu64) (rq_eq ok.hC) (qv 3) (qg t.c_LONGER) rfl) (qss_one (qs_ret (qe_cmp op_lt rq_lt (qe_op op_addAll (rq_add ok.hC) (qe_ix ok (qv 4) qe_int (fun _ _ => rfl)) (qe_ix ok (qv 4) qe_int (fun _ _ => rfl))) (qe_slt (c := 12) (i := 1) t.sc_Hall t.sl_Hall_many_days (by decide) (qv 0)) rfl))) qss_nil) (qss_one (qs_ret (qe_and (qe_cmp (op_neD ok.hu64) (rq_ne ok.hC) (qe_ix ok (qv 2) qe_int (fun _ _ => rfl)) (qe_ix ok (qv 4) qe_int (fun _ _ => rfl)) rfl) (qe_one (qe_cmp op_le rq_le (qe_op op_addAll (rq_add ok.hC) (qe_ix ok (qv 2) qe_int (fun _ _ => rfl)) (qe_ix ok (qv 4) qe_int (fun _ _ => rfl))) (qe_slt (c := 12) (i := 0) t.sc_Hall t.sl_Hall_many_parts (by decide) (qv 0)) rfl))))))))))))
theorem sc_others_of : FnScope ["bookings", "own", "booking"] ["bookings", "own"] (defScope s_others_of) := ⟨rfl, rfl, rfl, by decide +kernel, rfl, by decide +kernel, by decide +kernel⟩
theorem F_others_of (t : Tx P w K mg C) : FS P w K mg base C 1 "others_of" 2 g_others_of := fsD t.hC t.hP t.hw t.d_others_of sc_others_of fun f0 cdv A outer sh H E ok hr => by
  have S := sc_others_of
  exact (qss_one (qs_ret (qe_callT call_tuple_of (rq_tuple ok) rfl t.n_tuple (by decide +kernel) (qa_cons (qe_lc1 (t := (.one 2)) (own := [("booking", 2)]) finFz ok S.nd (qi_seq ok (qv 0)) (blkOk_by rfl) (by intro i hi; revert i; decide) (fun s H c cl fp => (pg_name S.nd rfl (by first | exact .inl rfl | exact .inr rfl))) (fun s H c cl fp => (qts_one (qb_cmp (op_neD ok.blk.hu64) (rq_ne ok.blk.hC) (qv 2) (qv 1) rfl))) (fun s H c cl fp => (qv 2))) qa_nil))))
theorem sc_is_let_there : FnScope ["hall", "booking", "others"] ["hall", "booking", "others"] (defScope s_is_let_there) := ⟨rfl, rfl, rfl, by decide +kernel, rfl, by decide +kernel, by decide +kernel⟩
theorem F_is_let_there (t : Tx P w K mg C) : FS P w K mg base C 4 "is_let_there" 3 g_is_let_there := fsD t.hC t.hP t.hw t.d_is_let_there sc_is_let_there fun f0 cdv A outer sh H E ok hr => by
  have S := sc_is_let_there
  exact (qss_cons (qs_if (qb_not (qb_val (qe_call (F_is_free t) hr (by decide) rfl (qa_cons (qv 1) (qa_cons (qv 2) qa_nil))))) (qss_one (qs_ret qe_bl)) qss_nil) (qss_one (qs_ret (qe_or (qe_cmp (op_eqD ok.hu64) (rq_eq ok.hC) (qe_ix ok (qe_slt (c := 12) (i := 4) t.sc_Hall t.sl_Hall_points (by decide) (qv 0)) qe_str (fun _ _ => rfl)) qe_str rfl) (qe_one (qe_not (qe_call (F_clashes t) hr (by decide) rfl (qa_cons (qv 1) (qa_cons (qv 2) qa_nil)))))))))
theorem sc_with_booking : FnScope ["bookings", "own", "taken", "rest", "booking", "cell"] ["bookings", "own"] (defScope s_with_booking) := ⟨rfl, rfl, rfl, by decide +kernel, rfl, by decide +kernel, by decide +kernel⟩
theorem F_with_booking (t : Tx P w K mg C) : FS P w K mg base C 2 "with_booking" 2 g_with_booking := fsD t.hC t.hP t.hw t.d_with_booking sc_with_booking fun f0 cdv A outer sh H E ok hr => by
  have S := sc_with_booking
  exact (qss_cons (qs_set (i := 2) S.nd rfl (.inr rfl) (qe_call (F_cells_of t) hr (by decide) rfl (qa_cons (qv 1) qa_nil))) (qss_cons (qs_lc1 (t := (.one 4)) (own := [("booking", 4)]) finFz ok S.nd rfl rfl (sw_true rfl rfl rfl rfl) (qi_seq ok (qv 0)) (blkOk_by rfl) (by intro i hi; revert i; decide) (fun s H c cl fp => (pg_name S.nd rfl (by first | exact .inl rfl | exact .inr rfl))) (fun s H c cl fp => (qts_one (qb_not (qb_val (qe_callB (cr_any ok.blk.calm) (rq_bools ok.blk fun bs => bs.any id) rfl t.n_any (by decide +kernel) (qa_cons (qe_lc1 (t := (.one 5)) (own := [("cell", 5)]) finFz ok.blk S.nd (qi_seq ok.blk (qe_call (F_cells_of t) hr (by decide) rfl (qa_cons (qv 4) qa_nil))) (blkOk_by rfl) (by intro i hi; revert i; decide) (fun s H c cl fp => (pg_name S.nd rfl (by first | exact .inl rfl | exact .inr rfl))) (fun s H c cl fp => qts_nil) (fun s H c cl fp => (qe_cmp (op_inQ ok.blk.blk) (rq_in ok.blk.blk false) (qv 5) (qv 2) rfl))) qa_nil)))))) (fun s H c cl fp => (qv 4))) (qss_one (qs_ret (qe_callT call_tuple_of (rq_tuple ok) rfl t.n_tuple (by decide +kernel) (qa_cons (qe_callB (cr_sortedQ ok) (rq_sorted ok) rfl t.n_sorted (by decide +kernel) (qa_cons (qe_lst (qa_star ok (qv 3) (qa_cons (qv 1) qa_nil))) qa_nil)) qa_nil))))))
theorem sc_Done___init__ : FnScope ["self", "answer", "bookings", "own"] ["self", "answer", "bookings", "own"] (defScope s_Done___init__) := ⟨rfl, rfl, rfl, by decide +kernel, rfl, by decide +kernel, by decide +kernel⟩
theorem F_Done___init__ (t : Tx P w K mg C) : FD P w K mg base C 1 t.q_Done___init__ 4 g_Done___init__ := fdM t.hC t.hP t.hw t.d_Done___init__ sc_Done___init__ fun f0 cdv A outer sh H E ok hr => by
  have S := sc_Done___init__
  exact (qss_cons (qs_fld (cs := [13]) ok t.fl_Done_answer (qv 0) (qv 1)) (qss_cons (qs_fld (cs := [13]) ok t.fl_Done_behind (qv 0) (qv 2)) (qss_one (qs_fld (cs := [13]) ok t.fl_Done_own (qv 0) (qv 3)))))
theorem M_Done (t : Tx P w K mg C) : FM P w K mg base C 1 "Done" 13 3 m_Done := by
  obtain ⟨h1, h2⟩ := t.mk_Done
  exact ⟨t.q_Done___init__, _, h1, F_Done___init__ t, h2, sim_mkF _ _ _⟩
theorem sc_done_with : FnScope ["hall", "bookings", "deed", "word", "start", "own", "others", "day", "part", "length", "width", "held", "later", "booking"] ["hall", "bookings", "deed"] (defScope s_done_with) := ⟨rfl, rfl, rfl, by decide +kernel, rfl, by decide +kernel, by decide +kernel⟩
theorem F_done_with (t : Tx P w K mg C) : FS P w K mg base C 8 "done_with" 3 g_done_with := fsD t.hC t.hP t.hw t.d_done_with sc_done_with fun f0 cdv A outer sh H E ok hr => by
  have S := sc_done_with
  exact (qss_cons (qs_set (i := 3) S.nd rfl (.inl rfl) (qe_ix ok (qv 2) qe_int (fun _ _ => rfl))) (qss_cons (qs_if (qb_cmp (op_inQ ok) (rq_in ok false) (qv 3) (qe_tup (qa_cons (qg t.c_ASK) (qa_cons (qg t.c_HOLD) qa_nil))) rfl) (qss_cons (qs_set (i := 4) S.nd rfl (.inl rfl) (qe_call (F_start_given t) hr (by decide) rfl (qa_cons (qv 0) (qa_cons (qv 2) (qa_cons (qv 1) qa_nil))))) (qss_cons (qs_if (qb_cmp op_isN rq_isN (qv 4) qe_non rfl) (qss_one (qs_ret (qe_make (M_Done t) hr (by decide) rfl (qa_cons qe_non (qa_cons (qv 1) (qa_cons qe_non qa_nil)))))) qss_nil) (qss_cons (qs_set (i := 5) S.nd rfl (.inl rfl) (qe_call (F_asked_at t) hr (by decide) rfl (qa_cons (qv 2) (qa_cons (qv 4) qa_nil)))) (qss_one (qs_ret (qe_make (M_Done t) hr (by decide) rfl (qa_cons (qv 4) (qa_cons (qe_call (F_with_booking t) hr (by decide) rfl (qa_cons (qv 1) (qa_cons (qv 5) qa_nil))) (qa_cons (qv 5) qa_nil))))))))) qss_nil) (qss_cons (qs_if (qb_cmp (op_eqD ok.hu64) (rq_eq ok.hC) (qv 3) (qg t.c_LAPSE) rfl) (qss_one (qs_ret (qe_make (M_Done t) hr (by decide) rfl (qa_cons qe_bl (qa_cons (qe_callT call_tuple_of (rq_tuple ok) rfl t.n_tuple (by decide +kernel) (qa_cons (qe_lc1 (t := (.one 13)) (own := [("booking", 13)]) finFz ok S.nd (qi_seq ok (qv 1)) (blkOk_by rfl) (by intro i hi; revert i; decide) (fun s H c cl fp => (pg_name S.nd rfl (by first | exact .inl rfl | exact .inr rfl))) (fun s H c cl fp => (qts_one (qb_not (qb_val (qe_ix ok.blk (qv 13) qe_int (fun _ _ => rfl)))))) (fun s H c cl fp => (qv 13))) qa_nil)) (qa_cons qe_non qa_nil)))))) qss_nil) (qss_cons (qs_set (i := 5) S.nd rfl (.inl rfl) (qe_call (F_taker t) hr (by decide) rfl (qa_cons (qv 1) (qa_cons (qe_ix ok (qv 2) qe_int (fun _ _ => rfl)) (qa_cons (qe_ix ok (qv 2) qe_int (fun _ _ => rfl)) qa_nil))))) (qss_cons (qs_set (i := 6) S.nd rfl (.inl rfl) (qe_call (F_others_of t) hr (by decide) rfl (qa_cons (qv 1) (qa_cons (qv 5) qa_nil)))) (qss_cons (qs_if (qb_cmp (op_eqD ok.hu64) (rq_eq ok.hC) (qv 3) (qg t.c_CANCEL) rfl) (qss_one (qs_ret (qe_make (M_Done t) hr (by decide) rfl (qa_cons qe_bl (qa_cons (qv 6) (qa_cons qe_non qa_nil)))))) qss_nil) (qss_cons (qs_tg (t := (.many [7, 8, 9, 10, 11])) ok (qv 5) (pg_tup ok.calm (pgs_cons (pg_name S.nd rfl (by first | exact .inl rfl | exact .inr rfl)) (pgs_cons (pg_name S.nd rfl (by first | exact .inl rfl | exact .inr rfl)) (pgs_cons (pg_name S.nd rfl (by first | exact .inl rfl | exact .inr rfl)) (pgs_cons (pg_name S.nd rfl (by first | exact .inl rfl | exact .inr rfl)) (pgs_cons (pg_name S.nd rfl (by first | exact .inl rfl | exact .inr rfl)) pgs_nil))))))) (qss_cons (qs_if (qb_cmp (op_eqD ok.hu64) (rq_eq ok.hC) (qv 3) (qg t.c_FIRM) rfl) (qss_one (qs_ret (qe_make (M_Done t) hr (by decide) rfl (qa_cons qe_bl (qa_cons (qe_callT call_tuple_of (rq_tuple ok) rfl t.n_tuple (by decide +kernel) (qa_cons (qe_callB (cr_sortedQ ok) (rq_sorted ok) rfl t.n_sorted (by decide +kernel) (qa_cons (qe_lst (qa_star ok (qv 6) (qa_cons (qe_tup (qa_cons (qv 7) (qa_cons (qv 8) (qa_cons (qv 9) (qa_cons (qv 10) (qa_cons qe_bl qa_nil)))))) qa_nil))) qa_nil)) qa_nil)) (qa_cons qe_non qa_nil)))))) qss_nil) (qss_cons (qs_set (i := 12) S.nd rfl (.inl rfl) (qe_if (qb_cmp (op_eqD ok.hu64) (rq_eq ok.hC) (qv 3) (qg t.c_LONGER) rfl) (qe_tup (qa_cons (qv 7) (qa_cons (qv 8) (qa_cons (qe_op op_addAll (rq_add ok.hC) (qv 9) qe_int) (qa_cons (qv 10) (qa_cons (qv 11) qa_nil)))))) (qe_tup (qa_cons (qv 7) (qa_cons (qe_ix ok (qv 2) qe_int (fun _ _ => rfl)) (qa_cons (qv 9) (qa_cons (qv 10) (qa_cons (qv 11) qa_nil)))))))) (qss_cons (qs_if (qb_not (qb_val (qe_call (F_is_let_there t) hr (by decide) rfl (qa_cons (qv 0) (qa_cons (qv 12) (qa_cons (qv 6) qa_nil)))))) (qss_one (qs_ret (qe_make (M_Done t) hr (by decide) rfl (qa_cons qe_bl (qa_cons (qv 1) (qa_cons qe_non qa_nil)))))) qss_nil) (qss_one (qs_ret (qe_make (M_Done t) hr (by decide) rfl (qa_cons qe_bl (qa_cons (qe_callT call_tuple_of (rq_tuple ok) rfl t.n_tuple (by decide +kernel) (qa_cons (qe_callB (cr_sortedQ ok) (rq_sorted ok) rfl t.n_sorted (by decide +kernel) (qa_cons (qe_lst (qa_star ok (qv 6) (qa_cons (qv 12) qa_nil))) qa_nil)) qa_nil)) (qa_cons (qv 12) qa_nil))))))))))))))))
theorem sc_has_room : FnScope ["hall", "rows", "laid", "day", "part", "length", "width", "held", "start", "own"] ["hall", "rows", "laid"] (defScope s_has_room) := ⟨rfl, rfl, rfl, by decide +kernel, rfl, by decide +kernel, by decide +kernel⟩
theorem F_has_room (t : Tx P w K mg C) : FS P w K mg base C 55 "has_room" 3 g_has_room := fsR (k := 4) t.hC t.hP t.hw t.d_has_room sc_has_room (fun n grec IH f0 cdv A outer sh H E ok hr => by
  have S := sc_has_room
  exact (qss_cons (qs_if (qb_cmp (op_eqD ok.hu64) (rq_eq ok.hC) (qv 1) (qe_tup qa_nil) rfl) (qss_one (qs_ret qe_bl)) qss_nil) (qss_cons (qs_tg (t := (.many [3, 4, 5, 6, 7])) ok (qe_ix ok (qv 1) qe_int (fun _ _ => rfl)) (pg_tup ok.calm (pgs_cons (pg_name S.nd rfl (by first | exact .inl rfl | exact .inr rfl)) (pgs_cons (pg_name S.nd rfl (by first | exact .inl rfl | exact .inr rfl)) (pgs_cons (pg_name S.nd rfl (by first | exact .inl rfl | exact .inr rfl)) (pgs_cons (pg_name S.nd rfl (by first | exact .inl rfl | exact .inr rfl)) (pgs_cons (pg_name S.nd rfl (by first | exact .inl rfl | exact .inr rfl)) pgs_nil))))))) (qss_cons (qs_for (t := (.one 8)) ok PassesOwn.never (qi_seq ok (qe_call (F_starts_for t) hr (by omega) rfl (qa_cons (qv 0) (qa_cons (qv 6) qa_nil)))) (pg_name S.nd rfl (by first | exact .inl rfl | exact .inr rfl)) (qss_cons (qs_set (i := 9) S.nd rfl (.inl rfl) (qe_tup (qa_cons (qv 3) (qa_cons (qv 8) (qa_cons (qv 5) (qa_cons (qv 6) (qa_cons (qv 7) qa_nil))))))) (qss_one (qs_if (qw_pt (qw_and (qb_val (qe_call (F_does_suit t) hr (by omega) rfl (qa_cons (qv 9) (qa_cons (qv 2) qa_nil)))) (qw_and1 (qb_val (qe_call IH hr (by omega) rfl (qa_cons (qv 0) (qa_cons (qe_sl ok (qv 1) (qo_some qe_int) qo_none) (qa_cons (qe_tup (qa_star ok (qv 2) (qa_cons (qv 9) qa_nil))) qa_nil)))))))) (qss_one (qs_ret qe_bl)) qss_nil)))) (qss_one (qs_ret qe_bl)))))) 50
theorem sc_refusal_findings : FnScope ["hall", "deed", "bookings", "own", "near", "rest", "booking"] ["hall", "deed", "bookings"] (defScope s_refusal_findings) := ⟨rfl, rfl, rfl, by decide +kernel, rfl, by decide +kernel, by decide +kernel⟩
theorem F_refusal_findings (t : Tx P w K mg C) : FS P w K mg base C 56 "refusal_findings" 3 g_refusal_findings := fsD t.hC t.hP t.hw t.d_refusal_findings sc_refusal_findings fun f0 cdv A outer sh H E ok hr => by
  have S := sc_refusal_findings
  exact (qss_cons (qs_if (qb_cmp (op_neD ok.hu64) (rq_ne ok.hC) (qe_call (F_suiting t) hr (by decide) rfl (qa_cons (qv 0) (qa_cons (qv 1) (qa_cons (qv 2) qa_nil)))) (qe_lst qa_nil) rfl) (qss_one (qs_ret (qe_lst (qa_cons (qe_tup (qa_cons qe_str (qa_cons (qe_ix ok (qv 1) qe_int (fun _ _ => rfl)) qa_nil))) qa_nil)))) qss_nil) (qss_cons (qs_set (i := 3) S.nd rfl (.inr rfl) (qe_call (F_asked_at t) hr (by decide) rfl (qa_cons (qv 1) (qa_cons qe_int qa_nil)))) (qss_cons (qs_set (i := 4) S.nd rfl (.inr rfl) (qe_callT call_tuple_of (rq_tuple ok) rfl t.n_tuple (by decide +kernel) (qa_cons (qe_lc1 (t := (.one 6)) (own := [("booking", 6)]) finFz ok S.nd (qi_seq ok (qv 2)) (blkOk_by rfl) (by intro i hi; revert i; decide) (fun s H c cl fp => (pg_name S.nd rfl (by first | exact .inl rfl | exact .inr rfl))) (fun s H c cl fp => (qts_one (qb_val (qe_call (F_do_share t) hr (by decide) rfl (qa_cons (qe_ix ok.blk (qv 3) qe_int (fun _ _ => rfl)) (qa_cons (qe_ix ok.blk (qv 6) qe_int (fun _ _ => rfl)) (qa_cons (qe_ix ok.blk (qv 3) qe_int (fun _ _ => rfl)) (qa_cons (qe_ix ok.blk (qv 6) qe_int (fun _ _ => rfl)) qa_nil)))))))) (fun s H c cl fp => (qv 6))) qa_nil))) (qss_cons (qs_set (i := 5) S.nd rfl (.inl rfl) (qe_callT call_tuple_of (rq_tuple ok) rfl t.n_tuple (by decide +kernel) (qa_cons (qe_lc1 (t := (.one 6)) (own := [("booking", 6)]) finFz ok S.nd (qi_seq ok (qv 2)) (blkOk_by rfl) (by intro i hi; revert i; decide) (fun s H c cl fp => (pg_name S.nd rfl (by first | exact .inl rfl | exact .inr rfl))) (fun s H c cl fp => (qts_one (qb_cmp (op_notInQ ok.blk) (rq_in ok.blk true) (qv 6) (qv 4) rfl))) (fun s H c cl fp => (qv 6))) qa_nil))) (qss_one (qs_ret (qe_if (qb_val (qe_call (F_has_room t) hr (by decide) rfl (qa_cons (qv 0) (qa_cons (qe_tup (qa_cons (qv 3) (qa_star ok (qv 4) (qa_star ok (qv 5) qa_nil)))) (qa_cons (qe_tup qa_nil) qa_nil))))) (qe_lst (qa_cons (qe_tup (qa_cons qe_str (qa_cons (qe_ix ok (qv 1) qe_int (fun _ _ => rfl)) qa_nil))) qa_nil)) (qe_lst qa_nil))))))))
theorem sc_findings_of : FnScope ["hall", "deed", "bookings", "done", "word", "found"] ["hall", "deed", "bookings", "done"] (defScope s_findings_of) := ⟨rfl, rfl, rfl, by decide +kernel, rfl, by decide +kernel, by decide +kernel⟩
theorem F_findings_of (t : Tx P w K mg C) : FS P w K mg base C 57 "findings_of" 4 g_findings_of := fsD t.hC t.hP t.hw t.d_findings_of sc_findings_of fun f0 cdv A outer sh H E ok hr => by
  have S := sc_findings_of
  exact (qss_cons (qs_set (i := 4) S.nd rfl (.inl rfl) (qe_ix ok (qv 1) qe_int (fun _ _ => rfl))) (qss_cons (qs_if (qw_pt (qw_and (qb_cmp (op_inQ ok) (rq_in ok false) (qv 4) (qe_tup (qa_cons (qg t.c_ASK) (qa_cons (qg t.c_HOLD) qa_nil))) rfl) (qw_and1 (qb_cmp op_isN rq_isN (qe_fld (cs := [13]) ok t.fl_Done_own (qv 3)) qe_non rfl)))) (qss_one (qs_ret (qe_call (F_refusal_findings t) hr (by decide) rfl (qa_cons (qv 0) (qa_cons (qv 1) (qa_cons (qv 2) qa_nil)))))) qss_nil) (qss_cons (qs_set (i := 5) S.nd rfl (.inl rfl) (qe_lstC qa_nil)) (qss_cons (qs_if (qw_pt (qw_and (qb_cmp op_notN rq_isNotN (qe_fld (cs := [13]) ok t.fl_Done_own (qv 3)) qe_non rfl) (qw_and1 (qb_val (qe_call (F_clashes t) hr (by decide) rfl (qa_cons (qe_fld (cs := [13]) ok t.fl_Done_own (qv 3)) (qa_cons (qe_call (F_others_of t) hr (by decide) rfl (qa_cons (qe_fld (cs := [13]) ok t.fl_Done_behind (qv 3)) (qa_cons (qe_fld (cs := [13]) ok t.fl_Done_own (qv 3)) qa_nil))) qa_nil))))))) (qss_one (qs_expr (qe_mt PySem.F.plainAttrs_list PySem.F.slot_list_append PySem.F.type_list_append mt_append (rq_append ok) (qv 5) (qa_cons (qe_tup (qa_cons qe_str (qa_cons (qv 4) qa_nil))) qa_nil)))) qss_nil) (qss_cons (qs_if (qw_pt (qw_and (qb_cmp (op_eqD ok.hu64) (rq_eq ok.hC) (qv 4) (qg t.c_ASK) rfl) (qw_and (qb_cmp op_le rq_le (qe_callB (call_lenQ ok) (rq_len ok) rfl t.n_len PySem.boot_len (qa_cons (qe_fld (cs := [13]) ok t.fl_Done_behind (qv 3)) qa_nil)) (qe_callB (call_lenQ ok) (rq_len ok) rfl t.n_len PySem.boot_len (qa_cons (qv 2) qa_nil)) rfl) (qw_and1 (qb_cmp (op_neD ok.hu64) (rq_ne ok.hC) (qe_call (F_suiting t) hr (by decide) rfl (qa_cons (qv 0) (qa_cons (qv 1) (qa_cons (qv 2) qa_nil)))) (qe_lst qa_nil) rfl))))) (qss_one (qs_expr (qe_mt PySem.F.plainAttrs_list PySem.F.slot_list_append PySem.F.type_list_append mt_append (rq_append ok) (qv 5) (qa_cons (qe_tup (qa_cons qe_str (qa_cons (qe_ix ok (qv 1) qe_int (fun _ _ => rfl)) qa_nil))) qa_nil)))) qss_nil) (qss_frz (qss_one (qs_ret (qe_frz (qv 5))))))))))
theorem sc_led_to : FnScope ["hall", "bookings", "deed"] ["hall", "bookings", "deed"] (defScope s_led_to) := ⟨rfl, rfl, rfl, by decide +kernel, rfl, by decide +kernel, by decide +kernel⟩
theorem F_led_to (t : Tx P w K mg C) : FS P w K mg base C 9 "led_to" 3 g_led_to := fsD t.hC t.hP t.hw t.d_led_to sc_led_to fun f0 cdv A outer sh H E ok hr => by
  have S := sc_led_to
  exact (qss_one (qs_ret (qe_if (qb_val (qe_call (F_can_be t) hr (by decide) rfl (qa_cons (qv 0) (qa_cons (qv 1) (qa_cons (qv 2) qa_nil))))) (qe_call (F_done_with t) hr (by decide) rfl (qa_cons (qv 0) (qa_cons (qv 1) (qa_cons (qv 2) qa_nil)))) qe_non)))
theorem sc_Record_take_in : FnScope ["self", "deed", "done", "found", "finding"] ["self", "deed", "done"] (defScope s_Record_take_in) := ⟨rfl, rfl, rfl, by decide +kernel, rfl, by decide +kernel, by decide +kernel⟩
theorem F_Record_take_in (t : Tx P w K mg C) : FD P w K mg base C 58 t.q_Record_take_in 3 g_Record_take_in := fdM t.hC t.hP t.hw t.d_Record_take_in sc_Record_take_in fun f0 cdv A outer sh H E ok hr => by
  have S := sc_Record_take_in
  exact (qss_cons (qs_set (i := 3) S.nd rfl (.inl rfl) (qe_call (F_findings_of t) hr (by decide) rfl (qa_cons (qe_fld (cs := [14]) ok t.fl_Record_place (qv 0)) (qa_cons (qv 1) (qa_cons (qe_fld (cs := [14]) ok t.fl_Record_at (qv 0)) (qa_cons (qv 2) qa_nil)))))) (qss_cons (qs_expr (qe_mt PySem.F.plainAttrs_list PySem.F.slot_list_append PySem.F.type_list_append mt_append (rq_append ok) (qe_fld (cs := [14]) ok t.fl_Record_answers (qv 0)) (qa_cons (qe_fld (cs := [13]) ok t.fl_Done_answer (qv 2)) qa_nil))) (qss_cons (qs_expr (qe_mt PySem.F.plainAttrs_list PySem.F.slot_list_extend PySem.F.type_list_extend mt_extend (rq_extend ok) (qe_fld (cs := [14]) ok t.fl_Record_told_findings (qv 0)) (qa_cons (qe_lc1 (t := (.one 4)) (own := [("finding", 4)]) finFz ok S.nd (qi_seq ok (qv 3)) (blkOk_by rfl) (by intro i hi; revert i; decide) (fun s H c cl fp => (pg_name S.nd rfl (by first | exact .inl rfl | exact .inr rfl))) (fun s H c cl fp => qts_nil) (fun s H c cl fp => (qe_tup (qa_cons (qe_callB (call_lenQ ok.blk) (rq_len ok.blk) rfl t.n_len PySem.boot_len (qa_cons (qe_fld (cs := [14]) ok.blk t.fl_Record_answers (qv 0)) qa_nil)) (qa_cons (qv 4) qa_nil))))) qa_nil))) (qss_one (qs_fld (cs := [14]) ok t.fl_Record_at (qv 0) (qe_fld (cs := [13]) ok t.fl_Done_behind (qv 2)))))))
theorem sc_Record___init__ : FnScope ["self", "hall"] ["self", "hall"] (defScope s_Record___init__) := ⟨rfl, rfl, rfl, by decide +kernel, rfl, by decide +kernel, by decide +kernel⟩
theorem F_Record___init__ (t : Tx P w K mg C) : FD P w K mg base C 1 t.q_Record___init__ 2 g_Record___init__ := fdM t.hC t.hP t.hw t.d_Record___init__ sc_Record___init__ fun f0 cdv A outer sh H E ok hr => by
  have S := sc_Record___init__
  exact (qss_cons (qs_fld (cs := [14]) ok t.fl_Record_place (qv 0) (qv 1)) (qss_cons (qs_fld (cs := [14]) ok t.fl_Record_at (qv 0) (qe_tup qa_nil)) (qss_cons (qs_fld (cs := [14]) ok t.fl_Record_answers (qv 0) (qe_lstC qa_nil)) (qss_one (qs_fld (cs := [14]) ok t.fl_Record_told_findings (qv 0) (qe_lstC qa_nil))))))
theorem M_Record (t : Tx P w K mg C) : FM P w K mg base C 1 "Record" 14 1 m_Record := by
  obtain ⟨h1, h2⟩ := t.mk_Record
  exact ⟨t.q_Record___init__, _, h1, F_Record___init__ t, h2, sim_mk _ _ _⟩
theorem sc_replay : FnScope ["hall", "deeds", "record", "index", "deed", "done"] ["hall", "deeds"] (defScope s_replay) := ⟨rfl, rfl, rfl, by decide +kernel, rfl, by decide +kernel, by decide +kernel⟩
theorem F_replay (t : Tx P w K mg C) : FS P w K mg base C 59 "replay" 2 g_replay := fsD t.hC t.hP t.hw t.d_replay sc_replay fun f0 cdv A outer sh H E ok hr => by
  have S := sc_replay
  exact (qss_cons (qs_set (i := 2) S.nd rfl (.inl rfl) (qe_make (M_Record t) hr (by decide) rfl (qa_cons (qv 0) qa_nil))) (qss_cons (qs_for (t := (.many [3, 4])) ok PassesOwn.never (qi_enum ok rfl t.n_enumerate (qv 1)) (pg_tup ok.calm (pgs_cons (pg_name S.nd rfl (by first | exact .inl rfl | exact .inr rfl)) (pgs_cons (pg_name S.nd rfl (by first | exact .inl rfl | exact .inr rfl)) pgs_nil))) (qss_cons (qs_set (i := 5) S.nd rfl (.inl rfl) (qe_if (qb_val (qe_call (F_is_deed t) hr (by decide) rfl (qa_cons (qv 0) (qa_cons (qv 4) qa_nil)))) (qe_call (F_led_to t) hr (by decide) rfl (qa_cons (qv 0) (qa_cons (qe_fld (cs := [14]) ok t.fl_Record_at (qv 2)) (qa_cons (qv 4) qa_nil)))) qe_non)) (qss_cons (qs_if (qb_cmp op_isN rq_isN (qv 5) qe_non rfl) (qss_one qs_stuck) qss_nil) (qss_one (qs_expr (qe_met (c := 14) (F_Record_take_in t) t.cl_Record t.me_Record_take_in hr (by decide) (qv 2) (qa_cons (qv 4) (qa_cons (qv 5) qa_nil)))))))) (qss_one (qs_ret (qv 2)))))
theorem sc_first_at : FnScope ["bookings", "day", "part", "own"] ["bookings", "day", "part"] (defScope s_first_at) := ⟨rfl, rfl, rfl, by decide +kernel, rfl, by decide +kernel, by decide +kernel⟩
theorem F_first_at (t : Tx P w K mg C) : FS P w K mg base C 3 "first_at" 3 g_first_at := fsD t.hC t.hP t.hw t.d_first_at sc_first_at fun f0 cdv A outer sh H E ok hr => by
  have S := sc_first_at
  exact (qss_cons (qs_set (i := 3) S.nd rfl (.inl rfl) (qe_call (F_taker t) hr (by decide) rfl (qa_cons (qv 0) (qa_cons (qv 1) (qa_cons (qv 2) qa_nil))))) (qss_one (qs_ret (qe_if (qb_cmp op_isN rq_isN (qv 3) qe_non rfl) qe_non (qe_ix ok (qv 3) qe_int (fun _ _ => rfl))))))
theorem sc_plan : FnScope ["record", "hall", "found", "day", "part"] ["record"] (defScope s_plan) := ⟨rfl, rfl, rfl, by decide +kernel, rfl, by decide +kernel, by decide +kernel⟩
theorem F_plan (t : Tx P w K mg C) : FS P w K mg base C 4 "plan" 1 g_plan := fsD t.hC t.hP t.hw t.d_plan sc_plan fun f0 cdv A outer sh H E ok hr => by
  have S := sc_plan
  exact (qss_cons (qs_set (i := 1) S.nd rfl (.inl rfl) (qe_fld (cs := [14]) ok t.fl_Record_place (qv 0))) (qss_cons (qs_set (i := 2) S.nd rfl (.inl rfl) (qe_lstC qa_nil)) (qss_cons (qs_for (t := (.one 3)) ok PassesOwn.never (qi_range1 rfl t.n_range (qe_slt (c := 12) (i := 1) t.sc_Hall t.sl_Hall_many_days (by decide) (qv 1))) (pg_name S.nd rfl (by first | exact .inl rfl | exact .inr rfl)) (qss_one (qs_expr (qe_mt PySem.F.plainAttrs_list PySem.F.slot_list_append PySem.F.type_list_append mt_append (rq_append ok) (qv 2) (qa_cons (qe_lc1 (t := (.one 4)) (own := [("part", 4)]) finFz ok S.nd (qi_range1 rfl t.n_range (qe_slt (c := 12) (i := 0) t.sc_Hall t.sl_Hall_many_parts (by decide) (qv 1))) (blkOk_by rfl) (by intro i hi; revert i; decide) (fun s H c cl fp => (pg_name S.nd rfl (by first | exact .inl rfl | exact .inr rfl))) (fun s H c cl fp => qts_nil) (fun s H c cl fp => (qe_call (F_first_at t) hr (by decide) rfl (qa_cons (qe_fld (cs := [14]) ok.blk t.fl_Record_at (qv 0)) (qa_cons (qv 3) (qa_cons (qv 4) qa_nil)))))) qa_nil))))) (qss_one (qs_ret (qv 2))))))
theorem sc__law_mix : FnScope ["_law_script", "_law_seed", "_law_state", "_law_cell"] ["_law_script", "_law_seed"] (defScope s__law_mix) := ⟨rfl, rfl, rfl, by decide +kernel, rfl, by decide +kernel, by decide +kernel⟩
theorem F__law_mix (t : Tx P w K mg C) : FS P w K mg base C 1 "_law_mix" 2 g__law_mix := fsD t.hC t.hP t.hw t.d__law_mix sc__law_mix fun f0 cdv A outer sh H E ok hr => by
  have S := sc__law_mix
  exact (qss_cons (qs_set (i := 2) S.nd rfl (.inl rfl) (qv 1)) (qss_cons (qs_for (t := (.one 3)) ok PassesOwn.never (qi_seq ok (qv 0)) (pg_name S.nd rfl (by first | exact .inl rfl | exact .inr rfl)) (qss_one (qs_set (i := 2) S.nd rfl (.inl rfl) (qe_op op_mod rq_mod (qe_callT cr_intQ rq_int1 rfl t.n_int (by decide +kernel) (qa_cons (qe_op op_addAll (rq_add ok.hC) (qe_op op_addAll (rq_add ok.hC) (qe_op op_mulAll rq_mul (qv 2) qe_int) (qe_op op_mod rq_mod (qe_callT cr_intQ rq_int1 rfl t.n_int (by decide +kernel) (qa_cons (qv 3) qa_nil)) qe_int)) qe_int) qa_nil)) qe_int)))) (qss_one (qs_ret (qe_lstC (qa_cons (qv 2) (qa_cons (qe_callT call_list_of (rq_listC ok) rfl t.n_list (by decide +kernel) (qa_cons (qv 0) qa_nil)) (qa_cons qe_int (qa_cons qe_int qa_nil)))))))))
theorem sc__law_next : FnScope ["_law_h", "_law_bound", "_law_cell"] ["_law_h", "_law_bound"] (defScope s__law_next) := ⟨rfl, rfl, rfl, by decide +kernel, rfl, by decide +kernel, by decide +kernel⟩
theorem F__law_next (t : Tx P w K mg C) : FS P w K mg base C 1 "_law_next" 2 g__law_next := fsD t.hC t.hP t.hw t.d__law_next sc__law_next fun f0 cdv A outer sh H E ok hr => by
  have S := sc__law_next
  exact (qss_cons (qs_set (i := 2) S.nd rfl (.inl rfl) (qe_ix ok (qe_op op_addAll (rq_add ok.hC) (qe_ix ok (qv 0) qe_int (fun _ _ => rfl)) (qe_lst (qa_cons qe_int qa_nil))) (qe_op op_mod rq_mod (qe_callT cr_intQ rq_int1 rfl t.n_int (by decide +kernel) (qa_cons (qe_ix ok (qv 0) qe_int (fun _ _ => rfl)) qa_nil)) (qe_callB (call_max2 ok.calm) rq_max2 rfl t.n_max (by decide +kernel) (qa_cons qe_int (qa_cons (qe_callB (call_lenQ ok) (rq_len ok) rfl t.n_len PySem.boot_len (qa_cons (qe_ix ok (qv 0) qe_int (fun _ _ => rfl)) qa_nil)) qa_nil)))) (fun _ _ => rfl))) (qss_cons (qs_if (qb_cmp op_ge rq_ge (qv 2) (qe_op op_pow rq_pow qe_int qe_int) rfl) (qss_cons (qs_sub ok (qe_ix ok (qv 0) qe_int (fun _ _ => rfl)) (qe_op op_mod rq_mod (qe_callT cr_intQ rq_int1 rfl t.n_int (by decide +kernel) (qa_cons (qe_ix ok (qv 0) qe_int (fun _ _ => rfl)) qa_nil)) (qe_callB (call_lenQ ok) (rq_len ok) rfl t.n_len PySem.boot_len (qa_cons (qe_ix ok (qv 0) qe_int (fun _ _ => rfl)) qa_nil))) (qe_op op_fdiv rq_div (qv 2) (qv 1))) (qss_one (qs_ret (qe_op op_mod rq_mod (qe_callT cr_intQ rq_int1 rfl t.n_int (by decide +kernel) (qa_cons (qv 2) qa_nil)) (qv 1))))) qss_nil) (qss_cons (qs_sub ok (qv 0) qe_int (qe_op op_mod rq_mod (qe_callT cr_intQ rq_int1 rfl t.n_int (by decide +kernel) (qa_cons (qe_op op_addAll (rq_add ok.hC) (qe_op op_addAll (rq_add ok.hC) (qe_op op_mulAll rq_mul (qe_ix ok (qv 0) qe_int (fun _ _ => rfl)) qe_int) (qe_op op_mulAll rq_mul (qv 2) qe_int)) qe_int) qa_nil)) qe_int)) (qss_cons (qs_sub ok (qv 0) qe_int (qe_op op_addAll (rq_add ok.hC) (qe_ix ok (qv 0) qe_int (fun _ _ => rfl)) qe_int)) (qss_one (qs_ret (qe_op op_mod rq_mod (qe_callT cr_intQ rq_int1 rfl t.n_int (by decide +kernel) (qa_cons (qe_op op_fdiv rq_div (qe_ix ok (qv 0) qe_int (fun _ _ => rfl)) qe_int) qa_nil)) (qv 1))))))))
theorem sc__law_rule : FnScope ["_law_h", "_law_rule_here"] ["_law_h"] (defScope s__law_rule) := ⟨rfl, rfl, rfl, by decide +kernel, rfl, by decide +kernel, by decide +kernel⟩
theorem F__law_rule (t : Tx P w K mg C) : FS P w K mg base C 2 "_law_rule" 1 g__law_rule := fsD t.hC t.hP t.hw t.d__law_rule sc__law_rule fun f0 cdv A outer sh H E ok hr => by
  have S := sc__law_rule
  exact (qss_cons (qs_set (i := 1) S.nd rfl (.inl rfl) (qe_disp (qps_cons qe_str (qe_ix ok (qe_lst (qa_cons qe_str (qa_cons qe_str qa_nil))) (qe_call (F__law_next t) hr (by decide) rfl (qa_cons (qv 0) (qa_cons qe_int qa_nil))) (fun _ _ => rfl)) (qps_cons qe_str (qe_ix ok (qe_lst (qa_cons qe_str (qa_cons qe_str (qa_cons qe_str qa_nil)))) (qe_call (F__law_next t) hr (by decide) rfl (qa_cons (qv 0) (qa_cons qe_int qa_nil))) (fun _ _ => rfl)) qps_nil)))) (qss_cons (qs_sub ok (qv 1) qe_str (qe_ix ok (qe_lst (qa_cons qe_str (qa_cons qe_str (qa_cons qe_str qa_nil)))) (qe_call (F__law_next t) hr (by decide) rfl (qa_cons (qv 0) (qa_cons qe_int qa_nil))) (fun _ _ => rfl))) (qss_cons (qs_sub ok (qv 1) qe_str (qe_ix ok (qe_lst (qa_cons qe_str (qa_cons qe_str (qa_cons qe_str qa_nil)))) (qe_call (F__law_next t) hr (by decide) rfl (qa_cons (qv 0) (qa_cons qe_int qa_nil))) (fun _ _ => rfl))) (qss_frz (qss_one (qs_ret (qe_frz (qv 1))))))))
theorem sc__law_hall : FnScope ["_law_h", "_law_parts", "_law_days", "_law_some", "_law_t", "_law_widths", "_law_width", "_law_word"] ["_law_h", "_law_parts", "_law_days", "_law_some"] (defScope s__law_hall) := ⟨rfl, rfl, rfl, by decide +kernel, rfl, by decide +kernel, by decide +kernel⟩
theorem F__law_hall (t : Tx P w K mg C) : FS P w K mg base C 3 "_law_hall" 4 g__law_hall := fsD t.hC t.hP t.hw t.d__law_hall sc__law_hall fun f0 cdv A outer sh H E ok hr => by
  have S := sc__law_hall
  exact (qss_cons (qs_set (i := 4) S.nd rfl (.inl rfl) (qe_lstC (qa_cons (qe_op op_addAll (rq_add ok.hC) qe_int (qe_call (F__law_next t) hr (by decide) rfl (qa_cons (qv 0) (qa_cons (qv 1) qa_nil)))) (qa_cons (qe_op op_addAll (rq_add ok.hC) qe_int (qe_call (F__law_next t) hr (by decide) rfl (qa_cons (qv 0) (qa_cons (qv 2) qa_nil)))) (qa_cons (qe_tup qa_nil) (qa_cons qe_int (qa_cons (qe_call (F__law_rule t) hr (by decide) rfl (qa_cons (qv 0) qa_nil)) (qa_cons (qe_tup qa_nil) qa_nil)))))))) (qss_cons (qs_lc1 (t := (.one 6)) (own := [("_law_width", 6)]) finFz ok S.nd rfl rfl (sw_true rfl rfl rfl rfl) (qi_range2 rfl t.n_range qe_int (qe_op op_addAll (rq_add ok.hC) (qe_ix ok (qv 4) qe_int (fun _ _ => rfl)) qe_int)) (blkOk_by rfl) (by intro i hi; revert i; decide) (fun s H c cl fp => (pg_name S.nd rfl (by first | exact .inl rfl | exact .inr rfl))) (fun s H c cl fp => (qts_one (qb_cmp op_gt rq_gt (qe_call (F__law_next t) hr (by decide) rfl (qa_cons (qv 0) (qa_cons qe_int qa_nil))) qe_int rfl))) (fun s H c cl fp => (qv 6))) (qss_cons (qs_sub ok (qv 4) qe_int (qe_callT call_tuple_of (rq_tuple ok) rfl t.n_tuple (by decide +kernel) (qa_cons (qe_if (qb_cmp (op_neD ok.hu64) (rq_ne ok.hC) (qv 5) (qe_lst qa_nil) rfl) (qv 5) (qe_lst (qa_cons (qe_op op_addAll (rq_add ok.hC) qe_int (qe_call (F__law_next t) hr (by decide) rfl (qa_cons (qv 0) (qa_cons (qe_ix ok (qv 4) qe_int (fun _ _ => rfl)) qa_nil)))) qa_nil))) qa_nil))) (qss_cons (qs_sub ok (qv 4) qe_int (qe_op op_addAll (rq_add ok.hC) qe_int (qe_call (F__law_next t) hr (by decide) rfl (qa_cons (qv 0) (qa_cons (qe_ix ok (qv 4) qe_int (fun _ _ => rfl)) qa_nil))))) (qss_cons (qs_sub ok (qv 4) qe_int (qe_callT call_tuple_of (rq_tuple ok) rfl t.n_tuple (by decide +kernel) (qa_cons (qe_lc1 (t := (.one 7)) (own := [("_law_word", 7)]) finFz ok S.nd (qi_seq ok (qv 3)) (blkOk_by rfl) (by intro i hi; revert i; decide) (fun s H c cl fp => (pg_name S.nd rfl (by first | exact .inl rfl | exact .inr rfl))) (fun s H c cl fp => (qts_one (qb_cmp op_gt rq_gt (qe_call (F__law_next t) hr (by decide) rfl (qa_cons (qv 0) (qa_cons qe_int qa_nil))) qe_int rfl))) (fun s H c cl fp => (qv 7))) qa_nil))) (qss_frz (qss_one (qs_ret (qe_frz (qv 4))))))))))
theorem sc_Hall___init__ : FnScope ["self", "parts", "days", "widths", "longest", "rule", "words", "point"] ["self", "parts", "days", "widths", "longest", "rule", "words"] (defScope s_Hall___init__) := ⟨rfl, rfl, rfl, by decide +kernel, rfl, by decide +kernel, by decide +kernel⟩
theorem F_Hall___init__ (t : Tx P w K mg C) : FD P w K mg base C 4 t.q_Hall___init__ 7 g_Hall___init__ := fdM t.hC t.hP t.hw t.d_Hall___init__ sc_Hall___init__ fun f0 cdv A outer sh H E ok hr => by
  have S := sc_Hall___init__
  exact (qss_cons (qs_if (qw_pt (qw_or (qb_not (qb_val (qe_call (F_is_between t) hr (by decide) rfl (qa_cons (qv 1) (qa_cons qe_int (qa_cons (qg t.c_MOST_PARTS) qa_nil)))))) (qw_or1 (qb_not (qb_val (qe_call (F_is_between t) hr (by decide) rfl (qa_cons (qv 2) (qa_cons qe_int (qa_cons (qg t.c_MOST_DAYS) qa_nil))))))))) (qss_one qs_stuck) qss_nil) (qss_cons (qs_if (qw_pt (qw_or (qb_not (qb_val (qe_call (F_are_widths t) hr (by decide) rfl (qa_cons (qv 3) (qa_cons (qv 1) qa_nil))))) (qw_or1 (qb_not (qb_val (qe_call (F_is_between t) hr (by decide) rfl (qa_cons (qv 4) (qa_cons qe_int (qa_cons (qv 2) qa_nil))))))))) (qss_one qs_stuck) qss_nil) (qss_cons (qs_expr (qe_call (F_look_at_rule t) hr (by decide) rfl (qa_cons (qv 5) qa_nil))) (qss_cons (qs_if (qb_not (qb_val (qe_call (F_are_words t) hr (by decide) rfl (qa_cons (qv 6) qa_nil)))) (qss_one qs_stuck) qss_nil) (qss_cons (qs_slt (c := 12) (i := 0) t.sc_Hall t.sl_Hall_many_parts (by decide) (qv 0) (qv 1)) (qss_cons (qs_slt (c := 12) (i := 1) t.sc_Hall t.sl_Hall_many_days (by decide) (qv 0) (qv 2)) (qss_cons (qs_slt (c := 12) (i := 2) t.sc_Hall t.sl_Hall_own_widths (by decide) (qv 0) (qv 3)) (qss_cons (qs_slt (c := 12) (i := 3) t.sc_Hall t.sl_Hall_own_longest (by decide) (qv 0) (qv 4)) (qss_cons (qs_slt (c := 12) (i := 4) t.sc_Hall t.sl_Hall_points (by decide) (qv 0) (qe_frz (qe_dk1 (t := (.one 7)) (own := [("point", 7)]) ok S.nd (qi_dict ok (qg t.c_POINTS)) (blkOk_by rfl) (by intro i hi; revert i; decide) (fun s H c cl fp => (pg_name S.nd rfl (by first | exact .inl rfl | exact .inr rfl))) (fun s H c cl fp => qts_nil) (fun s H c cl fp => (qv 7)) (fun s H c cl fp => (qe_ix ok.blk (qv 5) (qv 7) (fun _ _ => rfl)))))) (qss_one (qs_slt (c := 12) (i := 5) t.sc_Hall t.sl_Hall_told_words (by decide) (qv 0) (qv 6))))))))))))
theorem M_Hall (t : Tx P w K mg C) : FMS P w K mg base C 4 "Hall" 12 6 m_Hall := by
  obtain ⟨h1, h2⟩ := t.mk_Hall
  exact ⟨t.q_Hall___init__, _, h1, F_Hall___init__ t, h2, sim_mkF _ _ _⟩
theorem sc__law_built : FnScope ["_law_t"] ["_law_t"] (defScope s__law_built) := ⟨rfl, rfl, rfl, by decide +kernel, rfl, by decide +kernel, by decide +kernel⟩
theorem F__law_built (t : Tx P w K mg C) : FS P w K mg base C 6 "_law_built" 1 g__law_built := fsD t.hC t.hP t.hw t.d__law_built sc__law_built fun f0 cdv A outer sh H E ok hr => by
  have S := sc__law_built
  exact (qss_one (qs_ret (qe_makeS (M_Hall t) hr (by decide) rfl (qa_cons (qe_ix ok (qv 0) qe_int (fun _ _ => rfl)) (qa_cons (qe_ix ok (qv 0) qe_int (fun _ _ => rfl)) (qa_cons (qe_ix ok (qv 0) qe_int (fun _ _ => rfl)) (qa_cons (qe_ix ok (qv 0) qe_int (fun _ _ => rfl)) (qa_cons (qe_ix ok (qv 0) qe_int (fun _ _ => rfl)) (qa_cons (qe_ix ok (qv 0) qe_int (fun _ _ => rfl)) qa_nil)))))))))
theorem sc__law_every : FnScope ["_law_t", "_law_asked", "_law_width", "_law_day", "_law_cells_here", "_law_moves", "_law_cell", "_law_found", "_law_n", "_law_part", "_law_start_here", "_law_one", "_law_deed"] ["_law_t"] (defScope s__law_every) := ⟨rfl, rfl, rfl, by decide +kernel, rfl, by decide +kernel, by decide +kernel⟩
theorem F__law_every (t : Tx P w K mg C) : FS P w K mg base C 1 "_law_every" 1 g__law_every := fsD t.hC t.hP t.hw t.d__law_every sc__law_every fun f0 cdv A outer sh H E ok hr => by
  have S := sc__law_every
  exact (qss_cons (qs_set (i := 1) S.nd rfl (.inl rfl) (qe_lst qa_nil)) (qss_cons (qs_for (t := (.one 2)) ok PassesOwn.never (qi_seq ok (qe_ix ok (qv 0) qe_int (fun _ _ => rfl))) (pg_name S.nd rfl (by first | exact .inl rfl | exact .inr rfl)) (qss_one (qs_for (t := (.one 3)) ok PassesOwn.never (qi_range1 rfl t.n_range (qe_ix ok (qv 0) qe_int (fun _ _ => rfl))) (pg_name S.nd rfl (by first | exact .inl rfl | exact .inr rfl)) (qss_one (qs_set (i := 1) S.nd rfl (.inl rfl) (qe_op op_addAll (rq_add ok.hC) (qv 1) (qe_lc1 (t := (.one 8)) (own := [("_law_n", 8)]) finFz ok S.nd (qi_range2 rfl t.n_range qe_int (qe_op op_addAll (rq_add ok.hC) (qe_ix ok (qv 0) qe_int (fun _ _ => rfl)) qe_int)) (blkOk_by rfl) (by intro i hi; revert i; decide) (fun s H c cl fp => (pg_name S.nd rfl (by first | exact .inl rfl | exact .inr rfl))) (fun s H c cl fp => (qts_one (qb_cmp op_le rq_le (qe_op op_addAll (rq_add ok.blk.hC) (qv 3) (qv 8)) (qe_ix ok.blk (qv 0) qe_int (fun _ _ => rfl)) rfl))) (fun s H c cl fp => (qe_tup (qa_cons (qv 2) (qa_cons (qv 3) (qa_cons (qv 8) qa_nil)))))))))))) (qss_cons (qs_set (i := 4) S.nd rfl (.inl rfl) (qe_lst qa_nil)) (qss_cons (qs_for (t := (.one 3)) ok PassesOwn.never (qi_range1 rfl t.n_range (qe_ix ok (qv 0) qe_int (fun _ _ => rfl))) (pg_name S.nd rfl (by first | exact .inl rfl | exact .inr rfl)) (qss_one (qs_set (i := 4) S.nd rfl (.inl rfl) (qe_op op_addAll (rq_add ok.hC) (qv 4) (qe_lc1 (t := (.one 9)) (own := [("_law_part", 9)]) finFz ok S.nd (qi_range1 rfl t.n_range (qe_ix ok (qv 0) qe_int (fun _ _ => rfl))) (blkOk_by rfl) (by intro i hi; revert i; decide) (fun s H c cl fp => (pg_name S.nd rfl (by first | exact .inl rfl | exact .inr rfl))) (fun s H c cl fp => qts_nil) (fun s H c cl fp => (qe_tup (qa_cons (qv 3) (qa_cons (qv 9) qa_nil))))))))) (qss_cons (qs_set (i := 5) S.nd rfl (.inl rfl) (qe_lst qa_nil)) (qss_cons (qs_for (t := (.one 6)) ok PassesOwn.never (qi_seq ok (qv 4)) (pg_name S.nd rfl (by first | exact .inl rfl | exact .inr rfl)) (qss_one (qs_set (i := 5) S.nd rfl (.inl rfl) (qe_op op_addAll (rq_add ok.hC) (qv 5) (qe_lc1 (t := (.one 10)) (own := [("_law_start_here", 10)]) finFz ok S.nd (qi_range1 rfl t.n_range (qe_ix ok (qv 0) qe_int (fun _ _ => rfl))) (blkOk_by rfl) (by intro i hi; revert i; decide) (fun s H c cl fp => (pg_name S.nd rfl (by first | exact .inl rfl | exact .inr rfl))) (fun s H c cl fp => qts_nil) (fun s H c cl fp => (qe_op op_addAll (rq_add ok.blk.hC) (qe_op op_addAll (rq_add ok.blk.hC) (qe_tup (qa_cons qe_str qa_nil)) (qv 6)) (qe_tup (qa_cons (qv 10) qa_nil))))))))) (qss_cons (qs_set (i := 7) S.nd rfl (.inl rfl) (qe_op op_addAll (rq_add ok.hC) (qe_lc1 (t := (.one 11)) (own := [("_law_one", 11)]) finFz ok S.nd (qi_seq ok (qv 1)) (blkOk_by rfl) (by intro i hi; revert i; decide) (fun s H c cl fp => (pg_name S.nd rfl (by first | exact .inl rfl | exact .inr rfl))) (fun s H c cl fp => qts_nil) (fun s H c cl fp => (qe_op op_addAll (rq_add ok.blk.hC) (qe_tup (qa_cons qe_str qa_nil)) (qv 11)))) (qe_lc1 (t := (.one 11)) (own := [("_law_one", 11)]) finFz ok S.nd (qi_seq ok (qv 1)) (blkOk_by rfl) (by intro i hi; revert i; decide) (fun s H c cl fp => (pg_name S.nd rfl (by first | exact .inl rfl | exact .inr rfl))) (fun s H c cl fp => qts_nil) (fun s H c cl fp => (qe_op op_addAll (rq_add ok.blk.hC) (qe_tup (qa_cons qe_str qa_nil)) (qv 11)))))) (qss_cons (qs_set (i := 7) S.nd rfl (.inl rfl) (qe_op op_addAll (rq_add ok.hC) (qe_op op_addAll (rq_add ok.hC) (qe_op op_addAll (rq_add ok.hC) (qv 7) (qe_lc1 (t := (.one 6)) (own := [("_law_cell", 6)]) finFz ok S.nd (qi_seq ok (qv 4)) (blkOk_by rfl) (by intro i hi; revert i; decide) (fun s H c cl fp => (pg_name S.nd rfl (by first | exact .inl rfl | exact .inr rfl))) (fun s H c cl fp => qts_nil) (fun s H c cl fp => (qe_op op_addAll (rq_add ok.blk.hC) (qe_tup (qa_cons qe_str qa_nil)) (qv 6))))) (qe_lc1 (t := (.one 6)) (own := [("_law_cell", 6)]) finFz ok S.nd (qi_seq ok (qv 4)) (blkOk_by rfl) (by intro i hi; revert i; decide) (fun s H c cl fp => (pg_name S.nd rfl (by first | exact .inl rfl | exact .inr rfl))) (fun s H c cl fp => qts_nil) (fun s H c cl fp => (qe_op op_addAll (rq_add ok.blk.hC) (qe_tup (qa_cons qe_str qa_nil)) (qv 6))))) (qe_lst (qa_cons (qe_tup (qa_cons qe_str qa_nil)) qa_nil)))) (qss_cons (qs_set (i := 7) S.nd rfl (.inl rfl) (qe_op op_addAll (rq_add ok.hC) (qe_op op_addAll (rq_add ok.hC) (qv 7) (qe_lc1 (t := (.one 6)) (own := [("_law_cell", 6)]) finFz ok S.nd (qi_seq ok (qv 4)) (blkOk_by rfl) (by intro i hi; revert i; decide) (fun s H c cl fp => (pg_name S.nd rfl (by first | exact .inl rfl | exact .inr rfl))) (fun s H c cl fp => qts_nil) (fun s H c cl fp => (qe_op op_addAll (rq_add ok.blk.hC) (qe_tup (qa_cons qe_str qa_nil)) (qv 6))))) (qv 5))) (qss_one (qs_ret (qe_lc1 (t := (.one 12)) (own := [("_law_deed", 12)]) finFz ok S.nd (qi_seq ok (qv 7)) (blkOk_by rfl) (by intro i hi; revert i; decide) (fun s H c cl fp => (pg_name S.nd rfl (by first | exact .inl rfl | exact .inr rfl))) (fun s H c cl fp => (qts_one (qw_pt (qw_or (qb_cmp (op_eqD ok.blk.hu64) (rq_eq ok.blk.hC) (qe_ix ok.blk (qv 12) qe_int (fun _ _ => rfl)) qe_str rfl) (qw_or1 (qb_cmp (op_inQ ok.blk) (rq_in ok.blk false) (qe_ix ok.blk (qv 12) qe_int (fun _ _ => rfl)) (qe_ix ok.blk (qv 0) qe_int (fun _ _ => rfl)) rfl)))))) (fun s H c cl fp => (qv 12))))))))))))))
theorem sc__law_cells : FnScope ["_law_row_here", "_law_found", "_law_day", "_law_part"] ["_law_row_here"] (defScope s__law_cells) := ⟨rfl, rfl, rfl, by decide +kernel, rfl, by decide +kernel, by decide +kernel⟩
theorem F__law_cells (t : Tx P w K mg C) : FS P w K mg base C 1 "_law_cells" 1 g__law_cells := fsD t.hC t.hP t.hw t.d__law_cells sc__law_cells fun f0 cdv A outer sh H E ok hr => by
  have S := sc__law_cells
  exact (qss_cons (qs_set (i := 1) S.nd rfl (.inl rfl) (qe_lst qa_nil)) (qss_cons (qs_for (t := (.one 2)) ok PassesOwn.never (qi_range2 rfl t.n_range (qe_ix ok (qv 0) qe_int (fun _ _ => rfl)) (qe_op op_addAll (rq_add ok.hC) (qe_ix ok (qv 0) qe_int (fun _ _ => rfl)) (qe_ix ok (qv 0) qe_int (fun _ _ => rfl)))) (pg_name S.nd rfl (by first | exact .inl rfl | exact .inr rfl)) (qss_one (qs_set (i := 1) S.nd rfl (.inl rfl) (qe_op op_addAll (rq_add ok.hC) (qv 1) (qe_lc1 (t := (.one 3)) (own := [("_law_part", 3)]) finFz ok S.nd (qi_range2 rfl t.n_range (qe_ix ok (qv 0) qe_int (fun _ _ => rfl)) (qe_op op_addAll (rq_add ok.hC) (qe_ix ok (qv 0) qe_int (fun _ _ => rfl)) (qe_ix ok (qv 0) qe_int (fun _ _ => rfl)))) (blkOk_by rfl) (by intro i hi; revert i; decide) (fun s H c cl fp => (pg_name S.nd rfl (by first | exact .inl rfl | exact .inr rfl))) (fun s H c cl fp => qts_nil) (fun s H c cl fp => (qe_tup (qa_cons (qv 2) (qa_cons (qv 3) qa_nil))))))))) (qss_one (qs_ret (qv 1)))))
theorem sc__law_clash : FnScope ["_law_one", "_law_two", "_law_first", "_law_second", "_law_part"] ["_law_one", "_law_two"] (defScope s__law_clash) := ⟨rfl, rfl, rfl, by decide +kernel, rfl, by decide +kernel, by decide +kernel⟩
theorem F__law_clash (t : Tx P w K mg C) : FS P w K mg base C 1 "_law_clash" 2 g__law_clash := fsD t.hC t.hP t.hw t.d__law_clash sc__law_clash fun f0 cdv A outer sh H E ok hr => by
  have S := sc__law_clash
  exact (qss_cons (qs_if (qw_pt (qw_and (qb_cmp (op_neD ok.hu64) (rq_ne ok.hC) (qe_ix ok (qv 1) qe_int (fun _ _ => rfl)) (qe_op op_addAll (rq_add ok.hC) (qe_ix ok (qv 0) qe_int (fun _ _ => rfl)) (qe_ix ok (qv 0) qe_int (fun _ _ => rfl))) rfl) (qw_and1 (qb_cmp (op_neD ok.hu64) (rq_ne ok.hC) (qe_ix ok (qv 0) qe_int (fun _ _ => rfl)) (qe_op op_addAll (rq_add ok.hC) (qe_ix ok (qv 1) qe_int (fun _ _ => rfl)) (qe_ix ok (qv 1) qe_int (fun _ _ => rfl))) rfl)))) (qss_one (qs_ret qe_bl)) qss_nil) (qss_cons (qs_set (i := 2) S.nd rfl (.inl rfl) (qe_lstRg2 ok rfl t.n_list rfl t.n_range (qe_ix ok (qv 0) qe_int (fun _ _ => rfl)) (qe_op op_addAll (rq_add ok.hC) (qe_ix ok (qv 0) qe_int (fun _ _ => rfl)) (qe_ix ok (qv 0) qe_int (fun _ _ => rfl))))) (qss_cons (qs_set (i := 3) S.nd rfl (.inr rfl) (qe_lstRg2 ok rfl t.n_list rfl t.n_range (qe_ix ok (qv 1) qe_int (fun _ _ => rfl)) (qe_op op_addAll (rq_add ok.hC) (qe_ix ok (qv 1) qe_int (fun _ _ => rfl)) (qe_ix ok (qv 1) qe_int (fun _ _ => rfl))))) (qss_one (qs_ret (qe_and (qe_cmp (op_neD ok.hu64) (rq_ne ok.hC) (qv 2) (qv 3) rfl) (qe_one (qe_cmp (op_neD ok.hu64) (rq_ne ok.hC) (qe_lc1 (t := (.one 4)) (own := [("_law_part", 4)]) finFz ok S.nd (qi_seq ok (qv 2)) (blkOk_by rfl) (by intro i hi; revert i; decide) (fun s H c cl fp => (pg_name S.nd rfl (by first | exact .inl rfl | exact .inr rfl))) (fun s H c cl fp => (qts_one (qb_cmp (op_inQ ok.blk) (rq_in ok.blk false) (qv 4) (qv 3) rfl))) (fun s H c cl fp => (qv 4))) (qe_lst qa_nil) rfl))))))))
theorem sc__law_free : FnScope ["_law_row_here", "_law_rows", "_law_taken", "_law_other", "_law_cell"] ["_law_row_here", "_law_rows"] (defScope s__law_free) := ⟨rfl, rfl, rfl, by decide +kernel, rfl, by decide +kernel, by decide +kernel⟩
theorem F__law_free (t : Tx P w K mg C) : FS P w K mg base C 2 "_law_free" 2 g__law_free := fsD t.hC t.hP t.hw t.d__law_free sc__law_free fun f0 cdv A outer sh H E ok hr => by
  have S := sc__law_free
  exact (qss_cons (qs_set (i := 2) S.nd rfl (.inr rfl) (qe_lst qa_nil)) (qss_cons (qs_for (t := (.one 3)) ok PassesOwn.never (qi_seq ok (qv 1)) (pg_name S.nd rfl (by first | exact .inl rfl | exact .inr rfl)) (qss_one (qs_set (i := 2) S.nd rfl (.inr rfl) (qe_op op_addAll (rq_add ok.hC) (qv 2) (qe_call (F__law_cells t) hr (by decide) rfl (qa_cons (qv 3) qa_nil)))))) (qss_one (qs_ret (qe_cmp (op_eqD ok.hu64) (rq_eq ok.hC) (qe_lc1 (t := (.one 4)) (own := [("_law_cell", 4)]) finFz ok S.nd (qi_seq ok (qe_call (F__law_cells t) hr (by decide) rfl (qa_cons (qv 0) qa_nil))) (blkOk_by rfl) (by intro i hi; revert i; decide) (fun s H c cl fp => (pg_name S.nd rfl (by first | exact .inl rfl | exact .inr rfl))) (fun s H c cl fp => (qts_one (qb_cmp (op_inQ ok.blk) (rq_in ok.blk false) (qv 4) (qv 2) rfl))) (fun s H c cl fp => (qv 4))) (qe_lst qa_nil) rfl)))))
theorem sc__law_suits : FnScope ["_law_row_here", "_law_rows", "_law_other"] ["_law_row_here", "_law_rows"] (defScope s__law_suits) := ⟨rfl, rfl, rfl, by decide +kernel, rfl, by decide +kernel, by decide +kernel⟩
theorem F__law_suits (t : Tx P w K mg C) : FS P w K mg base C 3 "_law_suits" 2 g__law_suits := fsD t.hC t.hP t.hw t.d__law_suits sc__law_suits fun f0 cdv A outer sh H E ok hr => by
  have S := sc__law_suits
  exact (qss_one (qs_ret (qe_and (qe_call (F__law_free t) hr (by decide) rfl (qa_cons (qv 0) (qa_cons (qv 1) qa_nil))) (qe_one (qe_cmp (op_eqD ok.hu64) (rq_eq ok.hC) (qe_lc1 (t := (.one 2)) (own := [("_law_other", 2)]) finFz ok S.nd (qi_seq ok (qv 1)) (blkOk_by rfl) (by intro i hi; revert i; decide) (fun s H c cl fp => (pg_name S.nd rfl (by first | exact .inl rfl | exact .inr rfl))) (fun s H c cl fp => (qts_one (qb_val (qe_call (F__law_clash t) hr (by decide) rfl (qa_cons (qv 0) (qa_cons (qv 2) qa_nil)))))) (fun s H c cl fp => (qv 2))) (qe_lst qa_nil) rfl)))))
theorem sc__law_row : FnScope ["_law_deed", "_law_start_here"] ["_law_deed", "_law_start_here"] (defScope s__law_row) := ⟨rfl, rfl, rfl, by decide +kernel, rfl, by decide +kernel, by decide +kernel⟩
theorem F__law_row (t : Tx P w K mg C) : FS P w K mg base C 1 "_law_row" 2 g__law_row := fsD t.hC t.hP t.hw t.d__law_row sc__law_row fun f0 cdv A outer sh H E ok hr => by
  have S := sc__law_row
  exact (qss_one (qs_ret (qe_tup (qa_cons (qe_ix ok (qv 0) qe_int (fun _ _ => rfl)) (qa_cons (qv 1) (qa_cons (qe_ix ok (qv 0) qe_int (fun _ _ => rfl)) (qa_cons (qe_ix ok (qv 0) qe_int (fun _ _ => rfl)) (qa_cons (qe_cmp (op_eqD ok.hu64) (rq_eq ok.hC) (qe_ix ok (qv 0) qe_int (fun _ _ => rfl)) qe_str rfl) qa_nil))))))))
theorem sc__law_suiting : FnScope ["_law_t", "_law_deed", "_law_rows", "_law_n"] ["_law_t", "_law_deed", "_law_rows"] (defScope s__law_suiting) := ⟨rfl, rfl, rfl, by decide +kernel, rfl, by decide +kernel, by decide +kernel⟩
theorem F__law_suiting (t : Tx P w K mg C) : FS P w K mg base C 4 "_law_suiting" 3 g__law_suiting := fsD t.hC t.hP t.hw t.d__law_suiting sc__law_suiting fun f0 cdv A outer sh H E ok hr => by
  have S := sc__law_suiting
  exact (qss_one (qs_ret (qe_lc1 (t := (.one 3)) (own := [("_law_n", 3)]) finFz ok S.nd (qi_range1 rfl t.n_range (qe_op op_addAll (rq_add ok.hC) (qe_op op_sub rq_sub (qe_ix ok (qv 0) qe_int (fun _ _ => rfl)) (qe_ix ok (qv 1) qe_int (fun _ _ => rfl))) qe_int)) (blkOk_by rfl) (by intro i hi; revert i; decide) (fun s H c cl fp => (pg_name S.nd rfl (by first | exact .inl rfl | exact .inr rfl))) (fun s H c cl fp => (qts_one (qb_val (qe_call (F__law_suits t) hr (by decide) rfl (qa_cons (qe_call (F__law_row t) hr (by decide) rfl (qa_cons (qv 1) (qa_cons (qv 3) qa_nil))) (qa_cons (qv 2) qa_nil)))))) (fun s H c cl fp => (qv 3)))))
theorem sc__law_gap : FnScope ["_law_t", "_law_deed", "_law_start_here", "_law_rows", "_law_found", "_law_low", "_law_high"] ["_law_t", "_law_deed", "_law_start_here", "_law_rows"] (defScope s__law_gap) := ⟨rfl, rfl, rfl, by decide +kernel, rfl, by decide +kernel, by decide +kernel⟩
theorem F__law_gap (t : Tx P w K mg C) : FS P w K mg base C 3 "_law_gap" 4 g__law_gap := fsD t.hC t.hP t.hw t.d__law_gap sc__law_gap fun f0 cdv A outer sh H E ok hr => by
  have S := sc__law_gap
  exact (qss_cons (qs_set (i := 4) S.nd rfl (.inl rfl) (qe_ix ok (qv 1) qe_int (fun _ _ => rfl))) (qss_cons (qs_set (i := 5) S.nd rfl (.inl rfl) (qe_op op_sub rq_sub (qv 2) qe_int)) (qss_cons (qs_while PassesOwn.never (qw_pt (qw_and (qb_cmp op_ge rq_ge (qv 5) qe_int rfl) (qw_and1 (qb_val (qe_call (F__law_free t) hr (by decide) rfl (qa_cons (qe_tup (qa_cons (qe_ix ok (qv 1) qe_int (fun _ _ => rfl)) (qa_cons (qv 5) (qa_cons (qe_ix ok (qv 1) qe_int (fun _ _ => rfl)) (qa_cons qe_int (qa_cons qe_bl qa_nil)))))) (qa_cons (qv 3) qa_nil))))))) (qss_cons (qs_set (i := 4) S.nd rfl (.inl rfl) (qe_op op_addAll (rq_add ok.hC) (qv 4) qe_int)) (qss_one (qs_set (i := 5) S.nd rfl (.inl rfl) (qe_op op_sub rq_sub (qv 5) qe_int))))) (qss_cons (qs_set (i := 6) S.nd rfl (.inl rfl) (qe_op op_addAll (rq_add ok.hC) (qv 2) (qe_ix ok (qv 1) qe_int (fun _ _ => rfl)))) (qss_cons (qs_while PassesOwn.never (qw_pt (qw_and (qb_cmp op_lt rq_lt (qv 6) (qe_ix ok (qv 0) qe_int (fun _ _ => rfl)) rfl) (qw_and1 (qb_val (qe_call (F__law_free t) hr (by decide) rfl (qa_cons (qe_tup (qa_cons (qe_ix ok (qv 1) qe_int (fun _ _ => rfl)) (qa_cons (qv 6) (qa_cons (qe_ix ok (qv 1) qe_int (fun _ _ => rfl)) (qa_cons qe_int (qa_cons qe_bl qa_nil)))))) (qa_cons (qv 3) qa_nil))))))) (qss_cons (qs_set (i := 4) S.nd rfl (.inl rfl) (qe_op op_addAll (rq_add ok.hC) (qv 4) qe_int)) (qss_one (qs_set (i := 6) S.nd rfl (.inl rfl) (qe_op op_addAll (rq_add ok.hC) (qv 6) qe_int))))) (qss_one (qs_ret (qv 4))))))))
theorem sc__law_let : FnScope ["_law_t", "_law_deed", "_law_rows", "_law_found", "_law_start_here", "_law_row_here", "_law_good"] ["_law_t", "_law_deed", "_law_rows"] (defScope s__law_let) := ⟨rfl, rfl, rfl, by decide +kernel, rfl, by decide +kernel, by decide +kernel⟩
theorem F__law_let (t : Tx P w K mg C) : FS P w K mg base C 4 "_law_let" 3 g__law_let := fsD t.hC t.hP t.hw t.d__law_let sc__law_let fun f0 cdv A outer sh H E ok hr => by
  have S := sc__law_let
  exact (qss_cons (qs_set (i := 3) S.nd rfl (.inl rfl) (qe_lstC qa_nil)) (qss_cons (qs_for (t := (.one 4)) ok PassesOwn.never (qi_range1 rfl t.n_range (qe_op op_addAll (rq_add ok.hC) (qe_op op_sub rq_sub (qe_ix ok (qv 0) qe_int (fun _ _ => rfl)) (qe_ix ok (qv 1) qe_int (fun _ _ => rfl))) qe_int)) (pg_name S.nd rfl (by first | exact .inl rfl | exact .inr rfl)) (qss_cons (qs_set (i := 5) S.nd rfl (.inl rfl) (qe_call (F__law_row t) hr (by decide) rfl (qa_cons (qv 1) (qa_cons (qv 4) qa_nil)))) (qss_cons (qs_set (i := 6) S.nd rfl (.inl rfl) (qe_if (qb_cmp (op_eqD ok.hu64) (rq_eq ok.hC) (qe_ix ok (qe_ix ok (qv 0) qe_int (fun _ _ => rfl)) qe_str (fun _ _ => rfl)) qe_str rfl) (qe_call (F__law_suits t) hr (by decide) rfl (qa_cons (qv 5) (qa_cons (qv 2) qa_nil))) (qe_call (F__law_free t) hr (by decide) rfl (qa_cons (qv 5) (qa_cons (qv 2) qa_nil))))) (qss_one (qs_if (qw_pt (qw_and (qb_val (qv 6)) (qw_and1 (qw_pt (qw_or (qb_cmp (op_eqD ok.hu64) (rq_eq ok.hC) (qe_ix ok (qe_ix ok (qv 0) qe_int (fun _ _ => rfl)) qe_str (fun _ _ => rfl)) qe_str rfl) (qw_or1 (qb_cmp (op_eqD ok.hu64) (rq_eq ok.hC) (qe_op op_mod rq_mod (qv 4) (qe_ix ok (qv 1) qe_int (fun _ _ => rfl))) qe_int rfl))))))) (qss_one (qs_expr (qe_mt PySem.F.plainAttrs_list PySem.F.slot_list_append PySem.F.type_list_append mt_append (rq_append ok) (qv 3) (qa_cons (qv 4) qa_nil)))) qss_nil))))) (qss_frz (qss_one (qs_ret (qe_frz (qv 3)))))))
theorem sc__law_given : FnScope ["_law_t", "_law_deed", "_law_rows", "_law_firm", "_law_some", "_law_starts", "_law_row_here", "_law_start_here"] ["_law_t", "_law_deed", "_law_rows"] (defScope s__law_given) := ⟨rfl, rfl, rfl, by decide +kernel, rfl, by decide +kernel, by decide +kernel⟩
theorem F__law_given (t : Tx P w K mg C) : FS P w K mg base C 5 "_law_given" 3 g__law_given := fsD t.hC t.hP t.hw t.d__law_given sc__law_given fun f0 cdv A outer sh H E ok hr => by
  have S := sc__law_given
  exact (qss_cons (qs_lc1 (t := (.one 6)) (own := [("_law_row_here", 6)]) finFz ok S.nd rfl rfl (sw_true rfl rfl rfl rfl) (qi_seq ok (qv 2)) (blkOk_by rfl) (by intro i hi; revert i; decide) (fun s H c cl fp => (pg_name S.nd rfl (by first | exact .inl rfl | exact .inr rfl))) (fun s H c cl fp => (qts_one (qb_not (qb_val (qe_ix ok.blk (qv 6) qe_int (fun _ _ => rfl)))))) (fun s H c cl fp => (qv 6))) (qss_cons (qs_set (i := 4) S.nd rfl (.inr rfl) (qv 2)) (qss_cons (qs_if (qw_pt (qw_and (qb_cmp (op_eqD ok.hu64) (rq_eq ok.hC) (qe_ix ok (qv 1) qe_int (fun _ _ => rfl)) qe_str rfl) (qw_and1 (qb_cmp (op_eqD ok.hu64) (rq_eq ok.hC) (qe_ix ok (qe_ix ok (qv 0) qe_int (fun _ _ => rfl)) qe_str (fun _ _ => rfl)) qe_str rfl)))) (qss_one (qs_set (i := 4) S.nd rfl (.inr rfl) (qv 3))) qss_nil) (qss_cons (qs_if (qw_pt (qw_and (qb_cmp (op_eqD ok.hu64) (rq_eq ok.hC) (qe_ix ok (qv 1) qe_int (fun _ _ => rfl)) qe_str rfl) (qw_and (qb_cmp (op_eqD ok.hu64) (rq_eq ok.hC) (qe_ix ok (qe_ix ok (qv 0) qe_int (fun _ _ => rfl)) qe_str (fun _ _ => rfl)) qe_str rfl) (qw_and1 (qb_cmp (op_eqD ok.hu64) (rq_eq ok.hC) (qe_call (F__law_let t) hr (by decide) rfl (qa_cons (qv 0) (qa_cons (qv 1) (qa_cons (qv 2) qa_nil)))) (qe_lst qa_nil) rfl))))) (qss_one (qs_set (i := 4) S.nd rfl (.inr rfl) (qv 3))) qss_nil) (qss_cons (qs_set (i := 5) S.nd rfl (.inl rfl) (qe_call (F__law_let t) hr (by decide) rfl (qa_cons (qv 0) (qa_cons (qv 1) (qa_cons (qv 4) qa_nil))))) (qss_cons (qs_if (qb_cmp (op_eqD ok.hu64) (rq_eq ok.hC) (qv 5) (qe_lst qa_nil) rfl) (qss_one (qs_ret qe_non)) qss_nil) (qss_cons (qs_if (qb_cmp (op_neD ok.hu64) (rq_ne ok.hC) (qe_ix ok (qe_ix ok (qv 0) qe_int (fun _ _ => rfl)) qe_str (fun _ _ => rfl)) qe_str rfl) (qss_one (qs_ret (qe_if (qb_cmp (op_eqD ok.hu64) (rq_eq ok.hC) (qe_ix ok (qe_ix ok (qv 0) qe_int (fun _ _ => rfl)) qe_str (fun _ _ => rfl)) qe_str rfl) (qe_ix ok (qv 5) qe_int (fun _ _ => rfl)) (qe_ix ok (qv 5) qe_neg (fun _ _ => rfl))))) qss_nil) (qss_one (qs_ret (qe_ix ok (qe_ix ok (qe_callB (cr_sortedQ ok) (rq_sorted ok) rfl t.n_sorted (by decide +kernel) (qa_cons (qe_lc1 (t := (.one 7)) (own := [("_law_start_here", 7)]) finFz ok S.nd (qi_seq ok (qv 5)) (blkOk_by rfl) (by intro i hi; revert i; decide) (fun s H c cl fp => (pg_name S.nd rfl (by first | exact .inl rfl | exact .inr rfl))) (fun s H c cl fp => qts_nil) (fun s H c cl fp => (qe_tup (qa_cons (qe_call (F__law_gap t) hr (by decide) rfl (qa_cons (qv 0) (qa_cons (qv 1) (qa_cons (qv 7) (qa_cons (qv 4) qa_nil))))) (qa_cons (qv 7) qa_nil))))) qa_nil)) qe_int (fun _ _ => rfl)) qe_int (fun _ _ => rfl)))))))))))
theorem sc__law_taker : FnScope ["_law_rows", "_law_deed", "_law_found", "_law_row_here"] ["_law_rows", "_law_deed"] (defScope s__law_taker) := ⟨rfl, rfl, rfl, by decide +kernel, rfl, by decide +kernel, by decide +kernel⟩
theorem F__law_taker (t : Tx P w K mg C) : FS P w K mg base C 2 "_law_taker" 2 g__law_taker := fsD t.hC t.hP t.hw t.d__law_taker sc__law_taker fun f0 cdv A outer sh H E ok hr => by
  have S := sc__law_taker
  exact (qss_cons (qs_lc1 (t := (.one 3)) (own := [("_law_row_here", 3)]) finFz ok S.nd rfl rfl (sw_true rfl rfl rfl rfl) (qi_seq ok (qv 0)) (blkOk_by rfl) (by intro i hi; revert i; decide) (fun s H c cl fp => (pg_name S.nd rfl (by first | exact .inl rfl | exact .inr rfl))) (fun s H c cl fp => (qts_one (qb_cmp (op_inQ ok.blk) (rq_in ok.blk false) (qe_sl ok.blk (qv 1) (qo_some qe_int) (qo_some qe_int)) (qe_call (F__law_cells t) hr (by decide) rfl (qa_cons (qv 3) qa_nil)) rfl))) (fun s H c cl fp => (qv 3))) (qss_one (qs_ret (qe_if (qb_cmp (op_neD ok.hu64) (rq_ne ok.hC) (qv 2) (qe_lst qa_nil) rfl) (qe_ix ok (qv 2) qe_int (fun _ _ => rfl)) qe_non))))
theorem sc__law_may : FnScope ["_law_t", "_law_rows", "_law_deed", "_law_own", "_law_row_here"] ["_law_t", "_law_rows", "_law_deed"] (defScope s__law_may) := ⟨rfl, rfl, rfl, by decide +kernel, rfl, by decide +kernel, by decide +kernel⟩
theorem F__law_may (t : Tx P w K mg C) : FS P w K mg base C 3 "_law_may" 3 g__law_may := fsD t.hC t.hP t.hw t.d__law_may sc__law_may fun f0 cdv A outer sh H E ok hr => by
  have S := sc__law_may
  exact (qss_cons (qs_if (qb_cmp (op_inQ ok) (rq_in ok false) (qe_ix ok (qv 2) qe_int (fun _ _ => rfl)) (qe_tup (qa_cons qe_str (qa_cons qe_str qa_nil))) rfl) (qss_one (qs_ret qe_bl)) qss_nil) (qss_cons (qs_if (qb_cmp (op_eqD ok.hu64) (rq_eq ok.hC) (qe_ix ok (qv 2) qe_int (fun _ _ => rfl)) qe_str rfl) (qss_one (qs_ret (qe_cmp (op_neD ok.hu64) (rq_ne ok.hC) (qe_lc1 (t := (.one 4)) (own := [("_law_row_here", 4)]) finFz ok S.nd (qi_seq ok (qv 1)) (blkOk_by rfl) (by intro i hi; revert i; decide) (fun s H c cl fp => (pg_name S.nd rfl (by first | exact .inl rfl | exact .inr rfl))) (fun s H c cl fp => (qts_one (qb_val (qe_ix ok.blk (qv 4) qe_int (fun _ _ => rfl))))) (fun s H c cl fp => (qv 4))) (qe_lst qa_nil) rfl))) qss_nil) (qss_cons (qs_set (i := 3) S.nd rfl (.inl rfl) (qe_call (F__law_taker t) hr (by decide) rfl (qa_cons (qv 1) (qa_cons (qv 2) qa_nil)))) (qss_cons (qs_if (qw_pt (qw_or (qb_cmp op_isN rq_isN (qv 3) qe_non rfl) (qw_or1 (qb_cmp (op_eqD ok.hu64) (rq_eq ok.hC) (qe_ix ok (qv 2) qe_int (fun _ _ => rfl)) qe_str rfl)))) (qss_one (qs_ret (qe_cmp op_notN rq_isNotN (qv 3) qe_non rfl))) qss_nil) (qss_cons (qs_if (qb_cmp (op_eqD ok.hu64) (rq_eq ok.hC) (qe_ix ok (qv 2) qe_int (fun _ _ => rfl)) qe_str rfl) (qss_one (qs_ret (qe_ix ok (qv 3) qe_int (fun _ _ => rfl)))) qss_nil) (qss_cons (qs_if (qb_cmp (op_eqD ok.hu64) (rq_eq ok.hC) (qe_ix ok (qv 2) qe_int (fun _ _ => rfl)) qe_str rfl) (qss_one (qs_ret (qe_cmp op_lt rq_lt (qe_op op_addAll (rq_add ok.hC) (qe_ix ok (qv 3) qe_int (fun _ _ => rfl)) (qe_ix ok (qv 3) qe_int (fun _ _ => rfl))) (qe_ix ok (qv 0) qe_int (fun _ _ => rfl)) rfl))) qss_nil) (qss_one (qs_ret (qe_and (qe_cmp (op_neD ok.hu64) (rq_ne ok.hC) (qe_ix ok (qv 3) qe_int (fun _ _ => rfl)) (qe_ix ok (qv 2) qe_int (fun _ _ => rfl)) rfl) (qe_one (qe_cmp op_le rq_le (qe_op op_addAll (rq_add ok.hC) (qe_ix ok (qv 2) qe_int (fun _ _ => rfl)) (qe_ix ok (qv 3) qe_int (fun _ _ => rfl))) (qe_ix ok (qv 0) qe_int (fun _ _ => rfl)) rfl)))))))))))
theorem sc__law_nearer : FnScope ["_law_deed", "_law_rows", "_law_days", "_law_near", "_law_row_here", "_law_cell"] ["_law_deed", "_law_rows"] (defScope s__law_nearer) := ⟨rfl, rfl, rfl, by decide +kernel, rfl, by decide +kernel, by decide +kernel⟩
theorem F__law_nearer (t : Tx P w K mg C) : FS P w K mg base C 2 "_law_nearer" 2 g__law_nearer := fsD t.hC t.hP t.hw t.d__law_nearer sc__law_nearer fun f0 cdv A outer sh H E ok hr => by
  have S := sc__law_nearer
  exact (qss_cons (qs_set (i := 2) S.nd rfl (.inr rfl) (qe_lstRg2 ok rfl t.n_list rfl t.n_range (qe_ix ok (qv 0) qe_int (fun _ _ => rfl)) (qe_op op_addAll (rq_add ok.hC) (qe_ix ok (qv 0) qe_int (fun _ _ => rfl)) (qe_ix ok (qv 0) qe_int (fun _ _ => rfl))))) (qss_cons (qs_set (i := 3) S.nd rfl (.inr rfl) (qe_lc1 (t := (.one 4)) (own := [("_law_row_here", 4)]) finFz ok S.nd (qi_seq ok (qv 1)) (blkOk_by rfl) (by intro i hi; revert i; decide) (fun s H c cl fp => (pg_name S.nd rfl (by first | exact .inl rfl | exact .inr rfl))) (fun s H c cl fp => (qts_one (qb_cmp (op_neD ok.blk.hu64) (rq_ne ok.blk.hC) (qe_lc1 (t := (.one 5)) (own := [("_law_cell", 5)]) finFz ok.blk S.nd (qi_seq ok.blk (qe_call (F__law_cells t) hr (by decide) rfl (qa_cons (qv 4) qa_nil))) (blkOk_by rfl) (by intro i hi; revert i; decide) (fun s H c cl fp => (pg_name S.nd rfl (by first | exact .inl rfl | exact .inr rfl))) (fun s H c cl fp => (qts_one (qb_cmp (op_inQ ok.blk.blk) (rq_in ok.blk.blk false) (qe_ix ok.blk.blk (qv 5) qe_int (fun _ _ => rfl)) (qv 2) rfl))) (fun s H c cl fp => (qv 5))) (qe_lst qa_nil) rfl))) (fun s H c cl fp => (qv 4)))) (qss_one (qs_ret (qe_op op_addAll (rq_add ok.hC) (qv 3) (qe_lc1 (t := (.one 4)) (own := [("_law_row_here", 4)]) finFz ok S.nd (qi_seq ok (qv 1)) (blkOk_by rfl) (by intro i hi; revert i; decide) (fun s H c cl fp => (pg_name S.nd rfl (by first | exact .inl rfl | exact .inr rfl))) (fun s H c cl fp => (qts_one (qb_cmp (op_notInQ ok.blk) (rq_in ok.blk true) (qv 4) (qv 3) rfl))) (fun s H c cl fp => (qv 4))))))))
theorem sc__law_fits : FnScope ["_law_t", "_law_left", "_law_laid", "_law_row_here", "_law_start_here", "_law_own"] ["_law_t", "_law_left", "_law_laid"] (defScope s__law_fits) := ⟨rfl, rfl, rfl, by decide +kernel, rfl, by decide +kernel, by decide +kernel⟩
theorem F__law_fits (t : Tx P w K mg C) : FS P w K mg base C 54 "_law_fits" 3 g__law_fits := fsR (k := 3) t.hC t.hP t.hw t.d__law_fits sc__law_fits (fun n grec IH f0 cdv A outer sh H E ok hr => by
  have S := sc__law_fits
  exact (qss_cons (qs_if (qb_cmp (op_eqD ok.hu64) (rq_eq ok.hC) (qv 1) (qe_lst qa_nil) rfl) (qss_one (qs_ret qe_bl)) qss_nil) (qss_cons (qs_set (i := 3) S.nd rfl (.inl rfl) (qe_ix ok (qv 1) qe_int (fun _ _ => rfl))) (qss_cons (qs_for (t := (.one 4)) ok PassesOwn.never (qi_range1 rfl t.n_range (qe_op op_addAll (rq_add ok.hC) (qe_op op_sub rq_sub (qe_ix ok (qv 0) qe_int (fun _ _ => rfl)) (qe_ix ok (qv 3) qe_int (fun _ _ => rfl))) qe_int)) (pg_name S.nd rfl (by first | exact .inl rfl | exact .inr rfl)) (qss_cons (qs_set (i := 5) S.nd rfl (.inl rfl) (qe_op op_addAll (rq_add ok.hC) (qe_tup (qa_cons (qe_ix ok (qv 3) qe_int (fun _ _ => rfl)) (qa_cons (qv 4) qa_nil))) (qe_sl ok (qv 3) (qo_some qe_int) qo_none))) (qss_one (qs_if (qw_pt (qw_and (qb_val (qe_call (F__law_suits t) hr (by omega) rfl (qa_cons (qv 5) (qa_cons (qv 2) qa_nil)))) (qw_and1 (qb_val (qe_call IH hr (by omega) rfl (qa_cons (qv 0) (qa_cons (qe_sl ok (qv 1) (qo_some qe_int) qo_none) (qa_cons (qe_op op_addAll (rq_add ok.hC) (qv 2) (qe_lst (qa_cons (qv 5) qa_nil))) qa_nil)))))))) (qss_one (qs_ret qe_bl)) qss_nil)))) (qss_one (qs_ret qe_bl)))))) 50
theorem sc__law_change : FnScope ["_law_t", "_law_rows", "_law_deed", "_law_word", "_law_start_here", "_law_own", "_law_rest", "_law_then", "_law_good", "_law_row_here"] ["_law_t", "_law_rows", "_law_deed"] (defScope s__law_change) := ⟨rfl, rfl, rfl, by decide +kernel, rfl, by decide +kernel, by decide +kernel⟩
theorem F__law_change (t : Tx P w K mg C) : FS P w K mg base C 6 "_law_change" 3 g__law_change := fsD t.hC t.hP t.hw t.d__law_change sc__law_change fun f0 cdv A outer sh H E ok hr => by
  have S := sc__law_change
  exact (qss_cons (qs_set (i := 3) S.nd rfl (.inl rfl) (qe_ix ok (qv 2) qe_int (fun _ _ => rfl))) (qss_cons (qs_if (qb_cmp (op_inQ ok) (rq_in ok false) (qv 3) (qe_tup (qa_cons qe_str (qa_cons qe_str qa_nil))) rfl) (qss_cons (qs_set (i := 4) S.nd rfl (.inl rfl) (qe_call (F__law_given t) hr (by decide) rfl (qa_cons (qv 0) (qa_cons (qv 2) (qa_cons (qv 1) qa_nil))))) (qss_cons (qs_if (qb_cmp op_isN rq_isN (qv 4) qe_non rfl) (qss_one (qs_ret (qe_lst (qa_cons qe_non (qa_cons (qv 1) (qa_cons qe_non qa_nil)))))) qss_nil) (qss_cons (qs_set (i := 5) S.nd rfl (.inr rfl) (qe_call (F__law_row t) hr (by decide) rfl (qa_cons (qv 2) (qa_cons (qv 4) qa_nil)))) (qss_one (qs_ret (qe_lst (qa_cons (qv 4) (qa_cons (qe_op op_addAll (rq_add ok.hC) (qe_lc1 (t := (.one 9)) (own := [("_law_row_here", 9)]) finFz ok S.nd (qi_seq ok (qv 1)) (blkOk_by rfl) (by intro i hi; revert i; decide) (fun s H c cl fp => (pg_name S.nd rfl (by first | exact .inl rfl | exact .inr rfl))) (fun s H c cl fp => (qts_one (qb_val (qe_call (F__law_free t) hr (by decide) rfl (qa_cons (qv 9) (qa_cons (qe_lst (qa_cons (qv 5) qa_nil)) qa_nil)))))) (fun s H c cl fp => (qv 9))) (qe_lst (qa_cons (qv 5) qa_nil))) (qa_cons (qv 5) qa_nil))))))))) qss_nil) (qss_cons (qs_if (qb_cmp (op_eqD ok.hu64) (rq_eq ok.hC) (qv 3) qe_str rfl) (qss_one (qs_ret (qe_lst (qa_cons qe_bl (qa_cons (qe_lc1 (t := (.one 9)) (own := [("_law_row_here", 9)]) finFz ok S.nd (qi_seq ok (qv 1)) (blkOk_by rfl) (by intro i hi; revert i; decide) (fun s H c cl fp => (pg_name S.nd rfl (by first | exact .inl rfl | exact .inr rfl))) (fun s H c cl fp => (qts_one (qb_not (qb_val (qe_ix ok.blk (qv 9) qe_int (fun _ _ => rfl)))))) (fun s H c cl fp => (qv 9))) (qa_cons qe_non qa_nil)))))) qss_nil) (qss_cons (qs_set (i := 5) S.nd rfl (.inr rfl) (qe_call (F__law_taker t) hr (by decide) rfl (qa_cons (qv 1) (qa_cons (qv 2) qa_nil)))) (qss_cons (qs_lc1 (t := (.one 9)) (own := [("_law_row_here", 9)]) finFz ok S.nd rfl rfl (sw_true rfl rfl rfl rfl) (qi_seq ok (qv 1)) (blkOk_by rfl) (by intro i hi; revert i; decide) (fun s H c cl fp => (pg_name S.nd rfl (by first | exact .inl rfl | exact .inr rfl))) (fun s H c cl fp => (qts_one (qb_cmp (op_neD ok.blk.hu64) (rq_ne ok.blk.hC) (qv 9) (qv 5) rfl))) (fun s H c cl fp => (qv 9))) (qss_cons (qs_if (qb_cmp (op_eqD ok.hu64) (rq_eq ok.hC) (qv 3) qe_str rfl) (qss_one (qs_ret (qe_lst (qa_cons qe_bl (qa_cons (qv 6) (qa_cons qe_non qa_nil)))))) qss_nil) (qss_cons (qs_if (qb_cmp (op_eqD ok.hu64) (rq_eq ok.hC) (qv 3) qe_str rfl) (qss_one (qs_ret (qe_lst (qa_cons qe_bl (qa_cons (qe_op op_addAll (rq_add ok.hC) (qv 6) (qe_lst (qa_cons (qe_op op_addAll (rq_add ok.hC) (qe_sl ok (qv 5) qo_none (qo_some qe_int)) (qe_tup (qa_cons qe_bl qa_nil))) qa_nil))) (qa_cons qe_non qa_nil)))))) qss_nil) (qss_cons (qs_set (i := 7) S.nd rfl (.inl rfl) (qe_op op_addAll (rq_add ok.hC) (qe_op op_addAll (rq_add ok.hC) (qe_sl ok (qv 5) qo_none (qo_some qe_int)) (qe_tup (qa_cons (qe_op op_addAll (rq_add ok.hC) (qe_ix ok (qv 5) qe_int (fun _ _ => rfl)) qe_int) qa_nil))) (qe_sl ok (qv 5) (qo_some qe_int) qo_none))) (qss_cons (qs_if (qb_cmp (op_eqD ok.hu64) (rq_eq ok.hC) (qv 3) qe_str rfl) (qss_one (qs_set (i := 7) S.nd rfl (.inl rfl) (qe_op op_addAll (rq_add ok.hC) (qe_tup (qa_cons (qe_ix ok (qv 5) qe_int (fun _ _ => rfl)) (qa_cons (qe_ix ok (qv 2) qe_int (fun _ _ => rfl)) qa_nil))) (qe_sl ok (qv 5) (qo_some qe_int) qo_none)))) qss_nil) (qss_cons (qs_set (i := 8) S.nd rfl (.inl rfl) (qe_if (qb_cmp (op_eqD ok.hu64) (rq_eq ok.hC) (qe_ix ok (qe_ix ok (qv 0) qe_int (fun _ _ => rfl)) qe_str (fun _ _ => rfl)) qe_str rfl) (qe_call (F__law_suits t) hr (by decide) rfl (qa_cons (qv 7) (qa_cons (qv 6) qa_nil))) (qe_call (F__law_free t) hr (by decide) rfl (qa_cons (qv 7) (qa_cons (qv 6) qa_nil))))) (qss_one (qs_ret (qe_if (qb_val (qv 8)) (qe_lst (qa_cons qe_bl (qa_cons (qe_op op_addAll (rq_add ok.hC) (qv 6) (qe_lst (qa_cons (qv 7) qa_nil))) (qa_cons (qv 7) qa_nil)))) (qe_lst (qa_cons qe_bl (qa_cons (qv 1) (qa_cons qe_non qa_nil)))))))))))))))))
theorem sc__law_do : FnScope ["_law_t", "_law_c", "_law_deed", "_law_told", "_law_rows", "_law_own", "_law_found", "_law_suits_here", "_law_row_here"] ["_law_t", "_law_c", "_law_deed"] (defScope s__law_do) := ⟨rfl, rfl, rfl, by decide +kernel, rfl, by decide +kernel, by decide +kernel⟩
theorem F__law_do (t : Tx P w K mg C) : FS P w K mg base C 55 "_law_do" 3 g__law_do := fsD t.hC t.hP t.hw t.d__law_do sc__law_do fun f0 cdv A outer sh H E ok hr => by
  have S := sc__law_do
  exact (qss_cons (qs_tg (t := (.lmany [3, 4, 5])) ok (qe_call (F__law_change t) hr (by decide) rfl (qa_cons (qv 0) (qa_cons (qe_ix ok (qv 1) qe_str (fun _ _ => rfl)) (qa_cons (qv 2) qa_nil)))) (pg_lst ok.calm (pgs_cons (pg_name S.nd rfl (by first | exact .inl rfl | exact .inr rfl)) (pgs_cons (pg_name S.nd rfl (by first | exact .inl rfl | exact .inr rfl)) (pgs_cons (pg_name S.nd rfl (by first | exact .inl rfl | exact .inr rfl)) pgs_nil))))) (qss_cons (qs_set (i := 6) S.nd rfl (.inl rfl) (qe_lstC qa_nil)) (qss_cons (qs_set (i := 7) S.nd rfl (.inl rfl) (qe_if (qb_cmp (op_inQ ok) (rq_in ok false) (qe_ix ok (qv 2) qe_int (fun _ _ => rfl)) (qe_tup (qa_cons qe_str (qa_cons qe_str qa_nil))) rfl) (qe_call (F__law_suiting t) hr (by decide) rfl (qa_cons (qv 0) (qa_cons (qv 2) (qa_cons (qe_ix ok (qv 1) qe_str (fun _ _ => rfl)) qa_nil)))) (qe_lst qa_nil))) (qss_cons (qs_if (qw_pt (qw_and (qb_cmp op_notN rq_isNotN (qv 5) qe_non rfl) (qw_and1 (qb_cmp (op_neD ok.hu64) (rq_ne ok.hC) (qe_lc1 (t := (.one 8)) (own := [("_law_row_here", 8)]) finFz ok S.nd (qi_seq ok (qv 4)) (blkOk_by rfl) (by intro i hi; revert i; decide) (fun s H c cl fp => (pg_name S.nd rfl (by first | exact .inl rfl | exact .inr rfl))) (fun s H c cl fp => (qts_one (qb_val (qe_call (F__law_clash t) hr (by decide) rfl (qa_cons (qv 8) (qa_cons (qv 5) qa_nil)))))) (fun s H c cl fp => (qv 8))) (qe_lst qa_nil) rfl)))) (qss_one (qs_expr (qe_mt PySem.F.plainAttrs_list PySem.F.slot_list_append PySem.F.type_list_append mt_append (rq_append ok) (qv 6) (qa_cons (qe_tup (qa_cons qe_str (qa_cons (qe_ix ok (qv 2) qe_int (fun _ _ => rfl)) qa_nil))) qa_nil)))) qss_nil) (qss_cons (qs_if (qw_pt (qw_and (qb_cmp (op_inQ ok) (rq_in ok false) (qe_ix ok (qv 2) qe_int (fun _ _ => rfl)) (qe_tup (qa_cons qe_str (qa_cons qe_str qa_nil))) rfl) (qw_and (qb_cmp op_isN rq_isN (qv 5) qe_non rfl) (qw_and1 (qb_cmp (op_eqD ok.hu64) (rq_eq ok.hC) (qv 7) (qe_lst qa_nil) rfl))))) (qss_one (qs_if (qb_val (qe_call (F__law_fits t) hr (by decide) rfl (qa_cons (qv 0) (qa_cons (qe_op op_addAll (rq_add ok.hC) (qe_lst (qa_cons (qe_call (F__law_row t) hr (by decide) rfl (qa_cons (qv 2) (qa_cons qe_int qa_nil))) qa_nil)) (qe_call (F__law_nearer t) hr (by decide) rfl (qa_cons (qv 2) (qa_cons (qe_ix ok (qv 1) qe_str (fun _ _ => rfl)) qa_nil)))) (qa_cons (qe_lst qa_nil) qa_nil))))) (qss_one (qs_expr (qe_mt PySem.F.plainAttrs_list PySem.F.slot_list_append PySem.F.type_list_append mt_append (rq_append ok) (qv 6) (qa_cons (qe_tup (qa_cons qe_str (qa_cons (qe_ix ok (qv 2) qe_int (fun _ _ => rfl)) qa_nil))) qa_nil)))) qss_nil)) qss_nil) (qss_cons (qs_if (qw_pt (qw_and (qb_cmp (op_eqD ok.hu64) (rq_eq ok.hC) (qe_ix ok (qv 2) qe_int (fun _ _ => rfl)) qe_str rfl) (qw_and (qb_cmp op_notN rq_isNotN (qv 5) qe_non rfl) (qw_and1 (qb_cmp op_le rq_le (qe_callB (call_lenQ ok) (rq_len ok) rfl t.n_len PySem.boot_len (qa_cons (qv 4) qa_nil)) (qe_callB (call_lenQ ok) (rq_len ok) rfl t.n_len PySem.boot_len (qa_cons (qe_ix ok (qv 1) qe_str (fun _ _ => rfl)) qa_nil)) rfl))))) (qss_one (qs_set (i := 6) S.nd rfl (.inl rfl) (qe_op op_addAll (rq_add ok.hC) (qv 6) (qe_sl ok (qe_lst (qa_cons (qe_tup (qa_cons qe_str (qa_cons (qe_ix ok (qv 2) qe_int (fun _ _ => rfl)) qa_nil))) qa_nil)) qo_none (qo_some (qe_callB (call_lenQ ok) (rq_len ok) rfl t.n_len PySem.boot_len (qa_cons (qv 7) qa_nil))))))) qss_nil) (qss_cons (qs_if (qw_pt (qw_and (qb_cmp (op_inQ ok) (rq_in ok false) (qe_ix ok (qv 2) qe_int (fun _ _ => rfl)) (qe_tup (qa_cons qe_str (qa_cons qe_str qa_nil))) rfl) (qw_and (qb_cmp op_isN rq_isN (qv 5) qe_non rfl) (qw_and1 (qb_cmp (op_neD ok.hu64) (rq_ne ok.hC) (qv 7) (qe_lst qa_nil) rfl))))) (qss_one (qs_expr (qe_mt PySem.F.plainAttrs_list PySem.F.slot_list_append PySem.F.type_list_append mt_append (rq_append ok) (qv 6) (qa_cons (qe_tup (qa_cons qe_str (qa_cons (qe_ix ok (qv 2) qe_int (fun _ _ => rfl)) qa_nil))) qa_nil)))) qss_nil) (qss_frz (qss_one (qs_ret (qe_frz (qe_disp (qps_cons qe_str (qe_callB (cr_sortedQ ok) (rq_sorted ok) rfl t.n_sorted (by decide +kernel) (qa_cons (qv 4) qa_nil)) (qps_cons qe_str (qv 3) (qps_cons qe_str (qv 6) qps_nil)))))))))))))))
theorem sc__law_able : FnScope ["_law_t", "_law_c", "_law_deed"] ["_law_t", "_law_c"] (defScope s__law_able) := ⟨rfl, rfl, rfl, by decide +kernel, rfl, by decide +kernel, by decide +kernel⟩
theorem F__law_able (t : Tx P w K mg C) : FS P w K mg base C 4 "_law_able" 2 g__law_able := fsD t.hC t.hP t.hw t.d__law_able sc__law_able fun f0 cdv A outer sh H E ok hr => by
  have S := sc__law_able
  exact (qss_one (qs_ret (qe_lc1 (t := (.one 2)) (own := [("_law_deed", 2)]) finFz ok S.nd (qi_seq ok (qe_call (F__law_every t) hr (by decide) rfl (qa_cons (qv 0) qa_nil))) (blkOk_by rfl) (by intro i hi; revert i; decide) (fun s H c cl fp => (pg_name S.nd rfl (by first | exact .inl rfl | exact .inr rfl))) (fun s H c cl fp => (qts_one (qb_val (qe_call (F__law_may t) hr (by decide) rfl (qa_cons (qv 0) (qa_cons (qe_ix ok.blk (qv 1) qe_str (fun _ _ => rfl)) (qa_cons (qv 2) qa_nil))))))) (fun s H c cl fp => (qv 2)))))
theorem sc__law_start : FnScope [] [] (defScope s__law_start) := ⟨rfl, rfl, rfl, by decide +kernel, rfl, by decide +kernel, by decide +kernel⟩
theorem F__law_start (t : Tx P w K mg C) : FS P w K mg base C 1 "_law_start" 0 g__law_start := fsD t.hC t.hP t.hw t.d__law_start sc__law_start fun f0 cdv A outer sh H E ok hr => by
  have S := sc__law_start
  exact (qss_one (qs_ret (qe_frz (qe_disp (qps_cons qe_str (qe_lst qa_nil) (qps_cons qe_str qe_non (qps_cons qe_str (qe_lst qa_nil) qps_nil)))))))
theorem sc__law_plan : FnScope ["_law_t", "_law_rows", "_law_found", "_law_day", "_law_row_here", "_law_part"] ["_law_t", "_law_rows"] (defScope s__law_plan) := ⟨rfl, rfl, rfl, by decide +kernel, rfl, by decide +kernel, by decide +kernel⟩
theorem F__law_plan (t : Tx P w K mg C) : FS P w K mg base C 2 "_law_plan" 2 g__law_plan := fsD t.hC t.hP t.hw t.d__law_plan sc__law_plan fun f0 cdv A outer sh H E ok hr => by
  have S := sc__law_plan
  exact (qss_cons (qs_set (i := 2) S.nd rfl (.inl rfl) (qe_lstC qa_nil)) (qss_cons (qs_for (t := (.one 3)) ok PassesOwn.never (qi_range1 rfl t.n_range (qe_ix ok (qv 0) qe_int (fun _ _ => rfl))) (pg_name S.nd rfl (by first | exact .inl rfl | exact .inr rfl)) (qss_one (qs_expr (qe_mt PySem.F.plainAttrs_list PySem.F.slot_list_append PySem.F.type_list_append mt_append (rq_append ok) (qv 2) (qa_cons (qe_op op_mulAll rq_mulC (qe_lst (qa_cons qe_non qa_nil)) (qe_ix ok (qv 0) qe_int (fun _ _ => rfl))) qa_nil))))) (qss_cons (qs_for (t := (.one 4)) ok PassesOwn.never (qi_seq ok (qv 1)) (pg_name S.nd rfl (by first | exact .inl rfl | exact .inr rfl)) (qss_one (qs_for (t := (.many [3, 5])) ok PassesOwn.never (qi_seq ok (qe_call (F__law_cells t) hr (by decide) rfl (qa_cons (qv 4) qa_nil))) (pg_tup ok.calm (pgs_cons (pg_name S.nd rfl (by first | exact .inl rfl | exact .inr rfl)) (pgs_cons (pg_name S.nd rfl (by first | exact .inl rfl | exact .inr rfl)) pgs_nil))) (qss_one (qs_sub ok (qe_ix ok (qv 2) (qv 3) (fun _ _ => rfl)) (qv 5) (qe_ix ok (qv 4) qe_int (fun _ _ => rfl))))))) (qss_one (qs_ret (qv 2))))))
theorem sc_Record___len__ : FnScope ["self"] ["self"] (defScope s_Record___len__) := ⟨rfl, rfl, rfl, by decide +kernel, rfl, by decide +kernel, by decide +kernel⟩
theorem F_Record___len__ (t : Tx P w K mg C) : FD P w K mg base C 1 t.q_Record___len__ 1 g_Record___len__ := fdM t.hC t.hP t.hw t.d_Record___len__ sc_Record___len__ fun f0 cdv A outer sh H E ok hr => by
  have S := sc_Record___len__
  exact (qss_one (qs_ret (qe_callB (call_lenQ ok) (rq_len ok) rfl t.n_len PySem.boot_len (qa_cons (qe_fld (cs := [14]) ok t.fl_Record_answers (qv 0)) qa_nil))))
theorem sc_Record_bookings : FnScope ["self"] ["self"] (defScope s_Record_bookings) := ⟨rfl, rfl, rfl, by decide +kernel, rfl, by decide +kernel, by decide +kernel⟩
theorem F_Record_bookings (t : Tx P w K mg C) : FD P w K mg base C 1 t.q_Record_bookings 1 g_Record_bookings := fdM t.hC t.hP t.hw t.d_Record_bookings sc_Record_bookings fun f0 cdv A outer sh H E ok hr => by
  have S := sc_Record_bookings
  exact (qss_one (qs_ret (qe_fld (cs := [14]) ok t.fl_Record_at (qv 0))))
theorem sc_Record_found : FnScope ["self"] ["self"] (defScope s_Record_found) := ⟨rfl, rfl, rfl, by decide +kernel, rfl, by decide +kernel, by decide +kernel⟩
theorem F_Record_found (t : Tx P w K mg C) : FD P w K mg base C 1 t.q_Record_found 1 g_Record_found := fdM t.hC t.hP t.hw t.d_Record_found sc_Record_found fun f0 cdv A outer sh H E ok hr => by
  have S := sc_Record_found
  exact (qss_one (qs_ret (qe_callT call_list_of (rq_listC ok) rfl t.n_list (by decide +kernel) (qa_cons (qe_fld (cs := [14]) ok t.fl_Record_told_findings (qv 0)) qa_nil))))
theorem sc_Record_told : FnScope ["self"] ["self"] (defScope s_Record_told) := ⟨rfl, rfl, rfl, by decide +kernel, rfl, by decide +kernel, by decide +kernel⟩
theorem F_Record_told (t : Tx P w K mg C) : FD P w K mg base C 1 t.q_Record_told 1 g_Record_told := fdM t.hC t.hP t.hw t.d_Record_told sc_Record_told fun f0 cdv A outer sh H E ok hr => by
  have S := sc_Record_told
  exact (qss_one (qs_ret (qe_callT call_list_of (rq_listC ok) rfl t.n_list (by decide +kernel) (qa_cons (qe_fld (cs := [14]) ok t.fl_Record_answers (qv 0)) qa_nil))))
theorem sc_law : FnScope ["_law_script", "_law_h", "_law_t", "_law_hall_here", "_law_c", "_law_deeds", "_law_told", "_law_found", "_law_turn", "_law_able_here", "_law_record", "_law_again", "_law_finding", "_law_one"] ["_law_script"] (defScope s_law) := ⟨rfl, rfl, rfl, by decide +kernel, rfl, by decide +kernel, by decide +kernel⟩
theorem F_law (t : Tx P w K mg C) : FS P w K mg base C 60 "law" 1 g_law_k01 := fsD t.hC t.hP t.hw t.d_law sc_law fun f0 cdv A outer sh H E ok hr => by
  have S := sc_law
  exact (qss_cons (qs_set (i := 1) S.nd rfl (.inl rfl) (qe_call (F__law_mix t) hr (by decide) rfl (qa_cons (qv 0) (qa_cons qe_int qa_nil)))) (qss_cons (qs_set (i := 2) S.nd rfl (.inl rfl) (qe_call (F__law_hall t) hr (by decide) rfl (qa_cons (qv 1) (qa_cons qe_int (qa_cons qe_int (qa_cons (qe_lst (qa_cons qe_str (qa_cons qe_str (qa_cons qe_str (qa_cons qe_str (qa_cons qe_str (qa_cons qe_str qa_nil))))))) qa_nil)))))) (qss_cons (qs_set (i := 3) S.nd rfl (.inl rfl) (qe_call (F__law_built t) hr (by decide) rfl (qa_cons (qv 2) qa_nil))) (qss_cons (qs_set (i := 4) S.nd rfl (.inl rfl) (qe_call0 (F__law_start t) hr (by decide) rfl)) (qss_cons (qs_set (i := 5) S.nd rfl (.inr rfl) (qe_lstC qa_nil)) (qss_cons (qs_set (i := 6) S.nd rfl (.inl rfl) (qe_lstC qa_nil)) (qss_cons (qs_set (i := 7) S.nd rfl (.inl rfl) (qe_lst qa_nil)) (qss_cons (qs_for (t := (.one 8)) ok PassesOwn.never (qi_range1 rfl t.n_range (qe_call (F__law_next t) hr (by decide) rfl (qa_cons (qv 1) (qa_cons qe_int qa_nil)))) (pg_name S.nd rfl (by first | exact .inl rfl | exact .inr rfl)) (qss_cons (qs_set (i := 9) S.nd rfl (.inl rfl) (qe_call (F__law_able t) hr (by decide) rfl (qa_cons (qv 2) (qa_cons (qv 4) qa_nil)))) (qss_cons (qs_expr (qe_mt PySem.F.plainAttrs_list PySem.F.slot_list_append PySem.F.type_list_append mt_append (rq_append ok) (qv 5) (qa_cons (qe_ix ok (qv 9) (qe_call (F__law_next t) hr (by decide) rfl (qa_cons (qv 1) (qa_cons (qe_callB (call_lenQ ok) (rq_len ok) rfl t.n_len PySem.boot_len (qa_cons (qv 9) qa_nil)) qa_nil))) (fun _ _ => rfl)) qa_nil))) (qss_cons (qs_set (i := 4) S.nd rfl (.inl rfl) (qe_call (F__law_do t) hr (by decide) rfl (qa_cons (qv 2) (qa_cons (qv 4) (qa_cons (qe_ix ok (qv 5) qe_neg (fun _ _ => rfl)) qa_nil))))) (qss_cons (qs_expr (qe_mt PySem.F.plainAttrs_list PySem.F.slot_list_append PySem.F.type_list_append mt_append (rq_append ok) (qv 6) (qa_cons (qe_ix ok (qv 4) qe_str (fun _ _ => rfl)) qa_nil))) (qss_one (qs_set (i := 7) S.nd rfl (.inl rfl) (qe_op op_addAll (rq_add ok.hC) (qv 7) (qe_lc1 (t := (.one 12)) (own := [("_law_finding", 12)]) finFz ok S.nd (qi_seq ok (qe_ix ok (qv 4) qe_str (fun _ _ => rfl))) (blkOk_by rfl) (by intro i hi; revert i; decide) (fun s H c cl fp => (pg_name S.nd rfl (by first | exact .inl rfl | exact .inr rfl))) (fun s H c cl fp => qts_nil) (fun s H c cl fp => (qe_tup (qa_cons (qe_callB (call_lenQ ok.blk) (rq_len ok.blk) rfl t.n_len PySem.boot_len (qa_cons (qv 5) qa_nil)) (qa_cons (qv 12) qa_nil))))))))))))) (qss_frz (qss_frz (qss_cons (qs_set (i := 10) S.nd rfl (.inl rfl) (qe_call (F_replay t) hr (by decide) rfl (qa_cons (qv 3) (qa_cons (qv 5) qa_nil)))) (qss_cons (qs_for (t := (.one 11)) ok PassesOwn.never (qi_range1 rfl t.n_range qe_int) (pg_name S.nd rfl (by first | exact .inl rfl | exact .inr rfl)) (qss_cons (qs_if (qw_pt (qw_or (qb_cmp (op_neD ok.hu64) (rq_ne ok.hC) (qe_prop (c := 14) (F_Record_bookings t) t.cl_Record t.pr_Record_bookings hr (by decide) (qv 10)) (qe_callT call_tuple_of (rq_tuple ok) rfl t.n_tuple (by decide +kernel) (qa_cons (qe_ix ok (qv 4) qe_str (fun _ _ => rfl)) qa_nil)) rfl) (qw_or (qb_cmp (op_neD ok.hu64) (rq_ne ok.hC) (qe_prop (c := 14) (F_Record_told t) t.cl_Record t.pr_Record_told hr (by decide) (qv 10)) (qv 6) rfl) (qw_or1 (qb_cmp (op_neD ok.hu64) (rq_ne ok.hC) (qe_prop (c := 14) (F_Record_found t) t.cl_Record t.pr_Record_found hr (by decide) (qv 10)) (qv 7) rfl))))) (qss_one (qs_ret qe_bl)) qss_nil) (qss_cons (qs_if (qb_cmp (op_neD ok.hu64) (rq_ne ok.hC) (qe_lc1 (t := (.one 13)) (own := [("_law_one", 13)]) finFz ok S.nd (qi_seq ok (qe_frz (qe_prop (c := 14) (F_Record_told t) t.cl_Record t.pr_Record_told hr (by decide) (qv 10)))) (blkOk_by rfl) (by intro i hi; revert i; decide) (fun s H c cl fp => (pg_name S.nd rfl (by first | exact .inl rfl | exact .inr rfl))) (fun s H c cl fp => qts_nil) (fun s H c cl fp => (qe_isT ok.blk rfl t.n_isinstance rfl t.n_bool (by decide +kernel) (qv 13)))) (qe_lc1 (t := (.one 13)) (own := [("_law_one", 13)]) finFz ok S.nd (qi_seq ok (qv 6)) (blkOk_by rfl) (by intro i hi; revert i; decide) (fun s H c cl fp => (pg_name S.nd rfl (by first | exact .inl rfl | exact .inr rfl))) (fun s H c cl fp => qts_nil) (fun s H c cl fp => (qe_isT ok.blk rfl t.n_isinstance rfl t.n_bool (by decide +kernel) (qv 13)))) rfl) (qss_one (qs_ret qe_bl)) qss_nil) (qss_cons (qs_if (qw_pt (qw_or (qb_cmp (op_neD ok.hu64) (rq_ne ok.hC) (qe_lenO (c := 14) (F_Record___len__ t) t.ln_Record hr (by decide) rfl t.n_len (qv 10)) (qe_callB (call_lenQ ok) (rq_len ok) rfl t.n_len PySem.boot_len (qa_cons (qv 5) qa_nil)) rfl) (qw_or1 (qb_cmp (op_neD ok.hu64) (rq_ne ok.hC) (qe_call (F_plan t) hr (by decide) rfl (qa_cons (qv 10) qa_nil)) (qe_call (F__law_plan t) hr (by decide) rfl (qa_cons (qv 2) (qa_cons (qe_ix ok (qv 4) qe_str (fun _ _ => rfl)) qa_nil))) rfl)))) (qss_one (qs_ret qe_bl)) qss_nil) (qss_cons (qs_expr (qe_mt PySem.F.plainAttrs_list PySem.F.slot_list_append PySem.F.type_list_append mt_append (rq_append ok) (qe_prop (c := 14) (F_Record_told t) t.cl_Record t.pr_Record_told hr (by decide) (qv 10)) (qa_cons qe_non qa_nil))) (qss_cons (qs_expr (qe_mt0 PySem.F.plainAttrs_list PySem.F.slot_list_clear PySem.F.type_list_clear mt_clear (rq_clear ok) (qe_prop (c := 14) (F_Record_found t) t.cl_Record t.pr_Record_found hr (by decide) (qv 10)))) (qss_one (qs_expr (qe_mt0 PySem.F.plainAttrs_list PySem.F.slot_list_clear PySem.F.type_list_clear mt_clear (rq_clear ok) (qe_call (F_plan t) hr (by decide) rfl (qa_cons (qv 10) qa_nil))))))))))) (qss_one (qs_ret qe_bl))))))))))))))
theorem N_law (t : Tx P w K mg C) {f : Addr} {fd : FuncData} (F : Fun K "law" "law" s_law f fd) : FnOk P w K mg base CX0 60 f fd ["_law_script"] (sp0 1 C g_law_k01) := fnD t.hC t.hP t.hw F sc_law fun f0 cdv A outer sh H E ok hr => by
  have S := sc_law
  exact (qss_cons (qs_set (i := 1) S.nd rfl (.inl rfl) (qe_call (F__law_mix t) hr (by decide) rfl (qa_cons (qv 0) (qa_cons qe_int qa_nil)))) (qss_cons (qs_set (i := 2) S.nd rfl (.inl rfl) (qe_call (F__law_hall t) hr (by decide) rfl (qa_cons (qv 1) (qa_cons qe_int (qa_cons qe_int (qa_cons (qe_lst (qa_cons qe_str (qa_cons qe_str (qa_cons qe_str (qa_cons qe_str (qa_cons qe_str (qa_cons qe_str qa_nil))))))) qa_nil)))))) (qss_cons (qs_set (i := 3) S.nd rfl (.inl rfl) (qe_call (F__law_built t) hr (by decide) rfl (qa_cons (qv 2) qa_nil))) (qss_cons (qs_set (i := 4) S.nd rfl (.inl rfl) (qe_call0 (F__law_start t) hr (by decide) rfl)) (qss_cons (qs_set (i := 5) S.nd rfl (.inr rfl) (qe_lstC qa_nil)) (qss_cons (qs_set (i := 6) S.nd rfl (.inl rfl) (qe_lstC qa_nil)) (qss_cons (qs_set (i := 7) S.nd rfl (.inl rfl) (qe_lst qa_nil)) (qss_cons (qs_for (t := (.one 8)) ok PassesOwn.never (qi_range1 rfl t.n_range (qe_call (F__law_next t) hr (by decide) rfl (qa_cons (qv 1) (qa_cons qe_int qa_nil)))) (pg_name S.nd rfl (by first | exact .inl rfl | exact .inr rfl)) (qss_cons (qs_set (i := 9) S.nd rfl (.inl rfl) (qe_call (F__law_able t) hr (by decide) rfl (qa_cons (qv 2) (qa_cons (qv 4) qa_nil)))) (qss_cons (qs_expr (qe_mt PySem.F.plainAttrs_list PySem.F.slot_list_append PySem.F.type_list_append mt_append (rq_append ok) (qv 5) (qa_cons (qe_ix ok (qv 9) (qe_call (F__law_next t) hr (by decide) rfl (qa_cons (qv 1) (qa_cons (qe_callB (call_lenQ ok) (rq_len ok) rfl t.n_len PySem.boot_len (qa_cons (qv 9) qa_nil)) qa_nil))) (fun _ _ => rfl)) qa_nil))) (qss_cons (qs_set (i := 4) S.nd rfl (.inl rfl) (qe_call (F__law_do t) hr (by decide) rfl (qa_cons (qv 2) (qa_cons (qv 4) (qa_cons (qe_ix ok (qv 5) qe_neg (fun _ _ => rfl)) qa_nil))))) (qss_cons (qs_expr (qe_mt PySem.F.plainAttrs_list PySem.F.slot_list_append PySem.F.type_list_append mt_append (rq_append ok) (qv 6) (qa_cons (qe_ix ok (qv 4) qe_str (fun _ _ => rfl)) qa_nil))) (qss_one (qs_set (i := 7) S.nd rfl (.inl rfl) (qe_op op_addAll (rq_add ok.hC) (qv 7) (qe_lc1 (t := (.one 12)) (own := [("_law_finding", 12)]) finFz ok S.nd (qi_seq ok (qe_ix ok (qv 4) qe_str (fun _ _ => rfl))) (blkOk_by rfl) (by intro i hi; revert i; decide) (fun s H c cl fp => (pg_name S.nd rfl (by first | exact .inl rfl | exact .inr rfl))) (fun s H c cl fp => qts_nil) (fun s H c cl fp => (qe_tup (qa_cons (qe_callB (call_lenQ ok.blk) (rq_len ok.blk) rfl t.n_len PySem.boot_len (qa_cons (qv 5) qa_nil)) (qa_cons (qv 12) qa_nil))))))))))))) (qss_frz (qss_frz (qss_cons (qs_set (i := 10) S.nd rfl (.inl rfl) (qe_call (F_replay t) hr (by decide) rfl (qa_cons (qv 3) (qa_cons (qv 5) qa_nil)))) (qss_cons (qs_for (t := (.one 11)) ok PassesOwn.never (qi_range1 rfl t.n_range qe_int) (pg_name S.nd rfl (by first | exact .inl rfl | exact .inr rfl)) (qss_cons (qs_if (qw_pt (qw_or (qb_cmp (op_neD ok.hu64) (rq_ne ok.hC) (qe_prop (c := 14) (F_Record_bookings t) t.cl_Record t.pr_Record_bookings hr (by decide) (qv 10)) (qe_callT call_tuple_of (rq_tuple ok) rfl t.n_tuple (by decide +kernel) (qa_cons (qe_ix ok (qv 4) qe_str (fun _ _ => rfl)) qa_nil)) rfl) (qw_or (qb_cmp (op_neD ok.hu64) (rq_ne ok.hC) (qe_prop (c := 14) (F_Record_told t) t.cl_Record t.pr_Record_told hr (by decide) (qv 10)) (qv 6) rfl) (qw_or1 (qb_cmp (op_neD ok.hu64) (rq_ne ok.hC) (qe_prop (c := 14) (F_Record_found t) t.cl_Record t.pr_Record_found hr (by decide) (qv 10)) (qv 7) rfl))))) (qss_one (qs_ret qe_bl)) qss_nil) (qss_cons (qs_if (qb_cmp (op_neD ok.hu64) (rq_ne ok.hC) (qe_lc1 (t := (.one 13)) (own := [("_law_one", 13)]) finFz ok S.nd (qi_seq ok (qe_frz (qe_prop (c := 14) (F_Record_told t) t.cl_Record t.pr_Record_told hr (by decide) (qv 10)))) (blkOk_by rfl) (by intro i hi; revert i; decide) (fun s H c cl fp => (pg_name S.nd rfl (by first | exact .inl rfl | exact .inr rfl))) (fun s H c cl fp => qts_nil) (fun s H c cl fp => (qe_isT ok.blk rfl t.n_isinstance rfl t.n_bool (by decide +kernel) (qv 13)))) (qe_lc1 (t := (.one 13)) (own := [("_law_one", 13)]) finFz ok S.nd (qi_seq ok (qv 6)) (blkOk_by rfl) (by intro i hi; revert i; decide) (fun s H c cl fp => (pg_name S.nd rfl (by first | exact .inl rfl | exact .inr rfl))) (fun s H c cl fp => qts_nil) (fun s H c cl fp => (qe_isT ok.blk rfl t.n_isinstance rfl t.n_bool (by decide +kernel) (qv 13)))) rfl) (qss_one (qs_ret qe_bl)) qss_nil) (qss_cons (qs_if (qw_pt (qw_or (qb_cmp (op_neD ok.hu64) (rq_ne ok.hC) (qe_lenO (c := 14) (F_Record___len__ t) t.ln_Record hr (by decide) rfl t.n_len (qv 10)) (qe_callB (call_lenQ ok) (rq_len ok) rfl t.n_len PySem.boot_len (qa_cons (qv 5) qa_nil)) rfl) (qw_or1 (qb_cmp (op_neD ok.hu64) (rq_ne ok.hC) (qe_call (F_plan t) hr (by decide) rfl (qa_cons (qv 10) qa_nil)) (qe_call (F__law_plan t) hr (by decide) rfl (qa_cons (qv 2) (qa_cons (qe_ix ok (qv 4) qe_str (fun _ _ => rfl)) qa_nil))) rfl)))) (qss_one (qs_ret qe_bl)) qss_nil) (qss_cons (qs_expr (qe_mt PySem.F.plainAttrs_list PySem.F.slot_list_append PySem.F.type_list_append mt_append (rq_append ok) (qe_prop (c := 14) (F_Record_told t) t.cl_Record t.pr_Record_told hr (by decide) (qv 10)) (qa_cons qe_non qa_nil))) (qss_cons (qs_expr (qe_mt0 PySem.F.plainAttrs_list PySem.F.slot_list_clear PySem.F.type_list_clear mt_clear (rq_clear ok) (qe_prop (c := 14) (F_Record_found t) t.cl_Record t.pr_Record_found hr (by decide) (qv 10)))) (qss_one (qs_expr (qe_mt0 PySem.F.plainAttrs_list PySem.F.slot_list_clear PySem.F.type_list_clear mt_clear (rq_clear ok) (qe_call (F_plan t) hr (by decide) rfl (qa_cons (qv 10) qa_nil))))))))))) (qss_one (qs_ret qe_bl))))))))))))))
theorem sc_Hall_parts : FnScope ["self"] ["self"] (defScope s_Hall_parts) := ⟨rfl, rfl, rfl, by decide +kernel, rfl, by decide +kernel, by decide +kernel⟩
theorem F_Hall_parts (t : Tx P w K mg C) : FD P w K mg base C 1 t.q_Hall_parts 1 g_Hall_parts := fdM t.hC t.hP t.hw t.d_Hall_parts sc_Hall_parts fun f0 cdv A outer sh H E ok hr => by
  have S := sc_Hall_parts
  exact (qss_one (qs_ret (qe_slt (c := 12) (i := 0) t.sc_Hall t.sl_Hall_many_parts (by decide) (qv 0))))
theorem sc_Hall_days : FnScope ["self"] ["self"] (defScope s_Hall_days) := ⟨rfl, rfl, rfl, by decide +kernel, rfl, by decide +kernel, by decide +kernel⟩
theorem F_Hall_days (t : Tx P w K mg C) : FD P w K mg base C 1 t.q_Hall_days 1 g_Hall_days := fdM t.hC t.hP t.hw t.d_Hall_days sc_Hall_days fun f0 cdv A outer sh H E ok hr => by
  have S := sc_Hall_days
  exact (qss_one (qs_ret (qe_slt (c := 12) (i := 1) t.sc_Hall t.sl_Hall_many_days (by decide) (qv 0))))
theorem sc_Hall_widths : FnScope ["self"] ["self"] (defScope s_Hall_widths) := ⟨rfl, rfl, rfl, by decide +kernel, rfl, by decide +kernel, by decide +kernel⟩
theorem F_Hall_widths (t : Tx P w K mg C) : FD P w K mg base C 1 t.q_Hall_widths 1 g_Hall_widths := fdM t.hC t.hP t.hw t.d_Hall_widths sc_Hall_widths fun f0 cdv A outer sh H E ok hr => by
  have S := sc_Hall_widths
  exact (qss_one (qs_ret (qe_slt (c := 12) (i := 2) t.sc_Hall t.sl_Hall_own_widths (by decide) (qv 0))))
theorem sc_Hall_longest : FnScope ["self"] ["self"] (defScope s_Hall_longest) := ⟨rfl, rfl, rfl, by decide +kernel, rfl, by decide +kernel, by decide +kernel⟩
theorem F_Hall_longest (t : Tx P w K mg C) : FD P w K mg base C 1 t.q_Hall_longest 1 g_Hall_longest := fdM t.hC t.hP t.hw t.d_Hall_longest sc_Hall_longest fun f0 cdv A outer sh H E ok hr => by
  have S := sc_Hall_longest
  exact (qss_one (qs_ret (qe_slt (c := 12) (i := 3) t.sc_Hall t.sl_Hall_own_longest (by decide) (qv 0))))
theorem sc_Hall_rule : FnScope ["self"] ["self"] (defScope s_Hall_rule) := ⟨rfl, rfl, rfl, by decide +kernel, rfl, by decide +kernel, by decide +kernel⟩
theorem F_Hall_rule (t : Tx P w K mg C) : FD P w K mg base C 1 t.q_Hall_rule 1 g_Hall_rule := fdM t.hC t.hP t.hw t.d_Hall_rule sc_Hall_rule fun f0 cdv A outer sh H E ok hr => by
  have S := sc_Hall_rule
  exact (qss_one (qs_ret (qe_frz (qe_callT call_dictD rq_dictC rfl t.n_dict (by decide +kernel) (qa_cons (qe_slt (c := 12) (i := 4) t.sc_Hall t.sl_Hall_points (by decide) (qv 0)) qa_nil)))))
theorem sc_Hall_words : FnScope ["self"] ["self"] (defScope s_Hall_words) := ⟨rfl, rfl, rfl, by decide +kernel, rfl, by decide +kernel, by decide +kernel⟩
theorem F_Hall_words (t : Tx P w K mg C) : FD P w K mg base C 1 t.q_Hall_words 1 g_Hall_words := fdM t.hC t.hP t.hw t.d_Hall_words sc_Hall_words fun f0 cdv A outer sh H E ok hr => by
  have S := sc_Hall_words
  exact (qss_one (qs_ret (qe_slt (c := 12) (i := 5) t.sc_Hall t.sl_Hall_told_words (by decide) (qv 0))))
theorem sc_Hall_frame : FnScope ["self"] ["self"] (defScope s_Hall_frame) := ⟨rfl, rfl, rfl, by decide +kernel, rfl, by decide +kernel, by decide +kernel⟩
theorem F_Hall_frame (t : Tx P w K mg C) : FD P w K mg base C 1 t.q_Hall_frame 1 g_Hall_frame := fdM t.hC t.hP t.hw t.d_Hall_frame sc_Hall_frame fun f0 cdv A outer sh H E ok hr => by
  have S := sc_Hall_frame
  exact (qss_one (qs_ret (qe_tup (qa_cons (qe_slt (c := 12) (i := 0) t.sc_Hall t.sl_Hall_many_parts (by decide) (qv 0)) (qa_cons (qe_slt (c := 12) (i := 1) t.sc_Hall t.sl_Hall_many_days (by decide) (qv 0)) (qa_cons (qe_slt (c := 12) (i := 2) t.sc_Hall t.sl_Hall_own_widths (by decide) (qv 0)) (qa_cons (qe_slt (c := 12) (i := 3) t.sc_Hall t.sl_Hall_own_longest (by decide) (qv 0)) (qa_cons (qe_slt (c := 12) (i := 5) t.sc_Hall t.sl_Hall_told_words (by decide) (qv 0)) qa_nil))))))))
end
end Zk01

set_option Elab.async false
set_option linter.all false
set_option maxRecDepth 100000
set_option maxHeartbeats 0
namespace Zk01
open PySem L2 Q QS PySem.Spec PyProof.Rows
section
variable {P : Program} {w : World} {K : PySem.W.Frag} {mg : PySem.Str → Option Value} {h : Heap}
def tx_of (X : K.In h) (G : h.Ns mainGlobals mg) (c : SaysY fb fn ts w K) : Tx P w K mg (cOf P w K cnames) where
  hC := rfl
  hP := rfl
  hw := rfl
  n_all := He.free_ok X G (c.fact 0 rfl)
  n_any := He.free_ok X G (c.fact 1 rfl)
  n_bool := He.free_ok X G (c.fact 2 rfl)
  n_dict := He.free_ok X G (c.fact 3 rfl)
  n_enumerate := He.free_ok X G (c.fact 4 rfl)
  n_int := He.free_ok X G (c.fact 5 rfl)
  n_isinstance := He.free_ok X G (c.fact 6 rfl)
  n_len := He.free_ok X G (c.fact 7 rfl)
  n_list := He.free_ok X G (c.fact 8 rfl)
  n_max := He.free_ok X G (c.fact 9 rfl)
  n_min := He.free_ok X G (c.fact 10 rfl)
  n_range := He.free_ok X G (c.fact 11 rfl)
  n_set := He.free_ok X G (c.fact 12 rfl)
  n_sorted := He.free_ok X G (c.fact 13 rfl)
  n_str := He.free_ok X G (c.fact 14 rfl)
  n_tuple := He.free_ok X G (c.fact 15 rfl)
  c_ASK := conB_ok (C := cOf P w K cnames) X G (c.fact 16 rfl)
  c_CANCEL := conB_ok (C := cOf P w K cnames) X G (c.fact 17 rfl)
  c_FIRM := conB_ok (C := cOf P w K cnames) X G (c.fact 18 rfl)
  c_HOLD := conB_ok (C := cOf P w K cnames) X G (c.fact 19 rfl)
  c_LAPSE := conB_ok (C := cOf P w K cnames) X G (c.fact 20 rfl)
  c_LONGER := conB_ok (C := cOf P w K cnames) X G (c.fact 21 rfl)
  c_MOST_DAYS := conB_ok (C := cOf P w K cnames) X G (c.fact 22 rfl)
  c_MOST_PARTS := conB_ok (C := cOf P w K cnames) X G (c.fact 23 rfl)
  c_MOVE := conB_ok (C := cOf P w K cnames) X G (c.fact 24 rfl)
  c_POINTS := kdB_ok (C := cOf P w K cnames) X G (c.fact 25 rfl) (c.tab 0 rfl)
  c_SIZES := kdB_ok (C := cOf P w K cnames) X G (c.fact 26 rfl) (c.tab 1 rfl)
  c_WORDS := conB_ok (C := cOf P w K cnames) X G (c.fact 27 rfl)
  d_is_integer := let ⟨fd, F⟩ := c.fn_ 0 rfl; ⟨_, fd, F, He.glo_ok X G (c.fact 28 rfl), F.binds fun _ _ _ _ _ _ us hl => match us, hl with | [_], _ => rfl⟩
  d_is_between := let ⟨fd, F⟩ := c.fn_ 1 rfl; ⟨_, fd, F, He.glo_ok X G (c.fact 29 rfl), F.binds fun _ _ _ _ _ _ us hl => match us, hl with | [_, _, _], _ => rfl⟩
  d_are_widths := let ⟨fd, F⟩ := c.fn_ 2 rfl; ⟨_, fd, F, He.glo_ok X G (c.fact 30 rfl), F.binds fun _ _ _ _ _ _ us hl => match us, hl with | [_, _], _ => rfl⟩
  d_are_words := let ⟨fd, F⟩ := c.fn_ 3 rfl; ⟨_, fd, F, He.glo_ok X G (c.fact 31 rfl), F.binds fun _ _ _ _ _ _ us hl => match us, hl with | [_], _ => rfl⟩
  d_is_word_of := let ⟨fd, F⟩ := c.fn_ 4 rfl; ⟨_, fd, F, He.glo_ok X G (c.fact 32 rfl), F.binds fun _ _ _ _ _ _ us hl => match us, hl with | [_, _], _ => rfl⟩
  d_look_at_rule := let ⟨fd, F⟩ := c.fn_ 5 rfl; ⟨_, fd, F, He.glo_ok X G (c.fact 33 rfl), F.binds fun _ _ _ _ _ _ us hl => match us, hl with | [_], _ => rfl⟩
  d_is_asked := let ⟨fd, F⟩ := c.fn_ 6 rfl; ⟨_, fd, F, He.glo_ok X G (c.fact 34 rfl), F.binds fun _ _ _ _ _ _ us hl => match us, hl with | [_, _], _ => rfl⟩
  d_is_deed := let ⟨fd, F⟩ := c.fn_ 7 rfl; ⟨_, fd, F, He.glo_ok X G (c.fact 35 rfl), F.binds fun _ _ _ _ _ _ us hl => match us, hl with | [_, _], _ => rfl⟩
  d_cells_of := let ⟨fd, F⟩ := c.fn_ 8 rfl; ⟨_, fd, F, He.glo_ok X G (c.fact 36 rfl), F.binds fun _ _ _ _ _ _ us hl => match us, hl with | [_], _ => rfl⟩
  d_do_share := let ⟨fd, F⟩ := c.fn_ 9 rfl; ⟨_, fd, F, He.glo_ok X G (c.fact 37 rfl), F.binds fun _ _ _ _ _ _ us hl => match us, hl with | [_, _, _, _], _ => rfl⟩
  d_do_clash := let ⟨fd, F⟩ := c.fn_ 10 rfl; ⟨_, fd, F, He.glo_ok X G (c.fact 38 rfl), F.binds fun _ _ _ _ _ _ us hl => match us, hl with | [_, _], _ => rfl⟩
  d_clashes := let ⟨fd, F⟩ := c.fn_ 11 rfl; ⟨_, fd, F, He.glo_ok X G (c.fact 39 rfl), F.binds fun _ _ _ _ _ _ us hl => match us, hl with | [_, _], _ => rfl⟩
  d_is_free := let ⟨fd, F⟩ := c.fn_ 12 rfl; ⟨_, fd, F, He.glo_ok X G (c.fact 40 rfl), F.binds fun _ _ _ _ _ _ us hl => match us, hl with | [_, _], _ => rfl⟩
  d_does_suit := let ⟨fd, F⟩ := c.fn_ 13 rfl; ⟨_, fd, F, He.glo_ok X G (c.fact 41 rfl), F.binds fun _ _ _ _ _ _ us hl => match us, hl with | [_, _], _ => rfl⟩
  d_asked_at := let ⟨fd, F⟩ := c.fn_ 14 rfl; ⟨_, fd, F, He.glo_ok X G (c.fact 42 rfl), F.binds fun _ _ _ _ _ _ us hl => match us, hl with | [_, _], _ => rfl⟩
  d_starts_for := let ⟨fd, F⟩ := c.fn_ 15 rfl; ⟨_, fd, F, He.glo_ok X G (c.fact 43 rfl), F.binds fun _ _ _ _ _ _ us hl => match us, hl with | [_, _], _ => rfl⟩
  d_suiting := let ⟨fd, F⟩ := c.fn_ 16 rfl; ⟨_, fd, F, He.glo_ok X G (c.fact 44 rfl), F.binds fun _ _ _ _ _ _ us hl => match us, hl with | [_, _, _], _ => rfl⟩
  d_let_starts := let ⟨fd, F⟩ := c.fn_ 17 rfl; ⟨_, fd, F, He.glo_ok X G (c.fact 45 rfl), F.binds fun _ _ _ _ _ _ us hl => match us, hl with | [_, _, _], _ => rfl⟩
  d_gap_of := let ⟨fd, F⟩ := c.fn_ 18 rfl; ⟨_, fd, F, He.glo_ok X G (c.fact 46 rfl), F.binds fun _ _ _ _ _ _ us hl => match us, hl with | [_, _, _, _], _ => rfl⟩
  d_given_of := let ⟨fd, F⟩ := c.fn_ 19 rfl; ⟨_, fd, F, He.glo_ok X G (c.fact 47 rfl), F.binds fun _ _ _ _ _ _ us hl => match us, hl with | [_, _, _, _], _ => rfl⟩
  d_counting := let ⟨fd, F⟩ := c.fn_ 20 rfl; ⟨_, fd, F, He.glo_ok X G (c.fact 48 rfl), F.binds fun _ _ _ _ _ _ us hl => match us, hl with | [_, _, _], _ => rfl⟩
  d_start_given := let ⟨fd, F⟩ := c.fn_ 21 rfl; ⟨_, fd, F, He.glo_ok X G (c.fact 49 rfl), F.binds fun _ _ _ _ _ _ us hl => match us, hl with | [_, _, _], _ => rfl⟩
  d_taker := let ⟨fd, F⟩ := c.fn_ 22 rfl; ⟨_, fd, F, He.glo_ok X G (c.fact 50 rfl), F.binds fun _ _ _ _ _ _ us hl => match us, hl with | [_, _, _], _ => rfl⟩
  d_can_be := let ⟨fd, F⟩ := c.fn_ 23 rfl; ⟨_, fd, F, He.glo_ok X G (c.fact 51 rfl), F.binds fun _ _ _ _ _ _ us hl => match us, hl with | [_, _, _], _ => rfl⟩
  d_others_of := let ⟨fd, F⟩ := c.fn_ 24 rfl; ⟨_, fd, F, He.glo_ok X G (c.fact 52 rfl), F.binds fun _ _ _ _ _ _ us hl => match us, hl with | [_, _], _ => rfl⟩
  d_is_let_there := let ⟨fd, F⟩ := c.fn_ 25 rfl; ⟨_, fd, F, He.glo_ok X G (c.fact 53 rfl), F.binds fun _ _ _ _ _ _ us hl => match us, hl with | [_, _, _], _ => rfl⟩
  d_with_booking := let ⟨fd, F⟩ := c.fn_ 26 rfl; ⟨_, fd, F, He.glo_ok X G (c.fact 54 rfl), F.binds fun _ _ _ _ _ _ us hl => match us, hl with | [_, _], _ => rfl⟩
  q_Done___init__ := metA "Done" "__init__" K
  d_Done___init__ := let ⟨fd, F⟩ := c.fn_ 27 rfl; ⟨fd, F, F.binds fun _ _ _ _ _ _ us hl => match us, hl with | [_, _, _, _], _ => rfl⟩
  d_done_with := let ⟨fd, F⟩ := c.fn_ 28 rfl; ⟨_, fd, F, He.glo_ok X G (c.fact 55 rfl), F.binds fun _ _ _ _ _ _ us hl => match us, hl with | [_, _, _], _ => rfl⟩
  d_has_room := let ⟨fd, F⟩ := c.fn_ 29 rfl; ⟨_, fd, F, He.glo_ok X G (c.fact 56 rfl), F.binds fun _ _ _ _ _ _ us hl => match us, hl with | [_, _, _], _ => rfl⟩
  d_refusal_findings := let ⟨fd, F⟩ := c.fn_ 30 rfl; ⟨_, fd, F, He.glo_ok X G (c.fact 57 rfl), F.binds fun _ _ _ _ _ _ us hl => match us, hl with | [_, _, _], _ => rfl⟩
  d_findings_of := let ⟨fd, F⟩ := c.fn_ 31 rfl; ⟨_, fd, F, He.glo_ok X G (c.fact 58 rfl), F.binds fun _ _ _ _ _ _ us hl => match us, hl with | [_, _, _, _], _ => rfl⟩
  d_led_to := let ⟨fd, F⟩ := c.fn_ 32 rfl; ⟨_, fd, F, He.glo_ok X G (c.fact 59 rfl), F.binds fun _ _ _ _ _ _ us hl => match us, hl with | [_, _, _], _ => rfl⟩
  q_Record_take_in := metA "Record" "take_in" K
  d_Record_take_in := let ⟨fd, F⟩ := c.fn_ 33 rfl; ⟨fd, F, F.binds fun _ _ _ _ _ _ us hl => match us, hl with | [_, _, _], _ => rfl⟩
  q_Record___init__ := metA "Record" "__init__" K
  d_Record___init__ := let ⟨fd, F⟩ := c.fn_ 34 rfl; ⟨fd, F, F.binds fun _ _ _ _ _ _ us hl => match us, hl with | [_, _], _ => rfl⟩
  d_replay := let ⟨fd, F⟩ := c.fn_ 35 rfl; ⟨_, fd, F, He.glo_ok X G (c.fact 60 rfl), F.binds fun _ _ _ _ _ _ us hl => match us, hl with | [_, _], _ => rfl⟩
  d_first_at := let ⟨fd, F⟩ := c.fn_ 36 rfl; ⟨_, fd, F, He.glo_ok X G (c.fact 61 rfl), F.binds fun _ _ _ _ _ _ us hl => match us, hl with | [_, _, _], _ => rfl⟩
  d_plan := let ⟨fd, F⟩ := c.fn_ 37 rfl; ⟨_, fd, F, He.glo_ok X G (c.fact 62 rfl), F.binds fun _ _ _ _ _ _ us hl => match us, hl with | [_], _ => rfl⟩
  d__law_mix := let ⟨fd, F⟩ := c.fn_ 38 rfl; ⟨_, fd, F, He.glo_ok X G (c.fact 63 rfl), F.binds fun _ _ _ _ _ _ us hl => match us, hl with | [_, _], _ => rfl⟩
  d__law_next := let ⟨fd, F⟩ := c.fn_ 39 rfl; ⟨_, fd, F, He.glo_ok X G (c.fact 64 rfl), F.binds fun _ _ _ _ _ _ us hl => match us, hl with | [_, _], _ => rfl⟩
  d__law_rule := let ⟨fd, F⟩ := c.fn_ 40 rfl; ⟨_, fd, F, He.glo_ok X G (c.fact 65 rfl), F.binds fun _ _ _ _ _ _ us hl => match us, hl with | [_], _ => rfl⟩
  d__law_hall := let ⟨fd, F⟩ := c.fn_ 41 rfl; ⟨_, fd, F, He.glo_ok X G (c.fact 66 rfl), F.binds fun _ _ _ _ _ _ us hl => match us, hl with | [_, _, _, _], _ => rfl⟩
  q_Hall___init__ := metA "Hall" "__init__" K
  d_Hall___init__ := let ⟨fd, F⟩ := c.fn_ 42 rfl; ⟨fd, F, F.binds fun _ _ _ _ _ _ us hl => match us, hl with | [_, _, _, _, _, _, _], _ => rfl⟩
  d__law_built := let ⟨fd, F⟩ := c.fn_ 43 rfl; ⟨_, fd, F, He.glo_ok X G (c.fact 67 rfl), F.binds fun _ _ _ _ _ _ us hl => match us, hl with | [_], _ => rfl⟩
  d__law_every := let ⟨fd, F⟩ := c.fn_ 44 rfl; ⟨_, fd, F, He.glo_ok X G (c.fact 68 rfl), F.binds fun _ _ _ _ _ _ us hl => match us, hl with | [_], _ => rfl⟩
  d__law_cells := let ⟨fd, F⟩ := c.fn_ 45 rfl; ⟨_, fd, F, He.glo_ok X G (c.fact 69 rfl), F.binds fun _ _ _ _ _ _ us hl => match us, hl with | [_], _ => rfl⟩
  d__law_clash := let ⟨fd, F⟩ := c.fn_ 46 rfl; ⟨_, fd, F, He.glo_ok X G (c.fact 70 rfl), F.binds fun _ _ _ _ _ _ us hl => match us, hl with | [_, _], _ => rfl⟩
  d__law_free := let ⟨fd, F⟩ := c.fn_ 47 rfl; ⟨_, fd, F, He.glo_ok X G (c.fact 71 rfl), F.binds fun _ _ _ _ _ _ us hl => match us, hl with | [_, _], _ => rfl⟩
  d__law_suits := let ⟨fd, F⟩ := c.fn_ 48 rfl; ⟨_, fd, F, He.glo_ok X G (c.fact 72 rfl), F.binds fun _ _ _ _ _ _ us hl => match us, hl with | [_, _], _ => rfl⟩
  d__law_row := let ⟨fd, F⟩ := c.fn_ 49 rfl; ⟨_, fd, F, He.glo_ok X G (c.fact 73 rfl), F.binds fun _ _ _ _ _ _ us hl => match us, hl with | [_, _], _ => rfl⟩
  d__law_suiting := let ⟨fd, F⟩ := c.fn_ 50 rfl; ⟨_, fd, F, He.glo_ok X G (c.fact 74 rfl), F.binds fun _ _ _ _ _ _ us hl => match us, hl with | [_, _, _], _ => rfl⟩
  d__law_gap := let ⟨fd, F⟩ := c.fn_ 51 rfl; ⟨_, fd, F, He.glo_ok X G (c.fact 75 rfl), F.binds fun _ _ _ _ _ _ us hl => match us, hl with | [_, _, _, _], _ => rfl⟩
  d__law_let := let ⟨fd, F⟩ := c.fn_ 52 rfl; ⟨_, fd, F, He.glo_ok X G (c.fact 76 rfl), F.binds fun _ _ _ _ _ _ us hl => match us, hl with | [_, _, _], _ => rfl⟩
  d__law_given := let ⟨fd, F⟩ := c.fn_ 53 rfl; ⟨_, fd, F, He.glo_ok X G (c.fact 77 rfl), F.binds fun _ _ _ _ _ _ us hl => match us, hl with | [_, _, _], _ => rfl⟩
  d__law_taker := let ⟨fd, F⟩ := c.fn_ 54 rfl; ⟨_, fd, F, He.glo_ok X G (c.fact 78 rfl), F.binds fun _ _ _ _ _ _ us hl => match us, hl with | [_, _], _ => rfl⟩
  d__law_may := let ⟨fd, F⟩ := c.fn_ 55 rfl; ⟨_, fd, F, He.glo_ok X G (c.fact 79 rfl), F.binds fun _ _ _ _ _ _ us hl => match us, hl with | [_, _, _], _ => rfl⟩
  d__law_nearer := let ⟨fd, F⟩ := c.fn_ 56 rfl; ⟨_, fd, F, He.glo_ok X G (c.fact 80 rfl), F.binds fun _ _ _ _ _ _ us hl => match us, hl with | [_, _], _ => rfl⟩
  d__law_fits := let ⟨fd, F⟩ := c.fn_ 57 rfl; ⟨_, fd, F, He.glo_ok X G (c.fact 81 rfl), F.binds fun _ _ _ _ _ _ us hl => match us, hl with | [_, _, _], _ => rfl⟩
  d__law_change := let ⟨fd, F⟩ := c.fn_ 58 rfl; ⟨_, fd, F, He.glo_ok X G (c.fact 82 rfl), F.binds fun _ _ _ _ _ _ us hl => match us, hl with | [_, _, _], _ => rfl⟩
  d__law_do := let ⟨fd, F⟩ := c.fn_ 59 rfl; ⟨_, fd, F, He.glo_ok X G (c.fact 83 rfl), F.binds fun _ _ _ _ _ _ us hl => match us, hl with | [_, _, _], _ => rfl⟩
  d__law_able := let ⟨fd, F⟩ := c.fn_ 60 rfl; ⟨_, fd, F, He.glo_ok X G (c.fact 84 rfl), F.binds fun _ _ _ _ _ _ us hl => match us, hl with | [_, _], _ => rfl⟩
  d__law_start := let ⟨fd, F⟩ := c.fn_ 61 rfl; ⟨_, fd, F, He.glo_ok X G (c.fact 85 rfl), F.binds fun _ _ _ _ _ _ us hl => match us, hl with | [], _ => rfl⟩
  d__law_plan := let ⟨fd, F⟩ := c.fn_ 62 rfl; ⟨_, fd, F, He.glo_ok X G (c.fact 86 rfl), F.binds fun _ _ _ _ _ _ us hl => match us, hl with | [_, _], _ => rfl⟩
  q_Record___len__ := metA "Record" "__len__" K
  d_Record___len__ := let ⟨fd, F⟩ := c.fn_ 63 rfl; ⟨fd, F, F.binds fun _ _ _ _ _ _ us hl => match us, hl with | [_], _ => rfl⟩
  q_Record_bookings := getA "Record" "bookings" K
  d_Record_bookings := let ⟨fd, F⟩ := c.fn_ 64 rfl; ⟨fd, F, F.binds fun _ _ _ _ _ _ us hl => match us, hl with | [_], _ => rfl⟩
  q_Record_found := getA "Record" "found" K
  d_Record_found := let ⟨fd, F⟩ := c.fn_ 65 rfl; ⟨fd, F, F.binds fun _ _ _ _ _ _ us hl => match us, hl with | [_], _ => rfl⟩
  q_Record_told := getA "Record" "told" K
  d_Record_told := let ⟨fd, F⟩ := c.fn_ 66 rfl; ⟨fd, F, F.binds fun _ _ _ _ _ _ us hl => match us, hl with | [_], _ => rfl⟩
  d_law := let ⟨fd, F⟩ := c.fn_ 67 rfl; ⟨_, fd, F, He.glo_ok X G (c.fact 87 rfl), F.binds fun _ _ _ _ _ _ us hl => match us, hl with | [_], _ => rfl⟩
  q_Hall_parts := getA "Hall" "parts" K
  d_Hall_parts := let ⟨fd, F⟩ := c.fn_ 68 rfl; ⟨fd, F, F.binds fun _ _ _ _ _ _ us hl => match us, hl with | [_], _ => rfl⟩
  q_Hall_days := getA "Hall" "days" K
  d_Hall_days := let ⟨fd, F⟩ := c.fn_ 69 rfl; ⟨fd, F, F.binds fun _ _ _ _ _ _ us hl => match us, hl with | [_], _ => rfl⟩
  q_Hall_widths := getA "Hall" "widths" K
  d_Hall_widths := let ⟨fd, F⟩ := c.fn_ 70 rfl; ⟨fd, F, F.binds fun _ _ _ _ _ _ us hl => match us, hl with | [_], _ => rfl⟩
  q_Hall_longest := getA "Hall" "longest" K
  d_Hall_longest := let ⟨fd, F⟩ := c.fn_ 71 rfl; ⟨fd, F, F.binds fun _ _ _ _ _ _ us hl => match us, hl with | [_], _ => rfl⟩
  q_Hall_rule := getA "Hall" "rule" K
  d_Hall_rule := let ⟨fd, F⟩ := c.fn_ 72 rfl; ⟨fd, F, F.binds fun _ _ _ _ _ _ us hl => match us, hl with | [_], _ => rfl⟩
  q_Hall_words := getA "Hall" "words" K
  d_Hall_words := let ⟨fd, F⟩ := c.fn_ 73 rfl; ⟨fd, F, F.binds fun _ _ _ _ _ _ us hl => match us, hl with | [_], _ => rfl⟩
  q_Hall_frame := metA "Hall" "frame" K
  d_Hall_frame := let ⟨fd, F⟩ := c.fn_ 74 rfl; ⟨fd, F, F.binds fun _ _ _ _ _ _ us hl => match us, hl with | [_], _ => rfl⟩
  fl_Done_answer := (FldOk.cons (He.cls_ok (c.fact 88 rfl)) (He.noat_ok (c.fact 89 rfl)) FldOk.nil)
  fl_Done_behind := (FldOk.cons (He.cls_ok (c.fact 88 rfl)) (He.noat_ok (c.fact 90 rfl)) FldOk.nil)
  fl_Done_own := (FldOk.cons (He.cls_ok (c.fact 88 rfl)) (He.noat_ok (c.fact 91 rfl)) FldOk.nil)
  fl_Record_answers := (FldOk.cons (He.cls_ok (c.fact 92 rfl)) (He.noat_ok (c.fact 93 rfl)) FldOk.nil)
  fl_Record_at := (FldOk.cons (He.cls_ok (c.fact 92 rfl)) (He.noat_ok (c.fact 94 rfl)) FldOk.nil)
  fl_Record_place := (FldOk.cons (He.cls_ok (c.fact 92 rfl)) (He.noat_ok (c.fact 95 rfl)) FldOk.nil)
  fl_Record_told_findings := (FldOk.cons (He.cls_ok (c.fact 92 rfl)) (He.noat_ok (c.fact 96 rfl)) FldOk.nil)
  sc_Hall := scls_ok (c.fact 97 rfl)
  cl_Done := He.cls_ok (c.fact 88 rfl)
  cl_Record := He.cls_ok (c.fact 92 rfl)
  sq_Hall_many_days := metA "Hall" "many_days" K
  sl_Hall_many_days := slot_ok (c.fact 98 rfl)
  sq_Hall_many_parts := metA "Hall" "many_parts" K
  sl_Hall_many_parts := slot_ok (c.fact 99 rfl)
  sq_Hall_own_longest := metA "Hall" "own_longest" K
  sl_Hall_own_longest := slot_ok (c.fact 100 rfl)
  sq_Hall_own_widths := metA "Hall" "own_widths" K
  sl_Hall_own_widths := slot_ok (c.fact 101 rfl)
  sq_Hall_points := metA "Hall" "points" K
  sl_Hall_points := slot_ok (c.fact 102 rfl)
  sq_Hall_told_words := metA "Hall" "told_words" K
  sl_Hall_told_words := slot_ok (c.fact 103 rfl)
  pr_Record_bookings := prop_ok (c.fact 104 rfl)
  pr_Record_found := prop_ok (c.fact 105 rfl)
  pr_Record_told := prop_ok (c.fact 106 rfl)
  me_Record_take_in := He.meth_ok (c.fact 107 rfl)
  ln_Record := len_ok (c.fact 108 rfl)
  mk_Done := ⟨He.mkr_ok (c.fact 109 rfl), He.glo_ok X G (c.fact 110 rfl)⟩
  mk_Hall := ⟨He.mkr_ok (c.fact 111 rfl), He.glo_ok X G (c.fact 112 rfl)⟩
  mk_Record := ⟨He.mkr_ok (c.fact 113 rfl), He.glo_ok X G (c.fact 114 rfl)⟩
end
theorem law_ok {w : World} {K : PySem.W.Frag} {h : Heap} {mg : PySem.Str → Option Value} {f : Addr} (X : K.In h) (G : h.Ns mainGlobals mg) (hfa : mg ("law" : PySem.Str) = some (.ref f)) (c : SaysY fb fn ts w K) : LawAt w K mg f g_law_k01 := by
  obtain ⟨fd, F⟩ := c.fn_ 67 rfl
  have e := hfa.symm.trans (He.glo_ok X G (c.fact 87 rfl))
  cases e
  have bb : ∀ v : Value, bindArgs fd ⟨[v], []⟩ = (pure [("_law_script", v)] : Sem (List (PySem.Str × Value))) := by
    obtain ⟨oc, od, kV, doc, pm, an, cdv, ct, osl, rfl, lk, hcd⟩ := F.ex
    intro v
    rfl
  exact ⟨fd, fun s v => .of_eq (bb v), fun base _ _ => N_law (tx_of X G c) F⟩
end Zk01
theorem Zk01.holds (g : ∀ ns : List Int, ns.length ≤ 63 → ∃ st, QS.g_law_k01 [.p (.scr ns)] [] = .ok (.p (.bl true)) st) : PySem.Challenge.rw_hallstretch_k01_whole_records.Holds :=
  Zk01.holds_of QS.g_law_k01 (fun X G hfa c => Zk01.law_ok X G hfa c) g

set_option maxRecDepth 100000 in
set_option maxHeartbeats 8000000 in
theorem PySem.Challenge.cw_hallstretch_k01_whole_records_holds : PySem.Challenge.rw_hallstretch_k01_whole_records.Holds := by
  exact Zk01.holds fun ns h => QS.law_k01_ok ns h
