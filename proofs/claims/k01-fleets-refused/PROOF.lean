import PyProof.Rows.All
import Wide.All
import OpenK.AllK
import Wide.FinOn
import HandS.ForMost
import HandS.WordsExc
import HandS.CallSlots
import HandS.Deep
import HandS.TupAny
import HandS.TupLen
import HandS.IsInst
import HandS.Flow
import HandS.Sort
import PyProof.Rows.StrTemp
import HandS.Conv
import HandS.Style
import HandS.Iter
import HandS.Property
import HandS.ExcInit
import HandS.FStr
import KE.KExcSuper
import HandS.ExcIs
import HandS.ExcField
import KE.KExcIs
import HandS.Walk
import KE.GoesMore
import KE.GoesEnum
import HandS.OwnEq
import HandS.Ends
import KE.RegKSuper
import PySem.Challenge.RW_shipsrow_k01_fleets_refused
section T_GxCore
set_option Elab.async false
set_option linter.all false
set_option maxRecDepth 100000
set_option maxHeartbeats 4000000
namespace Gx
open PySem PySem.Spec PyProof.Rows L2
abbrev St := L2.St

/-! ## data -/
/-- frozen data, by value -/
inductive D where
  | non | bl (b : Bool) | int (i : Int) | str (x : Str) | ty (k : Nat) | cls (c : Nat)
  | tup (xs : List D) | lst (xs : List D) | dic (ks vs : List D) | obj (c : Nat) (vs : List D)
/-- what a slot holds: data, or a handle upon an object that may change -/
inductive SV where
  | d (x : D) | h (k : Nat)
/-- an object that may change -/
inductive O where
  | dead | lst (xs : List D) | dic (ks vs : List D) | ins (c : Nat) (vs : List SV)
def O.live : O → Bool
  | .dead => false
  | _ => true

/-- the fields of the classes, by number -/
def flds : Nat → List Str
  | 0 => ["form", "lengths", "room"]
  | 1 => ["pieces"]
  | 2 => ["source", "many", "told", "rests"]
  | 3 => ["words_in", "at_line", "spot"]
  | 4 => ["many", "known"]
  | 14 => ["index"]
  | 15 => ["index"]
  | 16 => ["index"]
  | 20 => ["line", "word"]
  | _ => []

/-- the tables: the written part, the classes' addresses -/
structure Tb where
  K : PySem.W.Frag
  ct : Nat → Addr

/-- the built-in types that are named, by number -/
def tyName : Nat → String
  | 0 => "int"
  | 1 => "bool"
  | 2 => "str"
  | 3 => "tuple"
  | 4 => "list"
  | 5 => "dict"
  | 6 => "NoneType"
  | _ => "ValueError"
def keyD : Key → D
  | .inl i => .int i
  | .inr x => .str x

mutual
inductive Rep (T : Tb) (F : Hp) : D → V → Prop
  | non : Rep T F .non .non
  | bl (b : Bool) : Rep T F (.bl b) (.bl b)
  | int (i : Int) : Rep T F (.int i) (.int i)
  | str (x : Str) : Rep T F (.str x) (.str x)
  | ty (k : Nat) : Rep T F (.ty k) (.ty (tyName k))
  | cls (c : Nat) : Rep T F (.cls c) (.ref (T.ct c))
  | tup {a : Addr} {vs : List V} {xs : List D} : SqT T.K F a vs → Reps T F xs vs → Rep T F (.tup xs) (.ref a)
  | lst {a : Addr} {vs : List V} {xs : List D} : F a = some (.lst vs) → Reps T F xs vs → Rep T F (.lst xs) (.ref a)
  | dic {a : Addr} {kvs : List (Key × V)} {ks xs : List D} : Rd F a (.dK kvs) → ks = kvs.map (fun p => keyD p.1) → Reps T F xs (kvs.map (·.2)) → Rep T F (.dic ks xs) (.ref a)
  | obj {a dx : Addr} {c : Nat} {ws : List V} {xs : List D} : F a = some (.ins (T.ct c) dx ((flds c).zip ws)) → (flds c).length = ws.length → Reps T F xs ws → Rep T F (.obj c xs) (.ref a)
inductive Reps (T : Tb) (F : Hp) : List D → List V → Prop
  | nil : Reps T F [] []
  | cons {d : D} {v : V} {ds : List D} {vs : List V} : Rep T F d v → Reps T F ds vs → Reps T F (d :: ds) (v :: vs)
end

/-- F' bears all that F bears -/
def Le (F F' : Hp) : Prop := ∀ a o, F a = some o → F' a = some o
theorem Le.rfl' {F : Hp} : Le F F := fun _ _ h => h
theorem Le.trans {F F1 F2 : Hp} (a : Le F F1) (b : Le F1 F2) : Le F F2 := fun c o h => b c o (a c o h)
theorem Le.upd {F : Hp} {p : Addr} {o : HO} (h : F p = none) : Le F (L2.upd F p o) := fun a u e => by rw [upd_ne (ne_of_none e h)]; exact e
theorem Rd.le {F F' : Hp} (l : Le F F') {a : Addr} {o : HO} (h : Rd F a o) : Rd F' a o := by
  rcases h with h | ⟨u, h⟩
  · exact .inl (l _ _ h)
  · exact .inr ⟨u, l _ _ h⟩
theorem SqT.le {K : PySem.W.Frag} {F F' : Hp} (l : Le F F') {a : Addr} {xs : List V} (h : SqT K F a xs) : SqT K F' a xs := by
  rcases h with h | h
  · exact .inl (Rd.le l h)
  · exact .inr h

mutual
theorem Rep.le {T : Tb} {F F' : Hp} (l : Le F F') : ∀ {d : D} {v : V}, Rep T F d v → Rep T F' d v
  | _, _, .non => .non
  | _, _, .bl b => .bl b
  | _, _, .int i => .int i
  | _, _, .str x => .str x
  | _, _, .ty n => .ty n
  | _, _, .cls n => .cls n
  | _, _, .tup h r => .tup (SqT.le l h) (Reps.le l r)
  | _, _, .lst h r => .lst (l _ _ h) (Reps.le l r)
  | _, _, .dic h e r => .dic (Rd.le l h) e (Reps.le l r)
  | _, _, .obj h e r => .obj (l _ _ h) e (Reps.le l r)
theorem Reps.le {T : Tb} {F F' : Hp} (l : Le F F') : ∀ {ds : List D} {vs : List V}, Reps T F ds vs → Reps T F' ds vs
  | _, _, .nil => .nil
  | _, _, .cons h r => .cons (Rep.le l h) (Reps.le l r)
end
section
variable {T : Tb} {F : Hp}
theorem Reps.length : ∀ {ds : List D} {vs : List V}, Reps T F ds vs → ds.length = vs.length
  | _, _, .nil => rfl
  | _, _, .cons _ r => by rw [List.length_cons, List.length_cons, r.length]
theorem Reps.get : ∀ {ds : List D} {vs : List V} {i : Nat} {d : D}, Reps T F ds vs → ds[i]? = some d → ∃ v, vs[i]? = some v ∧ Rep T F d v
  | _, _, _, _, .nil, e => by simp at e
  | _, _, 0, _, .cons h _, e => by simp at e; subst e; exact ⟨_, rfl, h⟩
  | _, _, i + 1, _, .cons _ r, e => by
    obtain ⟨v, h1, h2⟩ := Reps.get (i := i) r (by simpa using e)
    exact ⟨v, by simpa using h1, h2⟩
theorem Reps.getV : ∀ {ds : List D} {vs : List V} {i : Nat} {v : V}, Reps T F ds vs → vs[i]? = some v → ∃ d, ds[i]? = some d ∧ Rep T F d v
  | _, _, _, _, .nil, e => by simp at e
  | _, _, 0, _, .cons h _, e => by simp at e; subst e; exact ⟨_, rfl, h⟩
  | _, _, i + 1, _, .cons _ r, e => by
    obtain ⟨v, h1, h2⟩ := Reps.getV (i := i) r (by simpa using e)
    exact ⟨v, by simpa using h1, h2⟩
theorem Reps.append : ∀ {ds es : List D} {vs ws : List V}, Reps T F ds vs → Reps T F es ws → Reps T F (ds ++ es) (vs ++ ws)
  | _, _, _, _, .nil, r => r
  | _, _, _, _, .cons h t, r => .cons h (t.append r)
theorem Reps.one {d : D} {v : V} (h : Rep T F d v) : Reps T F [d] [v] := .cons h .nil
theorem Reps.snoc {ds : List D} {vs : List V} {d : D} {v : V} (r : Reps T F ds vs) (h : Rep T F d v) : Reps T F (ds ++ [d]) (vs ++ [v]) := r.append (.one h)
theorem Reps.drop : ∀ {ds : List D} {vs : List V} (n : Nat), Reps T F ds vs → Reps T F (ds.drop n) (vs.drop n)
  | _, _, 0, r => r
  | _, _, n + 1, .nil => by simpa using Reps.nil
  | _, _, n + 1, .cons _ t => by simpa using t.drop n
theorem Reps.take : ∀ {ds : List D} {vs : List V} (n : Nat), Reps T F ds vs → Reps T F (ds.take n) (vs.take n)
  | _, _, 0, _ => by simpa using Reps.nil
  | _, _, n + 1, .nil => by simpa using Reps.nil
  | _, _, n + 1, .cons h t => by simpa using Reps.cons h (t.take n)
theorem Reps.reverse : ∀ {ds : List D} {vs : List V}, Reps T F ds vs → Reps T F ds.reverse vs.reverse
  | _, _, .nil => by simpa using Reps.nil
  | _, _, .cons h t => by simpa using t.reverse.append (.one h)
theorem Reps.set : ∀ {ds : List D} {vs : List V} {d : D} {v : V} (i : Nat), Reps T F ds vs → Rep T F d v → Reps T F (ds.set i d) (vs.set i v)
  | _, _, _, _, _, .nil, _ => by simpa using Reps.nil
  | _, _, _, _, 0, .cons _ t, h => by simpa using Reps.cons h t
  | _, _, _, _, i + 1, .cons h0 t, h => by simpa using Reps.cons h0 (t.set i h)
end

/-! ## the ghost and the relation -/
structure Gh where
  F : Hp
  ρ : Nat → Addr

def RS (T : Tb) (g : Gh) (n : Nat) : SV → V → Prop
  | .d x, v => Rep T g.F x v
  | .h k, v => k < n ∧ v = .ref (g.ρ k)
inductive RSs (T : Tb) (g : Gh) (n : Nat) : List SV → List V → Prop
  | nil : RSs T g n [] []
  | cons {s : SV} {v : V} {ss : List SV} {vs : List V} : RS T g n s v → RSs T g n ss vs → RSs T g n (s :: ss) (v :: vs)

def OAt (T : Tb) (g : Gh) (n : Nat) (H : Hp) (a : Addr) : O → Prop
  | .dead => True
  | .lst xs => ∃ vs, H a = some (.lst vs) ∧ Reps T g.F xs vs
  | .dic ks xs => ∃ kvs : List (Key × V), H a = some (.dK kvs) ∧ ks = kvs.map (fun p => keyD p.1) ∧ Reps T g.F xs (kvs.map (·.2))
  | .ins c svs => ∃ dx ws, H a = some (.ins (T.ct c) dx ((flds c).zip ws)) ∧ ws.length ≤ (flds c).length ∧ RSs T g n svs ws

structure HRel (T : Tb) (B : Hp) (g : Gh) (own : List O) (H : Hp) : Prop where
  b : Le B H
  f : Le g.F H
  o : ∀ (k : Nat) (o : O), own[k]? = some o → OAt T g own.length H (g.ρ k) o
  nb : ∀ (k : Nat) (o : O), own[k]? = some o → o.live = true → B (g.ρ k) = none ∧ g.F (g.ρ k) = none
  inj : ∀ (j k : Nat) (p q : O), own[j]? = some p → own[k]? = some q → p.live = true → q.live = true → g.ρ j = g.ρ k → j = k

structure GExt (B : Hp) (g : Gh) (n : Nat) (g' : Gh) (n' : Nat) : Prop where
  le : n ≤ n'
  F : Le g.F g'.F
  ρ : ∀ k, k < n → g'.ρ k = g.ρ k
  fb : ∀ a o, g'.F a = some o → g.F a = some o ∨ B a = none

abbrev Sl := List (Option SV)
abbrev Own := List O
def SRel (T : Tb) (g : Gh) (n : Nat) (sd : Sl) (σ : St) : Prop := σ.length = sd.length ∧ ∀ (i : Nat) (sv : SV), sd[i]? = some (some sv) → ∃ v, σ[i]? = some (some v) ∧ RS T g n sv v

section
variable {T : Tb} {B : Hp} {g g1 g2 : Gh} {n n1 n2 : Nat}
theorem GExt.rfl' : GExt B g n g n := ⟨Nat.le_refl _, Le.rfl', fun _ _ => rfl, fun _ _ h => .inl h⟩
theorem GExt.trans (a : GExt B g n g1 n1) (b : GExt B g1 n1 g2 n2) : GExt B g n g2 n2 := by
  refine ⟨Nat.le_trans a.le b.le, a.F.trans b.F, fun k hk => (b.ρ k (Nat.lt_of_lt_of_le hk a.le)).trans (a.ρ k hk), fun x o h => ?_⟩
  rcases b.fb x o h with h | h
  · exact a.fb x o h
  · exact .inr h
theorem RS.ext {s : SV} {v : V} (e : GExt B g n g1 n1) (h : RS T g n s v) : RS T g1 n1 s v := by
  cases s with
  | d x => exact Rep.le e.F h
  | h k => exact ⟨Nat.lt_of_lt_of_le h.1 e.le, by rw [e.ρ k h.1]; exact h.2⟩
theorem RSs.ext (e : GExt B g n g1 n1) : ∀ {s : List SV} {v : List V}, RSs T g n s v → RSs T g1 n1 s v
  | _, _, .nil => .nil
  | _, _, .cons h r => .cons (h.ext e) (r.ext e)
theorem RSs.length : ∀ {s : List SV} {v : List V}, RSs T g n s v → s.length = v.length
  | _, _, .nil => rfl
  | _, _, .cons _ r => by rw [List.length_cons, List.length_cons, r.length]
theorem RSs.get : ∀ {ds : List SV} {vs : List V} {i : Nat} {d : SV}, RSs T g n ds vs → ds[i]? = some d → ∃ v, vs[i]? = some v ∧ RS T g n d v
  | _, _, _, _, .nil, e => by simp at e
  | _, _, 0, _, .cons h _, e => by simp at e; subst e; exact ⟨_, rfl, h⟩
  | _, _, i + 1, _, .cons _ r, e => by
    obtain ⟨v, h1, h2⟩ := RSs.get (i := i) r (by simpa using e)
    exact ⟨v, by simpa using h1, h2⟩
theorem RSs.set : ∀ {ds : List SV} {vs : List V} {d : SV} {v : V} (i : Nat), RSs T g n ds vs → RS T g n d v → RSs T g n (ds.set i d) (vs.set i v)
  | _, _, _, _, _, .nil, _ => by simpa using RSs.nil
  | _, _, _, _, 0, .cons _ t, h => by simpa using RSs.cons h t
  | _, _, _, _, i + 1, .cons h0 t, h => by simpa using RSs.cons h0 (t.set i h)
theorem RSs.snoc : ∀ {ds : List SV} {vs : List V} {d : SV} {v : V}, RSs T g n ds vs → RS T g n d v → RSs T g n (ds ++ [d]) (vs ++ [v])
  | _, _, _, _, .nil, h => .cons h .nil
  | _, _, _, _, .cons h0 t, h => .cons h0 (t.snoc h)
theorem SRel.ext {sd : Sl} {σ : St} (e : GExt B g n g1 n1) (h : SRel T g n sd σ) : SRel T g1 n1 sd σ := ⟨h.1, fun i sv q => by
  obtain ⟨v, h1, h2⟩ := h.2 i sv q
  exact ⟨v, h1, h2.ext e⟩⟩
theorem SRel.set {sd : Sl} {σ : St} {i : Nat} {sv : SV} {v : V} (h : SRel T g n sd σ) (r : RS T g n sv v) : SRel T g n (sd.set i (some sv)) (σ.set i (some v)) := by
  refine ⟨by simp [h.1], fun j s q => ?_⟩
  by_cases e : i = j
  · subst e
    by_cases hl : i < sd.length
    · rw [List.getElem?_set_self hl] at q
      cases q
      exact ⟨v, by rw [List.getElem?_set_self (by rw [h.1]; exact hl)], r⟩
    · rw [List.getElem?_eq_none (by simpa using hl)] at q; cases q
  · rw [List.getElem?_set_ne e] at q
    rw [List.getElem?_set_ne e]
    exact h.2 j s q
theorem SRel.unset {sd : Sl} {σ : St} {i : Nat} {o : Option V} (h : SRel T g n sd σ) : SRel T g n (sd.set i none) (σ.set i o) := by
  refine ⟨by simp [h.1], fun j s q => ?_⟩
  by_cases e : i = j
  · subst e
    by_cases hl : i < sd.length
    · rw [List.getElem?_set_self hl] at q; cases q
    · rw [List.getElem?_eq_none (by simpa using hl)] at q; cases q
  · rw [List.getElem?_set_ne e] at q
    rw [List.getElem?_set_ne e]
    exact h.2 j s q
/-- the own objects under a greater ghost -/
theorem OAt.ext {H : Hp} {a : Addr} {o : O} (e : GExt B g n g1 n1) (h : OAt T g n H a o) : OAt T g1 n1 H a o := by
  cases o with
  | dead => trivial
  | lst xs => obtain ⟨vs, h1, h2⟩ := h; exact ⟨vs, h1, h2.le e.F⟩
  | dic ks xs => obtain ⟨kvs, h1, h2, h3⟩ := h; exact ⟨kvs, h1, h2, h3.le e.F⟩
  | ins c svs => obtain ⟨dx, ws, h1, h2, h3⟩ := h; exact ⟨dx, ws, h1, h2, h3.ext e⟩
theorem OAt.there {H : Hp} {a : Addr} {o : O} (h : OAt T g n H a o) (hl : o.live = true) : ∃ ho, H a = some ho := by
  cases o with
  | dead => cases hl
  | lst xs => obtain ⟨vs, h1, _⟩ := h; exact ⟨_, h1⟩
  | dic ks xs => obtain ⟨kvs, h1, _⟩ := h; exact ⟨_, h1⟩
  | ins c svs => obtain ⟨dx, ws, h1, _⟩ := h; exact ⟨_, h1⟩
theorem OAt.heap {H H' : Hp} {a : Addr} {o : O} (h : OAt T g n H a o) (e : o.live = true → H' a = H a) : OAt T g n H' a o := by
  cases o with
  | dead => trivial
  | lst xs => obtain ⟨vs, h1, h2⟩ := h; exact ⟨vs, by rw [e rfl]; exact h1, h2⟩
  | dic ks xs => obtain ⟨kvs, h1, h2, h3⟩ := h; exact ⟨kvs, by rw [e rfl]; exact h1, h2, h3⟩
  | ins c svs => obtain ⟨dx, ws, h1, h2, h3⟩ := h; exact ⟨dx, ws, by rw [e rfl]; exact h1, h2, h3⟩
variable {own : Own} {H : Hp}
theorem HRel.free (R : HRel T B g own H) {p : Addr} (h : H p = none) : B p = none ∧ g.F p = none := by
  constructor
  · cases e : B p with
    | none => rfl
    | some o => rw [R.b _ _ e] at h; cases h
  · cases e : g.F p with
    | none => rfl
    | some o => rw [R.f _ _ e] at h; cases h
theorem HRel.neOwn (R : HRel T B g own H) {p : Addr} (h : H p = none) {k : Nat} {o : O} (hk : own[k]? = some o) (hl : o.live = true) : g.ρ k ≠ p := by
  obtain ⟨ho, e⟩ := (R.o k o hk).there hl
  exact ne_of_none e h
/-- a new frozen object -/
theorem HRel.new (R : HRel T B g own H) {p : Addr} (h : H p = none) (ho : HO) :
    HRel T B ⟨L2.upd g.F p ho, g.ρ⟩ own (L2.upd H p ho) ∧ GExt B g own.length ⟨L2.upd g.F p ho, g.ρ⟩ own.length := by
  obtain ⟨hB, hF⟩ := R.free h
  have ext : GExt B g own.length ⟨L2.upd g.F p ho, g.ρ⟩ own.length := by
    refine ⟨Nat.le_refl _, Le.upd hF, fun _ _ => rfl, fun a o e => ?_⟩
    by_cases ha : a = p
    · subst ha; exact .inr hB
    · exact .inl (by rw [← upd_ne (H := g.F) (o := ho) ha]; exact e)
  refine ⟨⟨R.b.trans (Le.upd h), fun a o e => ?_, fun k o hk => ?_, fun k o hk hl => ⟨(R.nb k o hk hl).1, ?_⟩, R.inj⟩, ext⟩
  · by_cases ha : a = p
    · subst ha
      have e : (L2.upd g.F a ho) a = some o := e
      rw [upd_same] at e
      rw [upd_same]; exact e
    · have e : (L2.upd g.F p ho) a = some o := e
      rw [upd_ne ha] at e
      rw [upd_ne ha]
      exact R.f _ _ e
  · exact ((R.o k o hk).ext ext).heap fun hl => upd_ne (R.neOwn h hk hl)
  · show L2.upd g.F p ho (g.ρ k) = none
    rw [upd_ne (R.neOwn h hk hl)]
    exact (R.nb k o hk hl).2
/-- a new object of one's own -/
theorem HRel.made (R : HRel T B g own H) {p : Addr} (h : H p = none) {ho : HO} {o : O}
    (at_ : OAt T ⟨g.F, fun k => if k = own.length then p else g.ρ k⟩ (own.length + 1) (L2.upd H p ho) p o) :
    HRel T B ⟨g.F, fun k => if k = own.length then p else g.ρ k⟩ (own ++ [o]) (L2.upd H p ho) ∧
      GExt B g own.length ⟨g.F, fun k => if k = own.length then p else g.ρ k⟩ (own ++ [o]).length := by
  obtain ⟨hB, hF⟩ := R.free h
  have ext : GExt B g own.length ⟨g.F, fun k => if k = own.length then p else g.ρ k⟩ (own ++ [o]).length :=
    ⟨by simp, Le.rfl', fun k hk => by show (if k = own.length then p else g.ρ k) = g.ρ k; rw [if_neg (by omega)], fun _ _ e => .inl e⟩
  have look : ∀ (k : Nat) (q : O), (own ++ [o])[k]? = some q → (k < own.length ∧ own[k]? = some q) ∨ (k = own.length ∧ q = o) := fun k q e => by
    by_cases hk : k < own.length
    · exact .inl ⟨hk, by rw [List.getElem?_append_left hk] at e; exact e⟩
    · have hk2 : k < (own ++ [o]).length := (List.getElem?_eq_some_iff.mp e).1
      have : k = own.length := by simp at hk2; omega
      subst this
      refine .inr ⟨rfl, ?_⟩
      simp at e
      exact e.symm
  have hl0 : (own ++ [o]).length = own.length + 1 := by simp
  refine ⟨⟨R.b.trans (Le.upd h), R.f.trans (Le.upd h), fun k q e => ?_, fun k q e hl => ?_, fun j k q r ej ek hq hr e => ?_⟩, ext⟩
  · rw [hl0]
    rcases look k q e with ⟨hk, e'⟩ | ⟨rfl, rfl⟩
    · show OAt T _ _ _ (if k = own.length then p else g.ρ k) q
      rw [if_neg (by omega)]
      rw [← hl0]
      exact ((R.o k q e').ext ext).heap fun hl => upd_ne (R.neOwn h e' hl)
    · show OAt T _ _ _ (if own.length = own.length then p else g.ρ _) q
      rw [if_pos rfl]
      exact at_
  · show B (if k = own.length then p else g.ρ k) = none ∧ g.F (if k = own.length then p else g.ρ k) = none
    rcases look k q e with ⟨hk, e'⟩ | ⟨rfl, rfl⟩
    · rw [if_neg (by omega)]; exact R.nb k q e' hl
    · rw [if_pos rfl]; exact ⟨hB, hF⟩
  · have e : (if j = own.length then p else g.ρ j) = (if k = own.length then p else g.ρ k) := e
    rcases look j q ej with ⟨hj, ej'⟩ | ⟨rfl, rfl⟩
    · rcases look k r ek with ⟨hk, ek'⟩ | ⟨rfl, rfl⟩
      · rw [if_neg (by omega), if_neg (by omega)] at e
        exact R.inj j k q r ej' ek' hq hr e
      · rw [if_neg (by omega), if_pos rfl] at e
        exact absurd e (R.neOwn h ej' hq)
    · rcases look k r ek with ⟨hk, ek'⟩ | ⟨rfl, rfl⟩
      · rw [if_pos rfl, if_neg (by omega)] at e
        exact absurd e.symm (R.neOwn h ek' hr)
      · rfl
/-- an object of one's own changes -/
theorem HRel.put (R : HRel T B g own H) {k : Nat} {o : O} (hk : own[k]? = some o) (hl : o.live = true) {ho : HO} {o' : O} (at_ : OAt T g own.length (L2.upd H (g.ρ k) ho) (g.ρ k) o') :
    HRel T B g (own.set k o') (L2.upd H (g.ρ k) ho) := by
  have hlt : k < own.length := (List.getElem?_eq_some_iff.mp hk).1
  obtain ⟨hB, hF⟩ := R.nb k o hk hl
  have look : ∀ (j : Nat) (q : O), (own.set k o')[j]? = some q → (j ≠ k ∧ own[j]? = some q) ∨ (j = k ∧ q = o') := fun j q e => by
    by_cases hj : k = j
    · subst hj
      rw [List.getElem?_set_self hlt] at e
      exact .inr ⟨rfl, (Option.some.inj e).symm⟩
    · rw [List.getElem?_set_ne hj] at e
      exact .inl ⟨fun z => hj z.symm, e⟩
  have nB : ∀ a u, B a = some u → a ≠ g.ρ k := fun a u e z => by rw [z, hB] at e; cases e
  have nF : ∀ a u, g.F a = some u → a ≠ g.ρ k := fun a u e z => by rw [z, hF] at e; cases e
  refine ⟨fun a u e => by rw [upd_ne (nB a u e)]; exact R.b a u e, fun a u e => by rw [upd_ne (nF a u e)]; exact R.f a u e, fun j q e => ?_, fun j q e hq => ?_, fun i j q r ei ej hq hr e => ?_⟩
  · rw [List.length_set]
    rcases look j q e with ⟨hj, e'⟩ | ⟨rfl, rfl⟩
    · exact (R.o j q e').heap fun hq => upd_ne fun z => hj (R.inj j k q o e' hk hq hl z)
    · exact at_
  · rcases look j q e with ⟨hj, e'⟩ | ⟨rfl, rfl⟩
    · exact R.nb j q e' hq
    · exact ⟨hB, hF⟩
  · rcases look i q ei with ⟨hi, ei'⟩ | ⟨rfl, rfl⟩
    · rcases look j r ej with ⟨hj, ej'⟩ | ⟨rfl, rfl⟩
      · exact R.inj i j q r ei' ej' hq hr e
      · exact absurd (R.inj i j q o ei' hk hq hl e) hi
    · rcases look j r ej with ⟨hj, ej'⟩ | ⟨rfl, rfl⟩
      · exact absurd (R.inj j i r o ej' hk hr hl e.symm) hj
      · rfl
/-- an object of one's own is frozen -/
theorem HRel.freeze (R : HRel T B g own H) {k : Nat} {o : O} (hk : own[k]? = some o) (hl : o.live = true) {ho : HO} (hh : H (g.ρ k) = some ho) :
    HRel T B ⟨L2.upd g.F (g.ρ k) ho, g.ρ⟩ (own.set k .dead) H ∧ GExt B g own.length ⟨L2.upd g.F (g.ρ k) ho, g.ρ⟩ (own.set k .dead).length := by
  have hlt : k < own.length := (List.getElem?_eq_some_iff.mp hk).1
  obtain ⟨hB, hF⟩ := R.nb k o hk hl
  have ext : GExt B g own.length ⟨L2.upd g.F (g.ρ k) ho, g.ρ⟩ (own.set k .dead).length := by
    refine ⟨by simp, Le.upd hF, fun _ _ => rfl, fun a u e => ?_⟩
    by_cases ha : a = g.ρ k
    · subst ha; exact .inr hB
    · exact .inl (by rw [← upd_ne (H := g.F) (o := ho) ha]; exact e)
  have look : ∀ (j : Nat) (q : O), (own.set k .dead)[j]? = some q → (j ≠ k ∧ own[j]? = some q) ∨ (j = k ∧ q = .dead) := fun j q e => by
    by_cases hj : k = j
    · subst hj
      rw [List.getElem?_set_self hlt] at e
      exact .inr ⟨rfl, (Option.some.inj e).symm⟩
    · rw [List.getElem?_set_ne hj] at e
      exact .inl ⟨fun z => hj z.symm, e⟩
  refine ⟨⟨R.b, fun a u e => ?_, fun j q e => ?_, fun j q e hq => ?_, fun i j q r ei ej hq hr e => ?_⟩, ext⟩
  · by_cases ha : a = g.ρ k
    · subst ha
      have e : (L2.upd g.F (g.ρ k) ho) (g.ρ k) = some u := e
      rw [upd_same] at e
      cases e; exact hh
    · have e : (L2.upd g.F (g.ρ k) ho) a = some u := e
      rw [upd_ne ha] at e
      exact R.f a u e
  · rcases look j q e with ⟨hj, e'⟩ | ⟨rfl, rfl⟩
    · exact (R.o j q e').ext ext
    · trivial
  · rcases look j q e with ⟨hj, e'⟩ | ⟨rfl, rfl⟩
    · refine ⟨(R.nb j q e' hq).1, ?_⟩
      show L2.upd g.F (g.ρ k) ho (g.ρ j) = none
      rw [upd_ne fun z => hj (R.inj j k q o e' hk hq hl z)]
      exact (R.nb j q e' hq).2
    · cases hq
  · rcases look i q ei with ⟨hi, ei'⟩ | ⟨rfl, rfl⟩
    · rcases look j r ej with ⟨hj, ej'⟩ | ⟨rfl, rfl⟩
      · exact R.inj i j q r ei' ej' hq hr e
      · cases hr
    · cases hq
end

/-! ## readings -/
/-- a result, or an exception of ours: its class, its fields -/
inductive Rz (α : Type) where
  | ok (a : α) | ex (k : Nat) (fs : List D)
abbrev M (α : Type) := Sl → Own → Option (Rz α × Own)
abbrev EM := M SV
abbrev TM := M Bool
abbrev AM := M (List SV)
inductive Fl where
  | nx (sd : Sl) (own : Own) | rt (s : SV) (own : Own) | bk (sd : Sl) (own : Own) | ct (sd : Sl) (own : Own) | ex (k : Nat) (fs : List D) (sd : Sl) (own : Own)
abbrev SM := Sl → Own → Option Fl

def M.bind {α β : Type} (f : M α) (k : α → M β) : M β := fun sd own => match f sd own with
  | some (.ok x, o1) => k x sd o1
  | some (.ex c fs, o1) => some (.ex c fs, o1)
  | none => none
def M.ret {α : Type} (x : α) : M α := fun _ own => some (.ok x, own)
/-- what the own objects tell, or nothing -/
def M.ask {α : Type} (f : Own → Option α) : M α := fun _ own => match f own with
  | some x => some (.ok x, own)
  | none => none
def M.fail {α : Type} : M α := fun _ _ => none
def SM.bind {α : Type} (f : M α) (k : α → SM) : SM := fun sd own => match f sd own with
  | some (.ok x, o1) => k x sd o1
  | some (.ex c fs, o1) => some (.ex c fs sd o1)
  | none => none

/-- an exception's own dict -/
def XD (T : Tb) (g : Gh) (H : Hp) (d : Option Addr) (k : Nat) (fs : List D) : Prop :=
  (fs = [] ∧ d = none) ∨ ∃ a ws, d = some a ∧ g.F a = some (.xd ((flds k).zip ws)) ∧ Reps T g.F fs ws

/-- what is fixed through a def's body: the tables, what is to stay, what is wanted of an exception -/
structure Cy where
  T : Tb
  B : Hp
  Ek : L2.St → XK

section
variable {α β γ δ : Type}
def ROk (Y : Cy) (rel : Gh → Nat → α → β → Prop) (g : Gh) (n : Nat) (σ : L2.St) (own' : Own) (Q : β → Hp → Prop) : Rz α → Prop
  | .ok x => ∀ g' v H', HRel Y.T Y.B g' own' H' → GExt Y.B g n g' own'.length → rel g' own'.length x v → Q v H'
  | .ex k fs => ∀ g' d H', HRel Y.T Y.B g' own' H' → GExt Y.B g n g' own'.length → XD Y.T g' H' d k fs → Y.Ek σ (.ref (Y.T.ct k)) d H'
/-- the reading at a point -/
def At (Y : Cy) (rel : Gh → Nat → α → β → Prop) (g : Gh) (sd : Sl) (own : Own) (σ : L2.St) (Q : β → Hp → Prop) (f : M α) : Prop :=
  ∃ r own', f sd own = some (r, own') ∧ ROk Y rel g own.length σ own' Q r
def trM (Y : Cy) (rel : Gh → Nat → α → β → Prop) (f : M α) : L2.St → Hp → (β → Hp → Prop) → Prop := fun σ H Q =>
  ∃ g sd own, HRel Y.T Y.B g own H ∧ SRel Y.T g own.length sd σ ∧ At Y rel g sd own σ Q f
def relB : Gh → Nat → Bool → Bool → Prop := fun _ _ a b => a = b
abbrev trE (Y : Cy) (f : EM) : TE := trM Y (RS Y.T) f
abbrev trT (Y : Cy) (f : TM) : TT := trM Y relB f
abbrev trA (Y : Cy) (f : AM) : TA := trM Y (RSs Y.T) f
def FOk (Y : Cy) (g : Gh) (n : Nat) (Dn : Ends) : Fl → Prop
  | .nx sd' own' => ∀ g' σ' H', HRel Y.T Y.B g' own' H' → SRel Y.T g' own'.length sd' σ' → GExt Y.B g n g' own'.length → Dn.nx σ' H'
  | .bk sd' own' => ∀ g' σ' H', HRel Y.T Y.B g' own' H' → SRel Y.T g' own'.length sd' σ' → GExt Y.B g n g' own'.length → Dn.bk σ' H'
  | .ct sd' own' => ∀ g' σ' H', HRel Y.T Y.B g' own' H' → SRel Y.T g' own'.length sd' σ' → GExt Y.B g n g' own'.length → Dn.ct σ' H'
  | .rt sv own' => ∀ g' v H', HRel Y.T Y.B g' own' H' → GExt Y.B g n g' own'.length → RS Y.T g' own'.length sv v → Dn.rt v H'
  | .ex k fs sd' own' => ∀ g' σ' d H', HRel Y.T Y.B g' own' H' → SRel Y.T g' own'.length sd' σ' → GExt Y.B g n g' own'.length → XD Y.T g' H' d k fs → Y.Ek σ' (.ref (Y.T.ct k)) d H'
def SAt (Y : Cy) (g : Gh) (sd : Sl) (own : Own) (Dn : Ends) (f : SM) : Prop := ∃ r, f sd own = some r ∧ FOk Y g own.length Dn r
def trS (Y : Cy) (f : SM) : TS := fun Dn σ H => ∃ g sd own, HRel Y.T Y.B g own H ∧ SRel Y.T g own.length sd σ ∧ SAt Y g sd own Dn f

section
variable {Y : Cy} {relA : Gh → Nat → α → β → Prop} {relC : Gh → Nat → γ → δ → Prop} {g g1 : Gh} {n n1 : Nat} {σ : L2.St} {own : Own} {sd : Sl} {H : Hp}
theorem ROk.shift {own' : Own} {Q : β → Hp → Prop} {r : Rz α} (e : GExt Y.B g n g1 n1) (h : ROk Y relA g n σ own' Q r) : ROk Y relA g1 n1 σ own' Q r := by
  cases r with
  | ok x => exact fun g' v H' R' e' rx => h g' v H' R' (e.trans e') rx
  | ex k fs => exact fun g' d H' R' e' x => h g' d H' R' (e.trans e') x
theorem FOk.shift {Dn : Ends} {r : Fl} (e : GExt Y.B g n g1 n1) (h : FOk Y g n Dn r) : FOk Y g1 n1 Dn r := by
  cases r with
  | nx sd' own' => exact fun g' σ' H' R' S' e' => h g' σ' H' R' S' (e.trans e')
  | bk sd' own' => exact fun g' σ' H' R' S' e' => h g' σ' H' R' S' (e.trans e')
  | ct sd' own' => exact fun g' σ' H' R' S' e' => h g' σ' H' R' S' (e.trans e')
  | rt sv own' => exact fun g' v H' R' e' rx => h g' v H' R' (e.trans e') rx
  | ex k fs sd' own' => exact fun g' σ' d H' R' S' e' x => h g' σ' d H' R' S' (e.trans e') x
theorem at_bind {f : M α} {k : α → M γ} {Q : δ → Hp → Prop} {Q1 : β → Hp → Prop} (R1 : HRel Y.T Y.B g own H) (S1 : SRel Y.T g own.length sd σ) (h : At Y relC g sd own σ Q (f.bind k))
    (c : ∀ g1 o1 x v H1, HRel Y.T Y.B g1 o1 H1 → SRel Y.T g1 o1.length sd σ → GExt Y.B g own.length g1 o1.length → relA g1 o1.length x v → At Y relC g1 sd o1 σ Q (k x) → Q1 v H1) : trM Y relA f σ H Q1 := by
  obtain ⟨r, own', e, q⟩ := h
  refine ⟨g, sd, own, R1, S1, ?_⟩
  unfold M.bind at e
  cases ef : f sd own with
  | none => rw [ef] at e; cases e
  | some p =>
    obtain ⟨r0, o1⟩ := p
    rw [ef] at e
    cases r0 with
    | ok x => exact ⟨.ok x, o1, ef, fun g' v H' R' x' rx => c g' o1 x v H' R' (S1.ext x') x' rx ⟨r, own', e, q.shift x'⟩⟩
    | ex k fs =>
      cases e
      exact ⟨.ex k fs, _, ef, q⟩
theorem s_bind {f : M α} {k : α → SM} {Dn : Ends} {Q1 : β → Hp → Prop} (R1 : HRel Y.T Y.B g own H) (S1 : SRel Y.T g own.length sd σ) (h : SAt Y g sd own Dn (SM.bind f k))
    (c : ∀ g1 o1 x v H1, HRel Y.T Y.B g1 o1 H1 → SRel Y.T g1 o1.length sd σ → GExt Y.B g own.length g1 o1.length → relA g1 o1.length x v → SAt Y g1 sd o1 Dn (k x) → Q1 v H1) : trM Y relA f σ H Q1 := by
  obtain ⟨r, e, q⟩ := h
  refine ⟨g, sd, own, R1, S1, ?_⟩
  unfold SM.bind at e
  cases ef : f sd own with
  | none => rw [ef] at e; cases e
  | some p =>
    obtain ⟨r0, o1⟩ := p
    rw [ef] at e
    cases r0 with
    | ok x => exact ⟨.ok x, o1, ef, fun g' v H' R' x' rx => c g' o1 x v H' R' (S1.ext x') x' rx ⟨r, e, q.shift x'⟩⟩
    | ex k fs =>
      cases e
      exact ⟨.ex k fs, o1, ef, fun g' d H' R' e' x => q g' σ d H' R' (S1.ext e') e' x⟩
theorem at_ret {x : α} {Q : β → Hp → Prop} (h : At Y relA g sd own σ Q (M.ret x)) : ∀ g' v H', HRel Y.T Y.B g' own H' → GExt Y.B g own.length g' own.length → relA g' own.length x v → Q v H' := by
  obtain ⟨r, own', e, q⟩ := h
  cases e
  exact q
theorem at_ask {f : Own → Option α} {Q : β → Hp → Prop} (h : At Y relA g sd own σ Q (M.ask f)) : ∃ x, f own = some x ∧ ∀ g' v H', HRel Y.T Y.B g' own H' → GExt Y.B g own.length g' own.length → relA g' own.length x v → Q v H' := by
  obtain ⟨r, own', e, q⟩ := h
  unfold M.ask at e
  cases ef : f own with
  | none => rw [ef] at e; cases e
  | some x => rw [ef] at e; cases e; exact ⟨x, rfl, q⟩
theorem at_fail {Q : β → Hp → Prop} (h : At Y relA g sd own σ Q M.fail) : False := by
  obtain ⟨r, own', e, q⟩ := h
  cases e
end
end

/-! ### consequence -/
section
variable {X : Cx}
theorem PE.imp {e : Expr} {t t' : TE} (h : PE X e t) (i : ∀ σ H Q, t' σ H Q → t σ H Q) : PE X e t' := ⟨fun pins s σ H Q I q => h.run pins s σ H Q I (i σ H Q q)⟩
theorem PT.imp {e : Expr} {t t' : TT} (h : PT X e t) (i : ∀ σ H Q, t' σ H Q → t σ H Q) : PT X e t' := ⟨fun pins s σ H Q I q => h.run pins s σ H Q I (i σ H Q q)⟩
theorem PW.imp {e : Expr} {t t' : TT} (h : PW X e t) (i : ∀ σ H Q, t' σ H Q → t σ H Q) : PW X e t' := ⟨fun wh pins s σ H Q I q => h.run wh pins s σ H Q I (i σ H Q q)⟩
theorem PA.imp {es : List Expr} {t t' : TA} (h : PA X es t) (i : ∀ σ H Q, t' σ H Q → t σ H Q) : PA X es t' := ⟨fun pos pins s σ H Q I q => h.run pos pins s σ H Q I (i σ H Q q)⟩
theorem PS.imp {st : Stmt} {t t' : TS} (h : PS X st t) (i : ∀ D σ H, t' D σ H → t D σ H) : PS X st t' := ⟨fun pins s σ H D I q => h.run pins s σ H D I (i D σ H q)⟩
theorem PSs.imp {st : List Stmt} {t t' : TS} (h : PSs X st t) (i : ∀ D σ H, t' D σ H → t D σ H) : PSs X st t' := ⟨fun pins s σ H D I q => h.run pins s σ H D I (i D σ H q)⟩
theorem PG.imp {e : Expr} {t t' : TG} (h : PG X e t) (i : ∀ v σ H Q, t' v σ H Q → t v σ H Q) : PG X e t' := ⟨fun pins s σ H v u Q I r q => h.run pins s σ H v u Q I r (i v σ H Q q)⟩
end
end Gx
end T_GxCore
section T_GxR1
set_option Elab.async false
set_option linter.all false
set_option maxRecDepth 100000
set_option maxHeartbeats 4000000
namespace Gx
open PySem PySem.Spec PyProof.Rows L2

/-! ## views -/
/-- a list or a tuple, as it is read -/
def seqV (own : Own) : SV → Option (List D)
  | .d (.lst xs) => some xs
  | .d (.tup xs) => some xs
  | .h k => match own[k]? with
    | some (.lst xs) => some xs
    | _ => none
  | _ => none
/-- a list alone -/
def lstV (own : Own) : SV → Option (List D)
  | .d (.lst xs) => some xs
  | .h k => match own[k]? with
    | some (.lst xs) => some xs
    | _ => none
  | _ => none
/-- data as it is read: a handle's list is seen through -/
def datV (own : Own) : SV → Option D
  | .d x => some x
  | .h k => match own[k]? with
    | some (.lst xs) => some (.lst xs)
    | some (.dic ks xs) => some (.dic ks xs)
    | _ => none
section
variable {T : Tb} {B : Hp} {g : Gh} {own : Own} {H : Hp} {s : SV} {v : V}
theorem lst_of (R : HRel T B g own H) (r : RS T g own.length s v) {xs : List D} (h : lstV own s = some xs) : ∃ a vs, v = .ref a ∧ H a = some (.lst vs) ∧ Reps T g.F xs vs := by
  cases s with
  | d x =>
    cases x with
    | lst ys =>
      cases h
      have r : Rep T g.F (.lst xs) v := r
      cases r with
      | lst h1 h2 => exact ⟨_, _, rfl, R.f _ _ h1, h2⟩
    | _ => cases h
  | h k =>
    have h : (match own[k]? with | some (.lst xs) => some xs | _ => none) = some xs := h
    cases e : own[k]? with
    | none => rw [e] at h; cases h
    | some o =>
      rw [e] at h
      cases o with
      | lst ys =>
        cases h
        obtain ⟨vs, h1, h2⟩ := R.o k _ e
        exact ⟨_, vs, r.2, h1, h2⟩
      | _ => cases h
theorem seq_of (R : HRel T B g own H) (r : RS T g own.length s v) {xs : List D} (h : seqV own s = some xs) : ∃ a vs, v = .ref a ∧ (SqL T.K H a vs ∨ SqT T.K H a vs) ∧ Reps T g.F xs vs := by
  cases s with
  | d x =>
    cases x with
    | lst ys =>
      obtain ⟨a, vs, e, h1, h2⟩ := lst_of R r (xs := xs) h
      exact ⟨a, vs, e, .inl (SqL.of h1), h2⟩
    | tup ys =>
      cases h
      have r : Rep T g.F (.tup xs) v := r
      cases r with
      | tup h1 h2 => exact ⟨_, _, rfl, .inr (SqT.le R.f h1), h2⟩
    | _ => cases h
  | h k =>
    obtain ⟨a, vs, e, h1, h2⟩ := lst_of R r (xs := xs) h
    exact ⟨a, vs, e, .inl (SqL.of h1), h2⟩
end

/-! ## comparing data -/
/-- data that == may read, at most n deep -/
def okN : Nat → D → Bool
  | _, .non => true
  | _, .bl _ => true
  | _, .int _ => true
  | _, .str x => PyData.strOk x
  | n + 1, .tup xs => xs.all (okN n)
  | n + 1, .lst xs => xs.all (okN n)
  | _, _ => false
def pyN : Nat → D → PyData
  | _, .bl b => .bool b
  | _, .int i => .int i
  | _, .str x => .str x
  | n + 1, .tup xs => .tuple (xs.map (pyN n))
  | n + 1, .lst xs => .list (xs.map (pyN n))
  | _, _ => .none
def eqAll (f : D → D → Bool) : List D → List D → Bool
  | [], [] => true
  | x :: xs, y :: ys => f x y && eqAll f xs ys
  | _, _ => false
def eqN : Nat → D → D → Bool
  | _, .non, .non => true
  | _, .bl a, .bl b => a == b
  | _, .bl a, .int j => (if a then 1 else 0) == j
  | _, .int i, .bl b => i == (if b then 1 else 0)
  | _, .int i, .int j => i == j
  | _, .str x, .str y => x == y
  | n + 1, .tup xs, .tup ys => eqAll (eqN n) xs ys
  | n + 1, .lst xs, .lst ys => eqAll (eqN n) xs ys
  | _, _, _ => false

theorem py_eq : ∀ (n : Nat) (x y : D), okN n x = true → okN n y = true → PyData.eqv (pyN n x) (pyN n y) = eqN n x y
  | 0, x, y, hx, hy => by
    cases x <;> cases y <;> first
      | rfl
      | (exact Bool.noConfusion hx)
      | (exact Bool.noConfusion hy)
  | n + 1, x, y, hx, hy => by
    have all : ∀ (xs ys : List D), xs.all (okN n) = true → ys.all (okN n) = true → PyData.eqvAll (xs.map (pyN n)) (ys.map (pyN n)) = eqAll (eqN n) xs ys := by
      intro xs
      induction xs with
      | nil => intro ys _ _; cases ys <;> rfl
      | cons a r ih =>
        intro ys h1 h2
        cases ys with
        | nil => rfl
        | cons b t =>
          rw [List.all_cons, Bool.and_eq_true] at h1 h2
          show (PyData.eqv (pyN n a) (pyN n b) && PyData.eqvAll (r.map (pyN n)) (t.map (pyN n))) = (eqN n a b && eqAll (eqN n) r t)
          rw [py_eq n a b h1.1 h2.1, ih t h1.2 h2.2]
    cases x <;> cases y <;> first
      | rfl
      | (exact Bool.noConfusion hx)
      | (exact Bool.noConfusion hy)
      | (exact all _ _ hx hy)
theorem py_lay : ∀ (n : Nat) (x : D), okN n x = true → (pyN n x).canLay0 = true ∧ (pyN n x).depth ≤ n
  | 0, x, hx => by
    cases x <;> first
      | exact ⟨rfl, Nat.le_refl _⟩
      | (exact Bool.noConfusion hx)
      | exact ⟨hx, Nat.le_refl _⟩
  | n + 1, x, hx => by
    have all : ∀ (xs : List D), xs.all (okN n) = true → PyData.canLayAll0 (xs.map (pyN n)) = true ∧ PyData.depthAll (xs.map (pyN n)) ≤ n := by
      intro xs
      induction xs with
      | nil => intro _; exact ⟨rfl, Nat.zero_le _⟩
      | cons a r ih =>
        intro h1
        rw [List.all_cons, Bool.and_eq_true] at h1
        obtain ⟨q1, q2⟩ := py_lay n a h1.1
        obtain ⟨q3, q4⟩ := ih h1.2
        refine ⟨?_, ?_⟩
        · show ((pyN n a).canLay0 && PyData.canLayAll0 (r.map (pyN n))) = true
          rw [q1, q3]; rfl
        · show max (pyN n a).depth (PyData.depthAll (r.map (pyN n))) ≤ n
          exact Nat.max_le.mpr ⟨q2, q4⟩
    cases x <;> first
      | exact ⟨rfl, Nat.zero_le _⟩
      | (exact Bool.noConfusion hx)
      | exact ⟨hx, Nat.zero_le _⟩
      | exact ⟨(all _ hx).1, Nat.succ_le_succ (all _ hx).2⟩
theorem shaped_of {x : D} (h : okN 60 x = true) : SeqAt.shaped (pyN 60 x) = true := by
  obtain ⟨h1, h2⟩ := py_lay 60 x h
  unfold SeqAt.shaped
  rw [h1, decide_eq_true (Nat.le_trans h2 (by decide))]; rfl

section
variable {T : Tb} {F H : Hp}
theorem SqL.leH {K : PySem.W.Frag} (l : Le F H) {a : Addr} {vs : List V} (h : F a = some (.lst vs)) : SqL K H a vs := SqL.of (l _ _ h)
theorem dp_of (l : Le F H) : ∀ (n : Nat) {x : D} {v : V}, Rep T F x v → okN n x = true → Dp T.K H v (pyN n x)
  | 0, _, _, r, h => by
    cases r with
    | non => exact .non
    | bl b => exact .bl b
    | int i => exact .int i
    | str x => exact .str x
    | ty n => exact Bool.noConfusion h
    | cls n => exact Bool.noConfusion h
    | tup h1 h2 => exact Bool.noConfusion h
    | lst h1 h2 => exact Bool.noConfusion h
    | dic h1 h2 h3 => exact Bool.noConfusion h
    | obj h1 h2 h3 => exact Bool.noConfusion h
  | n + 1, _, _, r, h => by
    have all : ∀ {xs : List D} {vs : List V}, Reps T F xs vs → xs.all (okN n) = true → DpAll T.K H vs (xs.map (pyN n)) := by
      intro xs
      induction xs with
      | nil => intro vs r _; cases r; exact .nil
      | cons a t ih =>
        intro vs r hh
        cases r with
        | cons r1 r2 =>
          rw [List.all_cons, Bool.and_eq_true] at hh
          exact .cons (dp_of l n r1 hh.1) (ih r2 hh.2)
    cases r with
    | non => exact .non
    | bl b => exact .bl b
    | int i => exact .int i
    | str x => exact .str x
    | ty n => exact Bool.noConfusion h
    | cls n => exact Bool.noConfusion h
    | tup h1 h2 => exact .tup (SqT.le l h1) (all h2 h)
    | lst h1 h2 => exact .lst (SqL.leH l h1) (all h2 h)
    | dic h1 h2 h3 => exact Bool.noConfusion h
    | obj h1 h2 h3 => exact Bool.noConfusion h
end
theorem dpAll_of {T : Tb} {F H : Hp} (l : Le F H) (n : Nat) : ∀ {xs : List D} {vs : List V}, Reps T F xs vs → xs.all (okN n) = true → DpAll T.K H vs (xs.map (pyN n))
  | _, _, .nil, _ => .nil
  | _, _, .cons r1 r2, hh => by
    rw [List.all_cons, Bool.and_eq_true] at hh
    exact .cons (dp_of l n r1 hh.1) (dpAll_of l n r2 hh.2)
/-- what is read as data -/
theorem dat_of {T : Tb} {B : Hp} {g : Gh} {own : Own} {H : Hp} {s : SV} {v : V} (R : HRel T B g own H) (r : RS T g own.length s v) {x : D} (h : datV own s = some x) (ok : okN 60 x = true) : Dp T.K H v (pyN 60 x) := by
  cases s with
  | d y =>
    have e : y = x := Option.some.inj h
    subst e
    exact dp_of R.f 60 r ok
  | h k =>
    have h : (match own[k]? with | some (.lst xs) => some (D.lst xs) | some (.dic ks xs) => some (D.dic ks xs) | _ => none) = some x := h
    cases e : own[k]? with
    | none => rw [e] at h; cases h
    | some o =>
      rw [e] at h
      cases o with
      | lst ys =>
        cases h
        obtain ⟨vs, h1, h2⟩ := R.o k _ e
        rw [r.2]
        have ok : ys.all (okN 59) = true := ok
        refine .lst (SqL.of h1) ?_
        exact dpAll_of R.f 59 h2 ok
      | dic ks ys => cases h; exact Bool.noConfusion ok
      | _ => cases h
end Gx
end T_GxR1
section T_GxR2
set_option Elab.async false
set_option linter.all false
set_option maxRecDepth 100000
set_option maxHeartbeats 4000000
namespace Gx
open PySem PySem.Spec PyProof.Rows L2

/-! ## expressions: what they reckon -/
def eV (i : Nat) : EM := fun sd own => match sd[i]? with
  | some (some s) => some (.ok s, own)
  | _ => none
def eK (d : D) : EM := M.ret (.d d)
def eB (m : Own → SV → SV → Option D) (f g : EM) : EM := f.bind fun x => g.bind fun y => M.ask fun own => (m own x y).map SV.d
def eU (m : Own → SV → Option D) (f : EM) : EM := f.bind fun x => M.ask fun own => (m own x).map SV.d
def eCh (m m' : Own → SV → SV → Option D) (f g h : EM) : EM := f.bind fun x => g.bind fun y => (M.ask fun own => m own x y).bind fun z => match z with
  | .bl true => h.bind fun w => M.ask fun own => (m' own y w).map SV.d
  | .bl false => M.ret (.d (.bl false))
  | _ => M.fail
def eAnd (f g : EM) : EM := f.bind fun x => match x with
  | .d (.bl true) => g
  | .d (.bl false) => M.ret (.d (.bl false))
  | _ => M.fail
def eOr (f g : EM) : EM := f.bind fun x => match x with
  | .d (.bl false) => g
  | .d (.bl true) => M.ret (.d (.bl true))
  | _ => M.fail
def eNot (f : EM) : EM := f.bind fun x => match x with
  | .d (.bl b) => M.ret (.d (.bl (!b)))
  | _ => M.fail
def tE (f : EM) : TM := f.bind fun x => match x with
  | .d (.bl b) => M.ret b
  | _ => M.fail
def tAnd (f g : TM) : TM := f.bind fun b => match b with
  | true => g
  | false => M.ret false
def tOr (f g : TM) : TM := f.bind fun b => match b with
  | true => M.ret true
  | false => g
def tNot (f : TM) : TM := f.bind fun b => M.ret (!b)
def eIf (c : TM) (f g : EM) : EM := c.bind fun b => match b with
  | true => f
  | false => g
def aNil : AM := M.ret []
def aCons (f : EM) (a : AM) : AM := f.bind fun x => a.bind fun xs => M.ret (x :: xs)
/-- all of them data -/
def dats : List SV → Option (List D)
  | [] => some []
  | .d x :: r => (dats r).map (x :: ·)
  | .h _ :: _ => none
def eTup (a : AM) : EM := a.bind fun xs => M.ask fun _ => (dats xs).bind fun ds => if ds.length ≤ sizeLine then some (.d (.tup ds)) else none
def eLst (a : AM) : EM := a.bind fun xs => M.ask fun _ => (dats xs).bind fun ds => if ds.length ≤ sizeLine then some (.d (.lst ds)) else none
/-- a list that will change -/
def eLstH (a : AM) : EM := a.bind fun xs => fun _ own => match dats xs with
  | some ds => if ds.length ≤ sizeLine then some (.ok (.h own.length), own ++ [.lst ds]) else none
  | none => none
/-- a call by values, nothing that stood is changed -/
def eCB (m : Own → List SV → Option SV) (a : AM) : EM := a.bind fun xs => M.ask fun own => m own xs

section
variable {X : Cx} {Y : Cy} {pos : Pos} {a b c : Expr} {f g h : EM} {t u : TM}

theorem dats_rel {T : Tb} {gh : Gh} {n : Nat} : ∀ {xs : List SV} {vs : List V} {ds : List D}, RSs T gh n xs vs → dats xs = some ds → Reps T gh.F ds vs
  | _, _, _, .nil, e => by cases e; exact .nil
  | _, _, ds, .cons (s := s) h r, e => by
    cases s with
    | d x =>
      have e : (dats _).map (x :: ·) = some ds := e
      obtain ⟨es, e1, e2⟩ := Option.map_eq_some_iff.mp e
      subst e2
      exact .cons h (dats_rel r e1)
    | h k => cases e

theorem r_v (i : Nat) (h : PE X a (tVar i)) : PE X a (trE Y (eV i)) := by
  refine PE.imp h fun σ H Q q => ?_
  obtain ⟨g, sd, own, R, S, r, own', e, q⟩ := q
  unfold eV at e
  cases e1 : sd[i]? with
  | none => rw [e1] at e; cases e
  | some o =>
    cases o with
    | none => rw [e1] at e; cases e
    | some s =>
      rw [e1] at e
      cases e
      obtain ⟨v, h1, h2⟩ := S.2 i s e1
      exact ⟨v, h1, q g v H R .rfl' h2⟩
theorem r_k {d : D} {v : V} (h : PE X a (tC v)) (r : ∀ F : Hp, Rep Y.T F d v) : PE X a (trE Y (eK d)) := by
  refine PE.imp h fun σ H Q q => ?_
  obtain ⟨g, sd, own, R, S, q⟩ := q
  exact at_ret q g v H R .rfl' (r _)
theorem r_int {i j pos} : PE X (.Constant (.int i) j pos) (trE Y (eK (.int i))) := r_k pe_int fun _ => .int i
theorem r_bl {i j pos} : PE X (.Constant (.bool i) j pos) (trE Y (eK (.bl i))) := r_k pe_bl fun _ => .bl i
theorem r_str {i j pos} : PE X (.Constant (.str i) j pos) (trE Y (eK (.str i))) := r_k pe_str fun _ => .str i
theorem r_non {j pos} : PE X (.Constant .none j pos) (trE Y (eK .non)) := r_k pe_non fun _ => .non

/-- an operator by values -/
def O2 (Y : Cy) (r : R2) (m : Own → SV → SV → Option D) : Prop := ∀ (gh : Gh) (own : Own) (H : Hp) (x y : SV) (v w : V) (z : D) (Q : VK),
  HRel Y.T Y.B gh own H → RS Y.T gh own.length x v → RS Y.T gh own.length y w → m own x y = some z →
  (∀ g' u H', HRel Y.T Y.B g' own H' → GExt Y.B gh own.length g' own.length → Rep Y.T g'.F z u → Q u H') → r v w H Q
theorem at_b {m : Own → SV → SV → Option D} {r : R2} (om : O2 Y r m) {σ : L2.St} {H : Hp} {Q : VK} (q : trE Y (eB m f g) σ H Q) : tOp r (trE Y f) (trE Y g) σ H Q := by
  obtain ⟨gh, sd, own, R, S, q⟩ := q
  refine at_bind R S q fun g1 o1 x v H1 R1 S1 e1 rx q1 => ?_
  refine at_bind R1 S1 q1 fun g2 o2 y w H2 R2 S2 e2 ry q2 => ?_
  obtain ⟨s, es, q3⟩ := at_ask q2
  obtain ⟨z, ez, e4⟩ := Option.map_eq_some_iff.mp es
  subst e4
  exact om g2 o2 H2 x y v w z Q R2 (rx.ext e2) ry ez q3
theorem r_bin {op : Operator} {m : Own → SV → SV → Option D} {r : R2} (ho : OpR X (binaryOp op) r) (om : O2 Y r m) (ha : PE X a (trE Y f)) (hb : PE X b (trE Y g)) : PE X (.BinOp a op b pos) (trE Y (eB m f g)) :=
  PE.imp (pe_op ho ha hb) fun _ _ _ q => at_b om q
theorem r_cmp {op : CmpOp} {m : Own → SV → SV → Option D} {r : R2} (ho : OpR X (compareOp op) r) (om : O2 Y r m) (ha : PE X a (trE Y f)) (hb : PE X b (trE Y g)) (hm : behindInMarks op b = false) : PE X (.Compare a [op] [b] pos) (trE Y (eB m f g)) :=
  PE.imp (pe_cmpR ho ha hb hm) fun _ _ _ q => at_b om q
theorem at_te {σ : L2.St} {H : Hp} {Q : Bool → Hp → Prop} (q : trT Y (tE f) σ H Q) : trE Y f σ H fun x H' => ∃ k, x = .bl k ∧ Q k H' := by
  obtain ⟨gh, sd, own, R, S, q⟩ := q
  refine at_bind R S q fun g1 o1 x v H1 R1 S1 e1 rx q1 => ?_
  cases x with
  | h k => exact (at_fail q1).elim
  | d x =>
    cases x with
    | bl k =>
      have rx : Rep Y.T g1.F (.bl k) v := rx
      cases rx
      exact ⟨k, rfl, at_ret q1 g1 k H1 R1 .rfl' rfl⟩
    | _ => exact (at_fail q1).elim
theorem b_te {m : Own → SV → SV → Option D} {r : R2} (om : O2 Y r m) {σ : L2.St} {H : Hp} {Q : Bool → Hp → Prop} (q : trT Y (tE (eB m f g)) σ H Q) : tTest (tOp r (trE Y f) (trE Y g)) σ H Q := at_b om (at_te q)
/-- a comparison as a test -/
theorem rt_cmp {op : CmpOp} {m : Own → SV → SV → Option D} {r : R2} (ho : OpR X (compareOp op) r) (om : O2 Y r m) (ha : PE X a (trE Y f)) (hb : PE X b (trE Y g)) (hm : behindInMarks op b = false) : PT X (.Compare a [op] [b] pos) (trT Y (tE (eB m f g))) :=
  PT.imp (pt_cmpR ho ha hb hm) fun _ _ _ q => b_te om q
/-- a plain expression as a test -/
theorem rt_val (h : PE X a (trE Y f)) (he : ∀ whole, isTrue a X.env whole = (do let v ← whole; standAt a.pos; holding [v] (truthy v)) := by intro _; rfl) : PT X a (trT Y (tE f)) :=
  PT.imp (pt_val h he) fun _ _ _ q => at_te q
theorem at_ch {m m' : Own → SV → SV → Option D} {r r' : R2} (om : O2 Y r m) (om' : O2 Y r' m') {σ : L2.St} {H : Hp} {Q : VK} (q : trE Y (eCh m m' f g h) σ H Q) : tChain r r' (trE Y f) (trE Y g) (trE Y h) σ H Q := by
  obtain ⟨gh, sd, own, R, S, q⟩ := q
  refine at_bind R S q fun g1 o1 x v H1 R1 S1 e1 rx q1 => ?_
  refine at_bind R1 S1 q1 fun g2 o2 y w H2 R2 S2 e2 ry q2 => ?_
  obtain ⟨r0, own', e, q2⟩ := q2
  cases ez : m o2 x y with
  | none => simp only [M.bind, M.ask, ez] at e; cases e
  | some z =>
    simp only [M.bind, M.ask, ez] at e
    refine om g2 o2 H2 x y v w z _ R2 (rx.ext e2) ry ez fun g3 u H3 R3 e3 rz => ?_
    cases z with
    | bl k =>
      cases rz
      refine ⟨k, rfl, ?_⟩
      cases k with
      | true =>
        rw [if_pos rfl]
        refine at_bind (relC := RS Y.T) R3 (S2.ext e3) (k := fun w => M.ask fun own => (m' own y w).map SV.d) ⟨r0, own', e, q2.shift e3⟩ fun g4 o4 zz ww H4 R4 S4 e4 rw4 q4 => ?_
        obtain ⟨s, es, q5⟩ := at_ask q4
        obtain ⟨z5, ez5, e5⟩ := Option.map_eq_some_iff.mp es
        subst e5
        exact om' g4 o4 H4 y zz w ww z5 Q R4 ((ry.ext e3).ext e4) rw4 ez5 q5
      | false =>
        rw [if_neg (by decide)]
        cases e
        exact q2 g3 _ H3 R3 e3 (.bl false)
    | _ => cases e
theorem r_ch {op op' : CmpOp} {m m' : Own → SV → SV → Option D} {r r' : R2} (ho : OpR X (compareOp op) r) (om : O2 Y r m) (ho' : OpR X (compareOp op') r') (om' : O2 Y r' m') (ha : PE X a (trE Y f)) (hb : PE X b (trE Y g)) (hc : PE X c (trE Y h)) (hlm : lastMarks [op, op'] [b, c] = false := by with_unfolding_all rfl) :
    PE X (.Compare a [op, op'] [b, c] pos) (trE Y (eCh m m' f g h)) := PE.imp (pe_chain ho ho' ha hb hc hlm) fun _ _ _ q => at_ch om om' q
theorem rt_ch {op op' : CmpOp} {m m' : Own → SV → SV → Option D} {r r' : R2} (ho : OpR X (compareOp op) r) (om : O2 Y r m) (ho' : OpR X (compareOp op') r') (om' : O2 Y r' m') (ha : PE X a (trE Y f)) (hb : PE X b (trE Y g)) (hc : PE X c (trE Y h)) (hlm : lastMarks [op, op'] [b, c] = false := by with_unfolding_all rfl) :
    PT X (.Compare a [op, op'] [b, c] pos) (trT Y (tE (eCh m m' f g h))) := PT.imp (pt_chain ho ho' ha hb hc hlm) fun _ _ _ q => at_ch om om' (at_te q)

theorem r_one {op} (h : PE X a (trE Y f)) : PE X (.BoolOp op [a] pos) (trE Y f) := pe_one h
theorem r_and {rest : List Expr} (ha : PE X a (trE Y f)) (hb : PE X (.BoolOp .And (b :: rest) pos) (trE Y g)) : PE X (.BoolOp .And (a :: b :: rest) pos) (trE Y (eAnd f g)) := by
  refine PE.imp (pe_and ha hb) fun σ H Q q => ?_
  obtain ⟨gh, sd, own, R, S, q⟩ := q
  refine at_bind R S q fun g1 o1 x v H1 R1 S1 e1 rx q1 => ?_
  cases x with
  | h k => exact (at_fail q1).elim
  | d x =>
    cases x with
    | bl k =>
      have rx : Rep Y.T g1.F (.bl k) v := rx
      cases rx
      refine ⟨k, rfl, ?_⟩
      cases k with
      | true => rw [if_pos rfl]; exact ⟨g1, sd, o1, R1, S1, q1⟩
      | false => rw [if_neg (by decide)]; exact at_ret q1 g1 _ H1 R1 .rfl' (Rep.bl false)
    | _ => exact (at_fail q1).elim
theorem r_or {rest : List Expr} (ha : PE X a (trE Y f)) (hb : PE X (.BoolOp .Or (b :: rest) pos) (trE Y g)) : PE X (.BoolOp .Or (a :: b :: rest) pos) (trE Y (eOr f g)) := by
  refine PE.imp (pe_or ha hb) fun σ H Q q => ?_
  obtain ⟨gh, sd, own, R, S, q⟩ := q
  refine at_bind R S q fun g1 o1 x v H1 R1 S1 e1 rx q1 => ?_
  cases x with
  | h k => exact (at_fail q1).elim
  | d x =>
    cases x with
    | bl k =>
      have rx : Rep Y.T g1.F (.bl k) v := rx
      cases rx
      refine ⟨k, rfl, ?_⟩
      cases k with
      | false => rw [if_neg (by decide)]; exact ⟨g1, sd, o1, R1, S1, q1⟩
      | true => rw [if_pos rfl]; exact at_ret q1 g1 _ H1 R1 .rfl' (Rep.bl true)
    | _ => exact (at_fail q1).elim
theorem r_not (ha : PE X a (trE Y f)) : PE X (.UnaryOp .Not a pos) (trE Y (eNot f)) := by
  refine PE.imp (pe_not ha) fun σ H Q q => ?_
  obtain ⟨gh, sd, own, R, S, q⟩ := q
  refine at_bind R S q fun g1 o1 x v H1 R1 S1 e1 rx q1 => ?_
  cases x with
  | h k => exact (at_fail q1).elim
  | d x =>
    cases x with
    | bl k =>
      have rx : Rep Y.T g1.F (.bl k) v := rx
      cases rx
      exact ⟨k, rfl, at_ret q1 g1 _ H1 R1 .rfl' (Rep.bl (!k))⟩
    | _ => exact (at_fail q1).elim
theorem rw_and1 (ha : PT X a (trT Y t)) : PW X (.BoolOp .And [a] pos) (trT Y t) := pw_and1 ha
theorem rw_or1 (ha : PT X a (trT Y t)) : PW X (.BoolOp .Or [a] pos) (trT Y t) := pw_or1 ha
theorem rw_and {rest : List Expr} (ha : PT X a (trT Y t)) (hb : PW X (.BoolOp .And (b :: rest) pos) (trT Y u)) : PW X (.BoolOp .And (a :: b :: rest) pos) (trT Y (tAnd t u)) := by
  refine PW.imp (pw_and ha hb) fun σ H Q q => ?_
  obtain ⟨gh, sd, own, R, S, q⟩ := q
  refine at_bind R S q fun g1 o1 x v H1 R1 S1 e1 rx q1 => ?_
  obtain rfl : x = v := rx
  cases x with
  | true => rw [if_pos rfl]; exact ⟨g1, sd, o1, R1, S1, q1⟩
  | false => rw [if_neg (by decide)]; exact at_ret q1 g1 _ H1 R1 .rfl' rfl
theorem rw_or {rest : List Expr} (ha : PT X a (trT Y t)) (hb : PW X (.BoolOp .Or (b :: rest) pos) (trT Y u)) : PW X (.BoolOp .Or (a :: b :: rest) pos) (trT Y (tOr t u)) := by
  refine PW.imp (pw_or ha hb) fun σ H Q q => ?_
  obtain ⟨gh, sd, own, R, S, q⟩ := q
  refine at_bind R S q fun g1 o1 x v H1 R1 S1 e1 rx q1 => ?_
  obtain rfl : x = v := rx
  cases x with
  | false => rw [if_neg (by decide)]; exact ⟨g1, sd, o1, R1, S1, q1⟩
  | true => rw [if_pos rfl]; exact at_ret q1 g1 _ H1 R1 .rfl' rfl
theorem rt_not (ha : PT X a (trT Y t)) : PT X (.UnaryOp .Not a pos) (trT Y (tNot t)) := by
  refine PT.imp (pt_not ha) fun σ H Q q => ?_
  obtain ⟨gh, sd, own, R, S, q⟩ := q
  refine at_bind R S q fun g1 o1 x v H1 R1 S1 e1 rx q1 => ?_
  obtain rfl : x = v := rx
  exact at_ret q1 g1 _ H1 R1 .rfl' rfl
theorem r_if (hc : PT X c (trT Y t)) (ha : PE X a (trE Y f)) (hb : PE X b (trE Y g)) : PE X (.IfExp c a b pos) (trE Y (eIf t f g)) := by
  refine PE.imp (pe_ifExp hc ha hb) fun σ H Q q => ?_
  obtain ⟨gh, sd, own, R, S, q⟩ := q
  refine at_bind R S q fun g1 o1 x v H1 R1 S1 e1 rx q1 => ?_
  obtain rfl : x = v := rx
  cases x with
  | true => rw [if_pos rfl]; exact ⟨g1, sd, o1, R1, S1, q1⟩
  | false => rw [if_neg (by decide)]; exact ⟨g1, sd, o1, R1, S1, q1⟩

/-! ### arguments, displays -/
theorem ra_nil : PA X [] (trA Y aNil) := by
  refine PA.imp pa_nil fun σ H Q q => ?_
  obtain ⟨gh, sd, own, R, S, q⟩ := q
  exact at_ret q gh _ H R .rfl' .nil
theorem ra_cons {es : List Expr} {al : AM} (ha : PE X a (trE Y f)) (hr : PA X es (trA Y al)) (hs : starEach (a :: es) X.env = (false, eval a X.env) :: starEach es X.env := by rfl) : PA X (a :: es) (trA Y (aCons f al)) := by
  refine PA.imp (pa_cons ha hr hs) fun σ H Q q => ?_
  obtain ⟨gh, sd, own, R, S, q⟩ := q
  refine at_bind R S q fun g1 o1 x v H1 R1 S1 e1 rx q1 => ?_
  refine at_bind R1 S1 q1 fun g2 o2 xs vs H2 R2 S2 e2 rs q2 => ?_
  exact at_ret q2 g2 _ H2 R2 .rfl' (.cons (rx.ext e2) rs)
theorem r_tup {es : List Expr} {x1} {al : AM} (ha : PA X es (trA Y al)) : PE X (.Tuple es x1 pos) (trE Y (eTup al)) := by
  refine PE.imp (pe_tup ha) fun σ H Q q => ?_
  obtain ⟨gh, sd, own, R, S, q⟩ := q
  refine at_bind R S q fun g1 o1 xs vs H1 R1 S1 e1 rs q1 => ?_
  obtain ⟨s, es, q2⟩ := at_ask q1
  obtain ⟨ds, ed, e3⟩ := Option.bind_eq_some_iff.mp es
  have rd := dats_rel rs ed
  by_cases hl : ds.length ≤ sizeLine
  · rw [if_pos hl] at e3
    cases e3
    refine ⟨by rw [← rd.length]; exact hl, fun p hp => ?_⟩
    obtain ⟨R2, e2⟩ := R1.new hp (.tup vs)
    exact q2 _ _ _ R2 e2 (Rep.tup (SqT.of upd_same) (rd.le e2.F))
  · rw [if_neg hl] at e3; cases e3
theorem r_lst {es : List Expr} {al : AM} (ha : PA X es (trA Y al)) : PE X (.List es pos) (trE Y (eLst al)) := by
  refine PE.imp (pe_lst ha) fun σ H Q q => ?_
  obtain ⟨gh, sd, own, R, S, q⟩ := q
  refine at_bind R S q fun g1 o1 xs vs H1 R1 S1 e1 rs q1 => ?_
  obtain ⟨s, es, q2⟩ := at_ask q1
  obtain ⟨ds, ed, e3⟩ := Option.bind_eq_some_iff.mp es
  have rd := dats_rel rs ed
  by_cases hl : ds.length ≤ sizeLine
  · rw [if_pos hl] at e3
    cases e3
    refine ⟨by rw [← rd.length]; exact hl, fun p hp => ?_⟩
    obtain ⟨R2, e2⟩ := R1.new hp (.lst vs)
    exact q2 _ _ _ R2 e2 (Rep.lst upd_same (rd.le e2.F))
  · rw [if_neg hl] at e3; cases e3
theorem r_lstH {es : List Expr} {al : AM} (ha : PA X es (trA Y al)) : PE X (.List es pos) (trE Y (eLstH al)) := by
  refine PE.imp (pe_lst ha) fun σ H Q q => ?_
  obtain ⟨gh, sd, own, R, S, q⟩ := q
  refine at_bind R S q fun g1 o1 xs vs H1 R1 S1 e1 rs q1 => ?_
  obtain ⟨r0, own', e, q1⟩ := q1
  cases ed : dats xs with
  | none => rw [ed] at e; cases e
  | some ds =>
    rw [ed] at e
    have rd := dats_rel rs ed
    by_cases hl : ds.length ≤ sizeLine
    · have e : (if ds.length ≤ sizeLine then some (Rz.ok (SV.h o1.length), o1 ++ [O.lst ds]) else none) = some (r0, own') := e
      rw [if_pos hl] at e
      cases e
      refine ⟨by rw [← rd.length]; exact hl, fun p hp => ?_⟩
      obtain ⟨R2, e2⟩ := R1.made hp (ho := .lst vs) (o := .lst ds) ⟨vs, upd_same, rd⟩
      exact q1 _ _ _ R2 e2 ⟨by simp, by show V.ref p = .ref (if o1.length = o1.length then p else _); rw [if_pos rfl]⟩
    · have e : (if ds.length ≤ sizeLine then some (Rz.ok (SV.h o1.length), o1 ++ [O.lst ds]) else none) = some (r0, own') := e
      rw [if_neg hl] at e; cases e

/-! ### built-ins by values -/
def OB (Y : Cy) (r : List V → Hp → VK → Prop) (m : Own → List SV → Option SV) : Prop := ∀ (gh : Gh) (own : Own) (H : Hp) (xs : List SV) (vs : List V) (z : SV) (Q : VK),
  HRel Y.T Y.B gh own H → RSs Y.T gh own.length xs vs → m own xs = some z →
  (∀ g' u H', HRel Y.T Y.B g' own H' → GExt Y.B gh own.length g' own.length → RS Y.T g' own.length z u → Q u H') → r vs H Q
theorem at_cb {m : Own → List SV → Option SV} {r : List V → Hp → VK → Prop} (om : OB Y r m) {al : AM} {σ : L2.St} {H : Hp} {Q : VK} (q : trE Y (eCB m al) σ H Q) : tCB r (trA Y al) σ H Q := by
  obtain ⟨gh, sd, own, R, S, q⟩ := q
  refine at_bind R S q fun g1 o1 xs vs H1 R1 S1 e1 rs q1 => ?_
  obtain ⟨s, es, q2⟩ := at_ask q1
  exact om g1 o1 H1 xs vs s Q R1 rs es q2
theorem r_cb {x : Str} {id : String} {p : Pos} {es : List Expr} {m : Own → List SV → Option SV} {r : List V → Hp → VK → Prop} {al : AM} (hc : CallR X (.builtin id) r) (om : OB Y r m) (hm : X.mg x = none) (ha : PA X (a :: es) (trA Y al)) (hg : Gl X x := by rfl) (hv : bootBuiltins x = some (.builtin id) := by decide +kernel)
    (hn : x ≠ "__name__" := by decide) (hdb : (x == ("__debug__" : Str)) = false := by decide) (he : starEach (a :: es) X.env = (false, eval a X.env) :: starEach es X.env := by rfl) (hpl : (backTo pos (starEach es X.env)).any (·.1) = false := by rfl) : PE X (.Call (.Name x p) (a :: es) [] pos) (trE Y (eCB m al)) :=
  PE.imp (pe_callB hc hg hm hv ha hn hdb he hpl) fun _ _ _ q => at_cb om q
theorem r_ct {x : Str} {ty : String} {p : Pos} {es : List Expr} {m : Own → List SV → Option SV} {r : List V → Hp → VK → Prop} {al : AM} (hc : CallR X (.type ty) r) (om : OB Y r m) (hm : X.mg x = none) (ha : PA X (a :: es) (trA Y al)) (hg : Gl X x := by rfl) (hv : bootBuiltins x = some (.type ty) := by decide +kernel)
    (hn : x ≠ "__name__" := by decide) (hdb : (x == ("__debug__" : Str)) = false := by decide) (he : starEach (a :: es) X.env = (false, eval a X.env) :: starEach es X.env := by rfl) (hpl : (backTo pos (starEach es X.env)).any (·.1) = false := by rfl) : PE X (.Call (.Name x p) (a :: es) [] pos) (trE Y (eCB m al)) :=
  PE.imp (pe_callTy hc hg hm hv ha hn hdb he hpl) fun _ _ _ q => at_cb om q
end
end Gx
end T_GxR2
section T_GxR3
set_option Elab.async false
set_option linter.all false
set_option maxRecDepth 100000
set_option maxHeartbeats 4000000
namespace Gx
open PySem PySem.Spec PyProof.Rows L2

section
variable {T : Tb} {F : Hp}
theorem rep_int {i : Int} {v : V} (r : Rep T F (.int i) v) : v = .int i := by cases r; rfl
theorem rep_str {i : Str} {v : V} (r : Rep T F (.str i) v) : v = .str i := by cases r; rfl
theorem rep_bl {i : Bool} {v : V} (r : Rep T F (.bl i) v) : v = .bl i := by cases r; rfl
theorem rep_non {v : V} (r : Rep T F .non v) : v = .non := by cases r; rfl
theorem reps_ints : ∀ {is : List Int} {vs : List V}, Reps T F (is.map D.int) vs → vs = is.map V.int
  | [], _, r => by cases r; rfl
  | i :: is, _, r => by
    cases r with
    | cons h t =>
      rw [rep_int h, reps_ints t]; rfl
theorem reps_bls : ∀ {is : List Bool} {vs : List V}, Reps T F (is.map D.bl) vs → vs = is.map V.bl
  | [], _, r => by cases r; rfl
  | i :: is, _, r => by
    cases r with
    | cons h t =>
      rw [rep_bl h, reps_bls t]; rfl
theorem reps_strs : ∀ {is : List Str} {vs : List V}, Reps T F (is.map D.str) vs → vs = is.map V.str
  | [], _, r => by cases r; rfl
  | i :: is, _, r => by
    cases r with
    | cons h t =>
      rw [rep_str h, reps_strs t]; rfl
end
/-- ints, bools, texts out of data -/
def intsD : List D → Option (List Int)
  | [] => some []
  | .int i :: r => (intsD r).map (i :: ·)
  | _ :: _ => none
def blsD : List D → Option (List Bool)
  | [] => some []
  | .bl i :: r => (blsD r).map (i :: ·)
  | _ :: _ => none
def strsD : List D → Option (List Str)
  | [] => some []
  | .str i :: r => (strsD r).map (i :: ·)
  | _ :: _ => none
theorem intsD_map : ∀ {ds : List D} {is : List Int}, intsD ds = some is → ds = is.map D.int
  | [], _, h => by cases h; rfl
  | .int i :: r, is, h => by
    have h : (intsD r).map (i :: ·) = some is := h
    obtain ⟨js, e1, e2⟩ := Option.map_eq_some_iff.mp h
    subst e2
    rw [intsD_map e1]; rfl
  | .non :: _, _, h => by cases h
  | .bl _ :: _, _, h => by cases h
  | .str _ :: _, _, h => by cases h
  | .ty _ :: _, _, h => by cases h
  | .cls _ :: _, _, h => by cases h
  | .tup _ :: _, _, h => by cases h
  | .lst _ :: _, _, h => by cases h
  | .dic _ _ :: _, _, h => by cases h
  | .obj _ _ :: _, _, h => by cases h
theorem intsD_of : ∀ (is : List Int), intsD (is.map D.int) = some is
  | [] => rfl
  | i :: r => by show (intsD (r.map D.int)).map (i :: ·) = _; rw [intsD_of r]; rfl
theorem blsD_map : ∀ {ds : List D} {is : List Bool}, blsD ds = some is → ds = is.map D.bl
  | [], _, h => by cases h; rfl
  | .bl i :: r, is, h => by
    have h : (blsD r).map (i :: ·) = some is := h
    obtain ⟨js, e1, e2⟩ := Option.map_eq_some_iff.mp h
    subst e2
    rw [blsD_map e1]; rfl
  | .non :: _, _, h => by cases h
  | .int _ :: _, _, h => by cases h
  | .str _ :: _, _, h => by cases h
  | .ty _ :: _, _, h => by cases h
  | .cls _ :: _, _, h => by cases h
  | .tup _ :: _, _, h => by cases h
  | .lst _ :: _, _, h => by cases h
  | .dic _ _ :: _, _, h => by cases h
  | .obj _ _ :: _, _, h => by cases h
theorem blsD_of : ∀ (is : List Bool), blsD (is.map D.bl) = some is
  | [] => rfl
  | i :: r => by show (blsD (r.map D.bl)).map (i :: ·) = _; rw [blsD_of r]; rfl
theorem strsD_map : ∀ {ds : List D} {is : List Str}, strsD ds = some is → ds = is.map D.str
  | [], _, h => by cases h; rfl
  | .str i :: r, is, h => by
    have h : (strsD r).map (i :: ·) = some is := h
    obtain ⟨js, e1, e2⟩ := Option.map_eq_some_iff.mp h
    subst e2
    rw [strsD_map e1]; rfl
  | .non :: _, _, h => by cases h
  | .int _ :: _, _, h => by cases h
  | .bl _ :: _, _, h => by cases h
  | .ty _ :: _, _, h => by cases h
  | .cls _ :: _, _, h => by cases h
  | .tup _ :: _, _, h => by cases h
  | .lst _ :: _, _, h => by cases h
  | .dic _ _ :: _, _, h => by cases h
  | .obj _ _ :: _, _, h => by cases h
theorem strsD_of : ∀ (is : List Str), strsD (is.map D.str) = some is
  | [] => rfl
  | i :: r => by show (strsD (r.map D.str)).map (i :: ·) = _; rw [strsD_of r]; rfl

/-! ## operators upon ints -/
/-- two ints, a condition, the value -/
def m2I (C : Int → Int → Bool) (f : Int → Int → D) : Own → SV → SV → Option D := fun _ x y => match x, y with
  | .d (.int i), .d (.int j) => if C i j = true then some (f i j) else none
  | _, _ => none
theorem sv_int {T : Tb} {g : Gh} {n : Nat} {i : Int} {v : V} (r : RS T g n (.d (.int i)) v) : v = .int i := rep_int r
theorem m2I_inv {C : Int → Int → Bool} {f : Int → Int → D} {own : Own} {x y : SV} {z : D} (h : m2I C f own x y = some z) : ∃ i j, x = .d (.int i) ∧ y = .d (.int j) ∧ C i j = true ∧ z = f i j := by
  cases x with
  | h k => cases h
  | d x =>
    cases x with
    | int i =>
      cases y with
      | h k => cases h
      | d y =>
        cases y with
        | int j =>
          have h : (if C i j = true then some (f i j) else none) = some z := h
          by_cases c : C i j = true
          · rw [if_pos c] at h; cases h; exact ⟨i, j, rfl, rfl, c, rfl⟩
          · rw [if_neg c] at h; cases h
        | _ => cases h
    | _ => cases h
section
variable {Y : Cy}
theorem o2_I0 {g : Int → Int → V} {f : Int → Int → D} (hf : ∀ F i j, Rep Y.T F (f i j) (g i j)) : O2 Y (rI0 g) (m2I (fun _ _ => true) f) := by
  intro gh own H x y v w z Q R rx ry h k
  obtain ⟨i, j, rfl, rfl, _, rfl⟩ := m2I_inv h
  exact ⟨i, j, sv_int rx, sv_int ry, k gh _ H R .rfl' (hf _ i j)⟩
theorem o2_I {C : Int → Int → Prop} {c : Int → Int → Bool} {g : Int → Int → V} {f : Int → Int → D} (hc : ∀ i j, c i j = true → C i j) (hf : ∀ F i j, Rep Y.T F (f i j) (g i j)) : O2 Y (rI C g) (m2I c f) := by
  intro gh own H x y v w z Q R rx ry h k
  obtain ⟨i, j, rfl, rfl, e, rfl⟩ := m2I_inv h
  exact ⟨i, j, sv_int rx, sv_int ry, hc i j e, k gh _ H R .rfl' (hf _ i j)⟩
end
def mSub := m2I (fun _ _ => true) fun i j => .int (i - j)
def mMul := m2I (fun i j => decide ((-(2 ^ 64) < i ∧ i < 2 ^ 64) ∨ (-(2 ^ 64) < j ∧ j < 2 ^ 64))) fun i j => .int (i * j)
def mFdiv := m2I (fun _ j => decide (0 < j ∧ j < 1073741824)) fun i j => .int (i / j)
def mMod := m2I (fun _ j => decide (0 < j)) fun i j => .int (i % j)
def mPow := m2I (fun i j => decide (0 ≤ j ∧ j ≤ 1000000 ∧ i.natAbs < 2 ^ 64)) fun i j => .int (i ^ j.toNat)
def mLt := m2I (fun _ _ => true) fun i j => .bl (decide (i < j))
def mLe := m2I (fun _ _ => true) fun i j => .bl (decide (i ≤ j))
def mGt := m2I (fun _ _ => true) fun i j => .bl (decide (j < i))
def mGe := m2I (fun _ _ => true) fun i j => .bl (decide (j ≤ i))
def mNeg : Own → SV → Option D := fun _ x => match x with
  | .d (.int i) => some (.int (-i))
  | _ => none
/-- + of ints, texts, tuples, lists -/
def mAdd : Own → SV → SV → Option D := fun own x y => match x, y with
  | .d (.int i), .d (.int j) => some (.int (i + j))
  | .d (.str a), .d (.str b) => if a.length + b.length ≤ sizeLine then some (.str (a ++ b)) else none
  | .d (.tup xs), .d (.tup ys) => if xs.length + ys.length ≤ sizeLine then some (.tup (xs ++ ys)) else none
  | x, y => (lstV own x).bind fun xs => (lstV own y).bind fun ys => if xs.length + ys.length ≤ sizeLine then some (.lst (xs ++ ys)) else none
def mEq : Own → SV → SV → Option D := fun own x y => (datV own x).bind fun a => (datV own y).bind fun b => if (okN 60 a && okN 60 b) = true then some (.bl (eqN 60 a b)) else none
def mNe : Own → SV → SV → Option D := fun own x y => (datV own x).bind fun a => (datV own y).bind fun b => if (okN 60 a && okN 60 b) = true then some (.bl (!eqN 60 a b)) else none
def mIsN : Own → SV → SV → Option D := fun _ x y => match x, y with
  | .d .non, .d .non => some (.bl true)
  | _, .d .non => some (.bl false)
  | _, _ => none
def mNotN : Own → SV → SV → Option D := fun _ x y => match x, y with
  | .d .non, .d .non => some (.bl false)
  | _, .d .non => some (.bl true)
  | _, _ => none
/-- x in a list or a tuple, or in a dict -/
def dicV (own : Own) : SV → Option (List D × List D)
  | .d (.dic ks xs) => some (ks, xs)
  | .h k => match own[k]? with
    | some (.dic ks xs) => some (ks, xs)
    | _ => none
  | _ => none
def keyOf : D → Option Key
  | .int i => some (.inl i)
  | .str x => some (.inr x)
  | _ => none
/-- the value of a key -/
def getK (k : Key) : List D → List D → Option D
  | .int i :: ks, x :: xs => if k = .inl i then some x else getK k ks xs
  | .str i :: ks, x :: xs => if k = .inr i then some x else getK k ks xs
  | _, _ => none
def mIn (neg : Bool) : Own → SV → SV → Option D := fun own x y => match dicV own y with
  | some (ks, xs) => match x with
    | .d d => (keyOf d).map fun k => .bl ((getK k ks xs).isSome != neg)
    | _ => none
  | none => (seqV own y).bind fun ys => (datV own x).bind fun a => if (okN 60 a && ys.all (okN 59)) = true then some (.bl ((ys.any fun z => eqN 60 z a) != neg)) else none

section
variable {X : Cx} {Y : Cy}
theorem okN_mono : ∀ (n : Nat) (d : D), okN n d = true → okN (n + 1) d = true
  | 0, d, h => by cases d <;> first | rfl | exact h | exact Bool.noConfusion h
  | n + 1, d, h => by
    have all : ∀ xs : List D, xs.all (okN n) = true → xs.all (okN (n + 1)) = true := fun xs h => by
      rw [List.all_eq_true] at h ⊢
      exact fun x hx => okN_mono n x (h x hx)
    cases d <;> first | rfl | exact h | exact Bool.noConfusion h | exact all _ h
theorem pyN_mono : ∀ (n : Nat) (d : D), okN n d = true → pyN (n + 1) d = pyN n d
  | 0, d, h => by cases d <;> first | rfl | exact Bool.noConfusion h
  | n + 1, d, h => by
    have all : ∀ xs : List D, xs.all (okN n) = true → xs.map (pyN (n + 1)) = xs.map (pyN n) := fun xs h => by
      rw [List.all_eq_true] at h
      exact List.map_congr_left fun x hx => pyN_mono n x (h x hx)
    cases d <;> first | rfl | exact Bool.noConfusion h | exact congrArg PyData.tuple (all _ h) | exact congrArg PyData.list (all _ h)
theorem eqN_mono : ∀ (n : Nat) (a b : D), okN n a = true → okN n b = true → eqN (n + 1) a b = eqN n a b := fun n a b ha hb => by
  rw [← py_eq n a b ha hb, ← py_eq (n + 1) a b (okN_mono n a ha) (okN_mono n b hb), pyN_mono n a ha, pyN_mono n b hb]

theorem o2_eq : O2 Y (rEqD Y.T.K) mEq := by
  intro gh own H x y v w z Q R rx ry h k
  obtain ⟨a, ea, h⟩ := Option.bind_eq_some_iff.mp h
  obtain ⟨b, eb, h⟩ := Option.bind_eq_some_iff.mp h
  by_cases c : (okN 60 a && okN 60 b) = true
  · rw [if_pos c] at h
    cases h
    obtain ⟨c1, c2⟩ := Bool.and_eq_true_iff.mp c
    refine ⟨_, _, dat_of R rx ea c1, dat_of R ry eb c2, shaped_of c1, shaped_of c2, ?_⟩
    rw [py_eq 60 a b c1 c2]
    exact k gh _ H R .rfl' (.bl _)
  · rw [if_neg c] at h; cases h
theorem o2_ne : O2 Y (rNeD Y.T.K) mNe := by
  intro gh own H x y v w z Q R rx ry h k
  obtain ⟨a, ea, h⟩ := Option.bind_eq_some_iff.mp h
  obtain ⟨b, eb, h⟩ := Option.bind_eq_some_iff.mp h
  by_cases c : (okN 60 a && okN 60 b) = true
  · rw [if_pos c] at h
    cases h
    obtain ⟨c1, c2⟩ := Bool.and_eq_true_iff.mp c
    refine ⟨_, _, dat_of R rx ea c1, dat_of R ry eb c2, shaped_of c1, shaped_of c2, ?_⟩
    rw [py_eq 60 a b c1 c2]
    exact k gh _ H R .rfl' (.bl _)
  · rw [if_neg c] at h; cases h
abbrev rAddA (K : PySem.W.Frag) : R2 := fun x y H Q => (rI0 (fun i j => .int (i + j)) x y H Q ∨ ∃ i j, x = .str i ∧ y = .str j ∧ i.length + j.length ≤ sizeLine ∧ Q (.str (i ++ j)) H) ∨ (rCatA K x y H Q ∨ rCat x y H Q)
theorem op_addA : OpR X (binaryOp .Add) (rAddA X.K) := (op_add.or op_add_str).or (op_catA.or op_cat)
theorem o2_add : O2 Y (rAddA Y.T.K) mAdd := by
  intro gh own H x y v w z Q R rx ry h k
  have lists : (lstV own x).bind (fun xs => (lstV own y).bind fun ys => if xs.length + ys.length ≤ sizeLine then some (D.lst (xs ++ ys)) else none) = some z → rAddA Y.T.K v w H Q := fun h => by
    obtain ⟨xs, ex, h⟩ := Option.bind_eq_some_iff.mp h
    obtain ⟨ys, ey, h⟩ := Option.bind_eq_some_iff.mp h
    obtain ⟨a, vs, rfl, h1, h2⟩ := lst_of R rx ex
    obtain ⟨b, ws, rfl, h3, h4⟩ := lst_of R ry ey
    by_cases c : xs.length + ys.length ≤ sizeLine
    · rw [if_pos c] at h
      cases h
      refine .inr (.inr ⟨a, b, vs, ws, rfl, rfl, h1, h3, by rw [← h2.length, ← h4.length]; exact c, fun p hp => ?_⟩)
      obtain ⟨R2, e2⟩ := R.new hp (.lst (vs ++ ws))
      exact k _ _ _ R2 e2 (.lst upd_same ((h2.append h4).le e2.F))
    · rw [if_neg c] at h; cases h
  cases x with
  | h kx => exact lists h
  | d x =>
    cases x with
    | int i =>
      cases y with
      | h ky => exact lists h
      | d y =>
        cases y with
        | int j => cases h; exact .inl (.inl ⟨i, j, sv_int rx, sv_int ry, k gh _ H R .rfl' (.int _)⟩)
        | _ => exact lists h
    | str a =>
      cases y with
      | h ky => exact lists h
      | d y =>
        cases y with
        | str b =>
          have h : (if a.length + b.length ≤ sizeLine then some (D.str (a ++ b)) else none) = some z := h
          by_cases c : a.length + b.length ≤ sizeLine
          · rw [if_pos c] at h; cases h
            exact .inl (.inr ⟨a, b, rep_str rx, rep_str ry, c, k gh _ H R .rfl' (.str _)⟩)
          · rw [if_neg c] at h; cases h
        | _ => exact lists h
    | tup xs =>
      cases y with
      | h ky => exact lists h
      | d y =>
        cases y with
        | tup ys =>
          have h : (if xs.length + ys.length ≤ sizeLine then some (D.tup (xs ++ ys)) else none) = some z := h
          by_cases c : xs.length + ys.length ≤ sizeLine
          · rw [if_pos c] at h; cases h
            have rx' : Rep Y.T gh.F (.tup xs) v := rx
            have ry' : Rep Y.T gh.F (.tup ys) w := ry
            cases rx' with
            | @tup a vs _ h1 h2 =>
              cases ry' with
              | @tup b ws _ h3 h4 =>
                have lx := h2.length
                have ly := h4.length
                refine .inr (.inl ⟨a, b, vs, ws, rfl, rfl, SqT.le R.f h1, SqT.le R.f h3, by rw [← lx, ← ly]; exact c, fun e => ?_, fun _ e => ?_, fun _ _ p hp => ?_⟩)
                · subst e
                  have : xs = [] := List.length_eq_zero_iff.mp lx
                  subst this
                  exact k gh _ H R .rfl' ry
                · subst e
                  have : ys = [] := List.length_eq_zero_iff.mp ly
                  subst this
                  rw [List.append_nil] at k
                  exact k gh _ H R .rfl' rx
                · obtain ⟨R2, e2⟩ := R.new hp (.tup (vs ++ ws))
                  exact k _ _ _ R2 e2 (.tup (SqT.of upd_same) ((h2.append h4).le e2.F))
          · rw [if_neg c] at h; cases h
        | _ => exact lists h
    | _ => exact lists h
def isNonS : SV → Bool
  | .d .non => true
  | _ => false
theorem isN_of {T : Tb} {g : Gh} {n : Nat} {x : SV} {v : V} (r : RS T g n x v) : decide (v = .non) = isNonS x := by
  cases x with
  | h k =>
    have e : v = .ref (g.ρ k) := r.2
    subst e; rfl
  | d x =>
    have r : Rep T g.F x v := r
    cases r <;> rfl
abbrev rIsNo : R2 := fun x y H Q => y = .non ∧ Q (.bl (decide (x = .non))) H
abbrev rNotNo : R2 := fun x y H Q => y = .non ∧ Q (.bl (!decide (x = .non))) H
theorem o2_isN : O2 Y rIsNo mIsN := by
  intro gh own H x y v w z Q R rx ry h k
  have e := isN_of rx
  cases y with
  | h ky => cases x with
    | h kx => cases h
    | d x => cases x <;> cases h
  | d y =>
    cases y with
    | non =>
      refine ⟨rep_non ry, ?_⟩
      rw [e]
      cases x with
      | h kx => cases h; exact k gh _ H R .rfl' (.bl _)
      | d x => cases x <;> (cases h; exact k gh _ H R .rfl' (.bl _))
    | _ => cases x with
      | h kx => cases h
      | d x => cases x <;> cases h
theorem o2_notN : O2 Y rNotNo mNotN := by
  intro gh own H x y v w z Q R rx ry h k
  have e := isN_of rx
  cases y with
  | h ky => cases x with
    | h kx => cases h
    | d x => cases x <;> cases h
  | d y =>
    cases y with
    | non =>
      refine ⟨rep_non ry, ?_⟩
      rw [e]
      cases x with
      | h kx => cases h; exact k gh _ H R .rfl' (.bl _)
      | d x => cases x <;> (cases h; exact k gh _ H R .rfl' (.bl _))
    | _ => cases x with
      | h kx => cases h
      | d x => cases x <;> cases h
end
end Gx
end T_GxR3
section T_GxR4
set_option Elab.async false
set_option linter.all false
set_option maxRecDepth 100000
set_option maxHeartbeats 4000000
namespace Gx
open PySem PySem.Spec PyProof.Rows L2

/-! ## in -/
theorem getK_rel {T : Tb} {F : Hp} {k : Key} : ∀ {kvs : List (Key × V)} {xs : List D}, Reps T F xs (kvs.map (·.2)) →
    (∀ d, getK k (kvs.map fun p => keyD p.1) xs = some d → ∃ v, valV kvs k = some v ∧ Rep T F d v) ∧ (getK k (kvs.map fun p => keyD p.1) xs = none → valV kvs k = none) := by
  intro kvs
  induction kvs with
  | nil => intro xs r; cases r; exact ⟨fun d h => (nomatch h), fun _ => rfl⟩
  | cons p r ih =>
    intro xs rr
    cases rr with
    | @cons d v ds vs h t =>
      obtain ⟨i1, i2⟩ := ih t
      obtain ⟨kk, kv⟩ := p
      have hd : getK k (List.map (fun p => keyD p.1) ((kk, kv) :: r)) (d :: ds) = if k = kk then some d else getK k (r.map fun p => keyD p.1) ds := by
        cases kk <;> rfl
      have hv : valV ((kk, kv) :: r) k = if kk = k then some kv else valV r k := by
        unfold valV
        rw [List.find?_cons]
        by_cases c : kk = k
        · rw [if_pos c, decide_eq_true c]; rfl
        · rw [if_neg c, decide_eq_false c]
      rw [hd, hv]
      by_cases c : k = kk
      · subst c
        rw [if_pos rfl, if_pos rfl]
        exact ⟨fun e he => ⟨kv, rfl, by cases he; exact h⟩, fun z => (nomatch z)⟩
      · rw [if_neg c, if_neg (fun z => c z.symm)]
        exact ⟨i1, i2⟩
theorem dic_of {T : Tb} {B : Hp} {g : Gh} {own : Own} {H : Hp} {s : SV} {v : V} (R : HRel T B g own H) (r : RS T g own.length s v) {ks xs : List D} (h : dicV own s = some (ks, xs)) :
    ∃ a, ∃ kvs : List (Key × V), v = .ref a ∧ Rd H a (.dK kvs) ∧ ks = kvs.map (fun p => keyD p.1) ∧ Reps T g.F xs (kvs.map (·.2)) := by
  cases s with
  | d x =>
    cases x with
    | dic k1 x1 =>
      cases h
      have r : Rep T g.F (.dic ks xs) v := r
      cases r with
      | dic h1 h2 h3 => exact ⟨_, _, rfl, Rd.le R.f h1, h2, h3⟩
    | _ => cases h
  | h k =>
    have h : (match own[k]? with | some (.dic ks xs) => some (ks, xs) | _ => none) = some (ks, xs) := h
    cases e : own[k]? with
    | none => rw [e] at h; cases h
    | some o =>
      rw [e] at h
      cases o with
      | dic k1 x1 =>
        cases h
        obtain ⟨kvs, h1, h2, h3⟩ := R.o k _ e
        exact ⟨_, kvs, r.2, .inl h1, h2, h3⟩
      | _ => cases h
theorem keyOf_rel {T : Tb} {F : Hp} {d : D} {v : V} {k : Key} (h : keyOf d = some k) (r : Rep T F d v) : v = kV k := by
  cases d with
  | int i => cases h; exact rep_int r
  | str i => cases h; exact rep_str r
  | _ => cases h
abbrev rInDic (neg : Bool) : R2 := fun y x H Q => ∃ a o, x = .ref a ∧ DGet H a y o ∧ Q (.bl (o.isSome != neg)) H
/-- in a tuple of data -/
abbrev rInDT (K : PySem.W.Frag) (neg : Bool) : R2 := fun x y H Q => ∃ d ds, Dp K H x d ∧ Dp K H y (.tuple ds) ∧ SeqAt.shaped d = true ∧ SeqAt.shaped (.tuple ds) = true ∧ Q (.bl ((ds.any fun z => PyData.eqv z d) != neg)) H
section
variable {X : Cx}
theorem op_inDic (hu : X.A.units + 1 < cLine) : OpR X (compareOp .In) (rInDic false) := by
  intro pins s σ H y x u v Q I ry rx h
  obtain ⟨a, o, ex, g, q⟩ := h
  subst ex
  obtain rfl : v = Value.ref a := rx
  exact d_in hu I g ry fun s3 I3 => ⟨.bl (o.isSome != false), H, I3, by show Value.bool _ = Value.bool _; simp, q⟩
theorem op_ninDic (hu : X.A.units + 1 < cLine) : OpR X (compareOp .NotIn) (rInDic true) := by
  intro pins s σ H y x u v Q I ry rx h
  obtain ⟨a, o, ex, g, q⟩ := h
  subst ex
  obtain rfl : v = Value.ref a := rx
  exact d_notIn hu I g ry fun s3 I3 => ⟨.bl (o.isSome != true), H, I3, by cases o <;> rfl, q⟩
theorem room_t {A : Around} {d : PyData} {n : Nat} (h : SeqAt.shaped d = true) (hu : A.units + 65 < cLine) : A.units + 1 + min n d.depth < cLine := by
  have h1 := SeqAt.depth_of_shaped h
  have h2 : min n d.depth ≤ d.depth := Nat.min_le_right _ _
  omega
theorem op_inDT (hu : X.A.units + 65 < cLine) : OpR X (compareOp .In) (rInDT X.K false) := by
  intro pins s σ H x y v u Q I rx ry h
  obtain ⟨d, ds, hd, he, sd, se, q⟩ := h
  obtain ⟨as, r1⟩ := Dp.reads I d x v hd rx
  obtain ⟨bs, r2⟩ := Dp.reads I (.tuple ds) y u he ry
  exact SeqAt.in_tuple_reads r2 r1 (SeqAt.canLay_of_shaped se) (SeqAt.canLay_of_shaped sd) (room_t sd hu) ⟨.bl _, H, I, by show Value.bool _ = Value.bool _; simp, q⟩
theorem op_ninDT (hu : X.A.units + 65 < cLine) : OpR X (compareOp .NotIn) (rInDT X.K true) := by
  intro pins s σ H x y v u Q I rx ry h
  obtain ⟨d, ds, hd, he, sd, se, q⟩ := h
  obtain ⟨as, r1⟩ := Dp.reads I d x v hd rx
  obtain ⟨bs, r2⟩ := Dp.reads I (.tuple ds) y u he ry
  exact SeqAt.notIn_tuple_reads r2 r1 (SeqAt.canLay_of_shaped se) (SeqAt.canLay_of_shaped sd) (room_t sd hu) ⟨.bl _, H, I, by show Value.bool _ = Value.bool _; cases (ds.any fun z => PyData.eqv z d) <;> rfl, q⟩
abbrev rInA (K : PySem.W.Frag) : R2 := fun x y H Q => (rInD K x y H Q ∨ rInDT K false x y H Q) ∨ rInDic false x y H Q
abbrev rNinA (K : PySem.W.Frag) : R2 := fun x y H Q => (rNotInD K x y H Q ∨ rInDT K true x y H Q) ∨ rInDic true x y H Q
theorem op_inA (hu : X.A.units + 65 < cLine) : OpR X (compareOp .In) (rInA X.K) := ((op_inD hu).or (op_inDT hu)).or (op_inDic (by omega))
theorem op_ninA (hu : X.A.units + 65 < cLine) : OpR X (compareOp .NotIn) (rNinA X.K) := ((op_notInD hu).or (op_ninDT hu)).or (op_ninDic (by omega))
end
section
variable {Y : Cy}
theorem in_core {gh : Gh} {own : Own} {H : Hp} {x y : SV} {v w : V} {ys : List D} {a : D} (R : HRel Y.T Y.B gh own H) (rx : RS Y.T gh own.length x v) (ry : RS Y.T gh own.length y w) (hy : seqV own y = some ys) (hx : datV own x = some a)
    (c1 : okN 60 a = true) (c2 : ys.all (okN 59) = true) : ∃ d ds, Dp Y.T.K H v d ∧ (Dp Y.T.K H w (.list ds) ∨ Dp Y.T.K H w (.tuple ds)) ∧ SeqAt.shaped d = true ∧ SeqAt.shaped (.list ds) = true ∧ SeqAt.shaped (.tuple ds) = true ∧ (ds.any fun z => PyData.eqv z d) = ys.any fun z => eqN 60 z a := by
  obtain ⟨p, vs, rfl, hs, hr⟩ := seq_of R ry hy
  have da := dpAll_of R.f 59 hr c2
  have l1 := shaped_of (x := .lst ys) c2
  have l2 := shaped_of (x := .tup ys) c2
  refine ⟨_, ys.map (pyN 59), dat_of R rx hx c1, ?_, shaped_of c1, l1, l2, ?_⟩
  · rcases hs with hs | hs
    · exact .inl (.lst hs da)
    · exact .inr (.tup hs da)
  · rw [List.any_map]
    have c2' : ∀ z ∈ ys, okN 59 z = true := by rw [List.all_eq_true] at c2; exact c2
    clear hr da l1 l2 c2 hy
    induction ys with
    | nil => rfl
    | cons z t ih =>
      rw [List.any_cons, List.any_cons, ih fun q hq => c2' q (List.mem_cons_of_mem _ hq)]
      have hz := c2' z List.mem_cons_self
      show (PyData.eqv (pyN 59 z) (pyN 60 a) || _) = _
      rw [← pyN_mono 59 z hz, py_eq 60 z a (okN_mono 59 z hz) c1]
theorem mIn_inv {neg : Bool} {own : Own} {x y : SV} {z : D} (h : mIn neg own x y = some z) :
    (∃ ks xs d k, dicV own y = some (ks, xs) ∧ x = .d d ∧ keyOf d = some k ∧ z = .bl ((getK k ks xs).isSome != neg)) ∨
    (∃ ys a, seqV own y = some ys ∧ datV own x = some a ∧ okN 60 a = true ∧ ys.all (okN 59) = true ∧ z = .bl ((ys.any fun z => eqN 60 z a) != neg)) := by
  unfold mIn at h
  cases e : dicV own y with
  | some p =>
    obtain ⟨ks, xs⟩ := p
    rw [e] at h
    cases x with
    | h k => cases h
    | d d =>
      obtain ⟨k, e1, e2⟩ := Option.map_eq_some_iff.mp h
      exact .inl ⟨ks, xs, d, k, rfl, rfl, e1, e2.symm⟩
  | none =>
    rw [e] at h
    obtain ⟨ys, e1, h⟩ := Option.bind_eq_some_iff.mp h
    obtain ⟨a, e2, h⟩ := Option.bind_eq_some_iff.mp h
    by_cases c : (okN 60 a && ys.all (okN 59)) = true
    · rw [if_pos c] at h
      cases h
      obtain ⟨c1, c2⟩ := Bool.and_eq_true_iff.mp c
      exact .inr ⟨ys, a, e1, e2, c1, c2, rfl⟩
    · rw [if_neg c] at h; cases h
theorem dget_of {gh : Gh} {own : Own} {H : Hp} {y : SV} {w : V} {ks xs : List D} {k : Key} (R : HRel Y.T Y.B gh own H) (ry : RS Y.T gh own.length y w) (h : dicV own y = some (ks, xs)) :
    ∃ a o, w = .ref a ∧ DGet H a (kV k) o ∧ (∀ d, getK k ks xs = some d → ∃ v, o = some v ∧ Rep Y.T gh.F d v) ∧ (getK k ks xs = none → o = none) := by
  obtain ⟨a, kvs, rfl, h1, h2, h3⟩ := dic_of R ry h
  subst h2
  obtain ⟨q1, q2⟩ := getK_rel (k := k) h3
  exact ⟨a, valV kvs k, rfl, .inl ⟨kvs, k, h1, rfl, rfl⟩, q1, q2⟩
theorem o2_in : O2 Y (rInA Y.T.K) (mIn false) := by
  intro gh own H x y v w z Q R rx ry h k
  rcases mIn_inv h with ⟨ks, xs, d, kk, e1, rfl, e2, rfl⟩ | ⟨ys, a, e1, e2, c1, c2, rfl⟩
  · obtain ⟨a, o, rfl, hg, h1, h2⟩ := dget_of (k := kk) R ry e1
    obtain rfl := keyOf_rel e2 (show Rep Y.T gh.F d v from rx)
    refine .inr ⟨a, o, rfl, hg, ?_⟩
    have : o.isSome = (getK kk ks xs).isSome := by
      cases e : getK kk ks xs with
      | none => rw [h2 e]; rfl
      | some d => obtain ⟨v, ev, _⟩ := h1 d e; rw [ev]; rfl
    rw [this]
    exact k gh _ H R .rfl' (.bl _)
  · obtain ⟨d, ds, h1, h2, h3, h4, h5, h6⟩ := in_core R rx ry e1 e2 c1 c2
    rcases h2 with h2 | h2
    · refine .inl (.inl ⟨d, ds, h1, h2, h3, h4, ?_⟩)
      rw [h6]
      have := k gh (.bl (ys.any fun z => eqN 60 z a)) H R .rfl' (by simpa using Rep.bl (T := Y.T) (F := gh.F) _)
      exact this
    · refine .inl (.inr ⟨d, ds, h1, h2, h3, h5, ?_⟩)
      rw [h6]
      exact k gh _ H R .rfl' (.bl _)
theorem o2_nin : O2 Y (rNinA Y.T.K) (mIn true) := by
  intro gh own H x y v w z Q R rx ry h k
  rcases mIn_inv h with ⟨ks, xs, d, kk, e1, rfl, e2, rfl⟩ | ⟨ys, a, e1, e2, c1, c2, rfl⟩
  · obtain ⟨a, o, rfl, hg, h1, h2⟩ := dget_of (k := kk) R ry e1
    obtain rfl := keyOf_rel e2 (show Rep Y.T gh.F d v from rx)
    refine .inr ⟨a, o, rfl, hg, ?_⟩
    have : o.isSome = (getK kk ks xs).isSome := by
      cases e : getK kk ks xs with
      | none => rw [h2 e]; rfl
      | some d => obtain ⟨v, ev, _⟩ := h1 d e; rw [ev]; rfl
    rw [this]
    exact k gh _ H R .rfl' (.bl _)
  · obtain ⟨d, ds, h1, h2, h3, h4, h5, h6⟩ := in_core R rx ry e1 e2 c1 c2
    have fin : Rep Y.T gh.F (.bl ((ys.any fun z => eqN 60 z a) != true)) (.bl (!(ys.any fun z => eqN 60 z a))) := by
      cases (ys.any fun z => eqN 60 z a) <;> exact .bl _
    rcases h2 with h2 | h2
    · refine .inl (.inl ⟨d, ds, h1, h2, h3, h4, ?_⟩)
      rw [h6]
      exact k gh _ H R .rfl' fin
    · refine .inl (.inr ⟨d, ds, h1, h2, h3, h5, ?_⟩)
      rw [h6]
      exact k gh _ H R .rfl' (.bl _)
end

/-! ## subscripts -/
def mIx : Own → SV → SV → Option D := fun own x y => match dicV own x with
  | some (ks, xs) => match y with
    | .d d => (keyOf d).bind fun k => getK k ks xs
    | _ => none
  | none => match y with
    | .d (.int i) => (seqV own x).bind fun xs => atI xs i
    | _ => none
abbrev rIxDic : R2 := fun x y H Q => ∃ a v, x = .ref a ∧ DGet H a y (some v) ∧ Q v H
abbrev rIxA (K : PySem.W.Frag) : R2 := fun x y H Q => (rIxL K x y H Q ∨ rIxT K x y H Q) ∨ rIxDic x y H Q
theorem ix_dic {X : Cx} (hu : X.A.units + 1 < cLine) : IxR X rIxDic := by
  intro value slice pins s σ H x y v u Q I rx ry h hs
  obtain ⟨a, z, rfl, g, q⟩ := h
  obtain rfl : v = Value.ref a := rx
  exact tail_any (dict_typeIs I g) PySem.F.slot_dict_getitem.lookup (d_getItem hu I g ry fun w' s3 I3 rw' => ⟨z, H, I3, rw', q⟩) hs
theorem ix_A {X : Cx} (hu : X.A.units + 1 < cLine) : IxR X (rIxA X.K) := (ix_list.or ix_tup).or (ix_dic hu)
theorem atI_rel {T : Tb} {F : Hp} {xs : List D} {vs : List V} {i : Int} {d : D} (r : Reps T F xs vs) (h : atI xs i = some d) : ∃ v, atI vs i = some v ∧ Rep T F d v := by
  unfold atI at h ⊢
  rw [r.length] at h
  obtain ⟨j, e1, e2⟩ := Option.bind_eq_some_iff.mp h
  obtain ⟨v, e3, e4⟩ := r.get e2
  exact ⟨v, by rw [e1]; exact e3, e4⟩
theorem o2_ix {Y : Cy} : O2 Y (rIxA Y.T.K) mIx := by
  intro gh own H x y v w z Q R rx ry h k
  unfold mIx at h
  cases e : dicV own x with
  | some p =>
    obtain ⟨ks, xs⟩ := p
    rw [e] at h
    cases y with
    | h k => cases h
    | d d =>
      obtain ⟨kk, e1, e2⟩ := Option.bind_eq_some_iff.mp h
      obtain ⟨a, o, rfl, hg, h1, h2⟩ := dget_of (k := kk) R rx e
      obtain rfl := keyOf_rel e1 (show Rep Y.T gh.F d w from ry)
      obtain ⟨v, ev, rv⟩ := h1 z e2
      subst ev
      exact .inr ⟨a, v, rfl, hg, k gh v H R .rfl' rv⟩
  | none =>
    rw [e] at h
    cases y with
    | h k => cases h
    | d d =>
      cases d with
      | int i =>
        obtain ⟨xs, e1, e2⟩ := Option.bind_eq_some_iff.mp h
        obtain ⟨a, vs, rfl, hs, hr⟩ := seq_of R rx e1
        obtain ⟨v, ev, rv⟩ := atI_rel hr e2
        rcases hs with hs | hs
        · exact .inl (.inl ⟨a, vs, i, v, rfl, sv_int ry, hs, ev, k gh v H R .rfl' rv⟩)
        · exact .inl (.inr ⟨a, vs, i, v, rfl, sv_int ry, hs, ev, k gh v H R .rfl' rv⟩)
      | _ => cases h
theorem r_ix {X : Cx} {Y : Cy} {a b : Expr} {f g : EM} {pos : Pos} {m : Own → SV → SV → Option D} {r : R2} (hr : IxR X r) (om : O2 Y r m) (ha : PE X a (trE Y f)) (hb : PE X b (trE Y g)) (hs : PlainIx b := by intro _ _; rfl) : PE X (.Subscript a b pos) (trE Y (eB m f g)) :=
  PE.imp (pe_ix hr ha hb hs) fun _ _ _ q => at_b om q

/-! ## slices -/
abbrev OM := M (Option Int)
def relO : Gh → Nat → Option Int → Option Int → Prop := fun _ _ a b => a = b
def oNo : OM := M.ret none
def oSo (f : EM) : OM := f.bind fun x => match x with
  | .d (.int i) => M.ret (some i)
  | _ => M.fail
abbrev trO (Y : Cy) (f : OM) : TO := trM Y relO f
def cutD (xs : List D) (lo hi : Option Int) : List D := (xs.drop (HT.sIx xs.length 0 lo)).take (HT.sIx xs.length xs.length hi - HT.sIx xs.length 0 lo)
def mSl (own : Own) (x : SV) (lo hi : Option Int) : Option D := match x with
  | .d (.tup xs) => some (.tup (cutD xs lo hi))
  | x => (lstV own x).map fun xs => .lst (cutD xs lo hi)
def eSl (f : EM) (l h : OM) : EM := f.bind fun x => l.bind fun lo => h.bind fun hi => M.ask fun own => (mSl own x lo hi).map SV.d
theorem PO.imp {X : Cx} {e : Option Expr} {t t' : TO} (h : PO X e t) (i : ∀ σ H Q, t' σ H Q → t σ H Q) : PO X e t' := ⟨fun pins s σ H Q I q => h.run pins s σ H Q I (i σ H Q q)⟩
section
variable {X : Cx} {Y : Cy} {pos p2 : Pos} {a : Expr} {lo hi : Option Expr} {f : EM} {l h : OM}
theorem ro_no : PO X none (trO Y oNo) := PO.imp po_none fun σ H Q q => by
  obtain ⟨gh, sd, own, R, S, q⟩ := q
  exact at_ret q gh none H R .rfl' rfl
theorem ro_so {e : Expr} (he : PE X e (trE Y f)) : PO X (some e) (trO Y (oSo f)) := PO.imp (po_some he) fun σ H Q q => by
  obtain ⟨gh, sd, own, R, S, q⟩ := q
  refine at_bind R S q fun g1 o1 x v H1 R1 S1 e1 rx q1 => ?_
  cases x with
  | h k => exact (at_fail q1).elim
  | d x =>
    cases x with
    | int i => exact ⟨i, sv_int rx, at_ret q1 g1 _ H1 R1 .rfl' rfl⟩
    | _ => exact (at_fail q1).elim
theorem r_sl (ha : PE X a (trE Y f)) (hl : PO X lo (trO Y l)) (hh : PO X hi (trO Y h)) (hK : X.K = Y.T.K := by rfl) : PE X (.Subscript a (.Slice lo hi none p2) pos) (trE Y (eSl f l h)) := by
  refine PE.imp (pe_slice (sl_tupA.or sl_list) ha hl hh) fun σ H Q q => ?_
  obtain ⟨gh, sd, own, R, S, q⟩ := q
  refine at_bind R S q fun g1 o1 x v H1 R1 S1 e1 rx q1 => ?_
  refine at_bind R1 S1 q1 fun g2 o2 a b H2 R2 S2 e2 rl q2 => ?_
  refine at_bind R2 S2 q2 fun g3 o3 c d H3 R3 S3 e3 rh q3 => ?_
  obtain rfl : a = b := rl
  obtain rfl : c = d := rh
  obtain ⟨s, es, q4⟩ := at_ask q3
  obtain ⟨z, ez, e5⟩ := Option.map_eq_some_iff.mp es
  subst e5
  have rx3 := (rx.ext e2).ext e3
  rw [hK]
  have cut : ∀ {xs : List D} {vs : List V}, Reps Y.T g3.F xs vs → Reps Y.T g3.F (cutD xs a c) (cutV vs a c) := fun {xs vs} r => by
    unfold cutD cutV
    rw [r.length]
    exact (r.drop _).take _
  have lists : (lstV o3 x).map (fun xs => D.lst (cutD xs a c)) = some z → rSlL Y.T.K v a c H3 Q := fun ez => by
    obtain ⟨xs, e1, e2⟩ := Option.map_eq_some_iff.mp ez
    subst e2
    obtain ⟨p, vs, rfl, h1, h2⟩ := lst_of R3 rx3 e1
    refine ⟨p, vs, rfl, SqL.of h1, fun q hq => ?_⟩
    obtain ⟨R5, e5⟩ := R3.new hq (.lst (cutV vs a c))
    exact q4 _ _ _ R5 e5 (Rep.lst upd_same ((cut h2).le e5.F))
  cases x with
  | h k => exact .inr (lists ez)
  | d x =>
    cases x with
    | tup xs =>
      cases ez
      have rx3 : Rep Y.T g3.F (.tup xs) v := rx3
      cases rx3 with
      | @tup p vs _ h1 h2 =>
        refine .inl ⟨p, vs, rfl, SqT.le R3.f h1, fun hw => ?_, fun _ q hq => ?_⟩
        · have e : cutD xs a c = xs := by
            unfold cutD
            rw [h2.length, hw.1, hw.2, List.drop_zero, Nat.sub_zero, ← h2.length]
            exact List.take_length
          rw [e] at q4
          exact q4 g3 _ H3 R3 .rfl' (Rep.tup h1 h2)
        · obtain ⟨R5, e5⟩ := R3.new hq (.tup (cutV vs a c))
          exact q4 _ _ _ R5 e5 (Rep.tup (SqT.of upd_same) ((cut h2).le e5.F))
    | _ => exact .inr (lists ez)
end
end Gx
end T_GxR4
section T_GxR5
set_option Elab.async false
set_option linter.all false
set_option maxRecDepth 100000
set_option maxHeartbeats 4000000
namespace Gx
open PySem PySem.Spec PyProof.Rows L2

/-! ## built-ins by values -/
theorem rss1 {T : Tb} {g : Gh} {n : Nat} {x : SV} {vs : List V} (r : RSs T g n [x] vs) : ∃ v, vs = [v] ∧ RS T g n x v := by
  cases r with
  | cons h t => cases t; exact ⟨_, rfl, h⟩
theorem rss2 {T : Tb} {g : Gh} {n : Nat} {x y : SV} {vs : List V} (r : RSs T g n [x, y] vs) : ∃ v w, vs = [v, w] ∧ RS T g n x v ∧ RS T g n y w := by
  cases r with
  | cons h t =>
    obtain ⟨w, rfl, hw⟩ := rss1 t
    exact ⟨_, _, rfl, h, hw⟩
/-- one argument -/
def m1 (m : Own → SV → Option D) : Own → List SV → Option SV := fun own xs => match xs with
  | [x] => (m own x).map SV.d
  | _ => none
def m2 (m : Own → SV → SV → Option D) : Own → List SV → Option SV := fun own xs => match xs with
  | [x, y] => (m own x y).map SV.d
  | _ => none
def O1 (Y : Cy) (r : V → Hp → VK → Prop) (m : Own → SV → Option D) : Prop := ∀ (gh : Gh) (own : Own) (H : Hp) (x : SV) (v : V) (z : D) (Q : VK),
  HRel Y.T Y.B gh own H → RS Y.T gh own.length x v → m own x = some z →
  (∀ g' u H', HRel Y.T Y.B g' own H' → GExt Y.B gh own.length g' own.length → Rep Y.T g'.F z u → Q u H') → r v H Q
theorem ob_1 {Y : Cy} {m : Own → SV → Option D} {r : V → Hp → VK → Prop} {rr : List V → Hp → VK → Prop} (om : O1 Y r m) (hr : ∀ v H Q, r v H Q → rr [v] H Q) : OB Y rr (m1 m) := by
  intro gh own H xs vs z Q R rs h k
  match xs, rs, h with
  | [x], rs, h =>
    obtain ⟨d, e1, e2⟩ := Option.map_eq_some_iff.mp h
    subst e2
    obtain ⟨v, rfl, rx⟩ := rss1 rs
    exact hr v H Q (om gh own H x v d Q R rx e1 k)
theorem ob_2 {Y : Cy} {m : Own → SV → SV → Option D} {r : R2} {rr : List V → Hp → VK → Prop} (om : O2 Y r m) (hr : ∀ v w H Q, r v w H Q → rr [v, w] H Q) : OB Y rr (m2 m) := by
  intro gh own H xs vs z Q R rs h k
  match xs, rs, h with
  | [x, y], rs, h =>
    obtain ⟨d, e1, e2⟩ := Option.map_eq_some_iff.mp h
    subst e2
    obtain ⟨v, w, rfl, rx, ry⟩ := rss2 rs
    exact hr v w H Q (om gh own H x y v w d Q R rx ry e1 k)

/-! ### len -/
def mLen : Own → SV → Option D := fun own x => match dicV own x with
  | some (ks, _) => some (.int ks.length)
  | none => match x with
    | .d (.str z) => if z.length ≤ sizeLine then some (.int z.length) else none
    | x => (seqV own x).map fun xs => .int xs.length
abbrev rLenA (K : PySem.W.Frag) : List V → Hp → VK → Prop := fun xs H Q => (∃ x n, xs = [x] ∧ LenV K x H n ∧ Q (.int n) H) ∨ ∃ a, ∃ kvs : List (Key × V), xs = [V.ref a] ∧ Rd H a (.dK kvs) ∧ Q (.int kvs.length) H
theorem call_lenR {X : Cx} : CallR X (.builtin "len") (fun xs H Q => ∃ a, ∃ kvs : List (Key × V), xs = [V.ref a] ∧ Rd H a (.dK kvs) ∧ Q (.int kvs.length) H) := by
  intro pins s σ H xs us Q I r h
  obtain ⟨a, kvs, rfl, ha, q⟩ := h
  obtain ⟨u, rfl, ru⟩ := vals1 r
  cases ru
  exact d_len I ha fun t s' I' => ⟨.int kvs.length, H, I', ⟨t, rfl⟩, q⟩
theorem call_lenA {X : Cx} : CallR X (.builtin "len") (rLenA X.K) := call_len.or call_lenR
theorem ob_len {Y : Cy} : OB Y (rLenA Y.T.K) (m1 mLen) := by
  refine ob_1 (r := fun v H Q => rLenA Y.T.K [v] H Q) (fun gh own H x v z Q R rx h k => ?_) fun _ _ _ h => h
  unfold mLen at h
  have seqs : (seqV own x).map (fun xs => D.int xs.length) = some z → rLenA Y.T.K [v] H Q := fun h => by
    obtain ⟨xs, e1, e2⟩ := Option.map_eq_some_iff.mp h
    subst e2
    obtain ⟨a, vs, rfl, hs, hr⟩ := seq_of R rx e1
    have e := hr.length
    rw [e] at k
    refine .inl ⟨_, vs.length, rfl, ?_, k gh _ H R .rfl' (.int _)⟩
    rcases hs with hs | hs
    · exact .inl ⟨vs, hs, rfl⟩
    · exact .inr ⟨vs, hs, rfl⟩
  cases e : dicV own x with
  | some p =>
    obtain ⟨ks, xs⟩ := p
    rw [e] at h
    cases h
    obtain ⟨a, kvs, rfl, h1, h2, h3⟩ := dic_of R rx e
    subst h2
    rw [List.length_map] at k
    exact .inr ⟨a, kvs, rfl, h1, k gh _ H R .rfl' (.int _)⟩
  | none =>
    rw [e] at h
    cases x with
    | h k => exact seqs h
    | d x =>
      cases x with
      | str s =>
        have h : (if s.length ≤ sizeLine then some (D.int s.length) else none) = some z := h
        by_cases c : s.length ≤ sizeLine
        · rw [if_pos c] at h
          cases h
          obtain rfl := rep_str (show Rep Y.T gh.F (.str s) v from rx)
          exact .inl ⟨_, s.length, rfl, ⟨c, rfl⟩, k gh _ H R .rfl' (.int _)⟩
        · rw [if_neg c] at h; cases h
      | _ => exact seqs h

/-! ### tuple(), list() -/
def mTupC : Own → SV → Option D := fun own x => (seqV own x).map .tup
def mLstC : Own → SV → Option D := fun own x => (seqV own x).map .lst
theorem ob_tup {X : Cx} {Y : Cy} (hK : X.K = Y.T.K := by rfl) : OB Y (fun xs H Q => ∃ p ys, xs = [V.ref p] ∧ ((SqL X.K H p ys ∧ ∀ l, H l = none → Q (.ref l) (upd H l (.tup ys))) ∨ (SqT X.K H p ys ∧ Q (.ref p) H))) (m1 mTupC) := by
  refine ob_1 (r := fun v H Q => ∃ p ys, v = .ref p ∧ ((SqL X.K H p ys ∧ ∀ l, H l = none → Q (.ref l) (upd H l (.tup ys))) ∨ (SqT X.K H p ys ∧ Q (.ref p) H))) (fun gh own H x v z Q R rx h k => ?_) fun _ _ _ ⟨p, ys, e, q⟩ => ⟨p, ys, by rw [e], q⟩
  obtain ⟨xs, e1, e2⟩ := Option.map_eq_some_iff.mp h
  subst e2
  rw [hK]
  cases x with
  | d x =>
    cases x with
    | tup ys =>
      cases e1
      have rx' : Rep Y.T gh.F (.tup xs) v := rx
      cases rx' with
      | @tup p vs _ h1 h2 => exact ⟨p, vs, rfl, .inr ⟨SqT.le R.f h1, k gh _ H R .rfl' (.tup h1 h2)⟩⟩
    | lst ys =>
      obtain ⟨p, vs, rfl, h1, h2⟩ := lst_of R rx (xs := xs) e1
      refine ⟨p, vs, rfl, .inl ⟨SqL.of h1, fun q hq => ?_⟩⟩
      obtain ⟨R2, e2⟩ := R.new hq (.tup vs)
      exact k _ _ _ R2 e2 (.tup (SqT.of upd_same) (h2.le e2.F))
    | _ => cases e1
  | h kk =>
    obtain ⟨p, vs, rfl, h1, h2⟩ := lst_of R rx (xs := xs) e1
    refine ⟨p, vs, rfl, .inl ⟨SqL.of h1, fun q hq => ?_⟩⟩
    obtain ⟨R2, e2⟩ := R.new hq (.tup vs)
    exact k _ _ _ R2 e2 (.tup (SqT.of upd_same) (h2.le e2.F))
abbrev rLstOf (K : PySem.W.Frag) : List V → Hp → VK → Prop := fun xs H Q => ∃ p ys, xs = [.ref p] ∧ (SqL K H p ys ∨ SqT K H p ys) ∧ ∀ l, H l = none → Q (.ref l) (upd H l (.lst ys))
theorem ob_lst {Y : Cy} : OB Y (rLstOf Y.T.K) (m1 mLstC) := by
  refine ob_1 (r := fun v H Q => rLstOf Y.T.K [v] H Q) (fun gh own H x v z Q R rx h k => ?_) fun _ _ _ h => h
  obtain ⟨xs, e1, e2⟩ := Option.map_eq_some_iff.mp h
  subst e2
  obtain ⟨a, vs, rfl, hs, hr⟩ := seq_of R rx e1
  refine ⟨a, vs, rfl, hs, fun q hq => ?_⟩
  obtain ⟨R2, e2⟩ := R.new hq (.lst vs)
  exact k _ _ _ R2 e2 (.lst upd_same (hr.le e2.F))
/-- list(x), a list that will change -/
def eLstCH (a : AM) : EM := a.bind fun xs => fun _ own => match xs with
  | [x] => match seqV own x with
    | some ds => some (.ok (.h own.length), own ++ [.lst ds])
    | none => none
  | _ => none
theorem r_lstCH {X : Cx} {Y : Cy} {p pos : Pos} {a : Expr} {es : List Expr} {al : AM} (hm : X.mg "list" = none) (ha : PA X (a :: es) (trA Y al)) (hg : Gl X "list" := by rfl) (hK : X.K = Y.T.K := by rfl)
    (he : starEach (a :: es) X.env = (false, eval a X.env) :: starEach es X.env := by rfl) (hpl : (backTo pos (starEach es X.env)).any (·.1) = false := by rfl) : PE X (.Call (.Name "list" p) (a :: es) [] pos) (trE Y (eLstCH al)) := by
  refine PE.imp (pe_callTy call_list_of hg hm boot_list ha (by decide) (by decide) he hpl) fun σ H Q q => ?_
  obtain ⟨gh, sd, own, R, S, q⟩ := q
  refine at_bind R S q fun g1 o1 xs vs H1 R1 S1 e1 rs q1 => ?_
  obtain ⟨r0, own', e, q1⟩ := q1
  match xs, rs, e with
  | [x], rs, e =>
    obtain ⟨v, rfl, rx⟩ := rss1 rs
    cases es : seqV o1 x with
    | none => simp only [es] at e; cases e
    | some ds =>
      simp only [es] at e
      cases e
      obtain ⟨a, vs, rfl, hs, hr⟩ := seq_of R1 rx es
      refine ⟨a, vs, rfl, by rw [hK]; exact hs, fun q hq => ?_⟩
      obtain ⟨R2, e2⟩ := R1.made hq (ho := .lst vs) (o := .lst ds) ⟨vs, upd_same, hr⟩
      exact q1 _ _ _ R2 e2 ⟨by simp, by show V.ref q = .ref (if o1.length = o1.length then q else _); rw [if_pos rfl]⟩

/-! ### sum, max, min, any, all, abs, int -/
def maxI : List Int → Option Int
  | [] => none
  | x :: xs => some (xs.foldl max x)
def minI : List Int → Option Int
  | [] => none
  | x :: xs => some (xs.foldl min x)
theorem foldl_max : ∀ (xs : List Int) (x : Int), (xs.foldl max x = x ∨ xs.foldl max x ∈ xs) ∧ x ≤ xs.foldl max x ∧ ∀ y ∈ xs, y ≤ xs.foldl max x
  | [], x => ⟨.inl rfl, Int.le_refl _, fun _ h => nomatch h⟩
  | z :: zs, x => by
    obtain ⟨h1, h2, h3⟩ := foldl_max zs (max x z)
    have e : (z :: zs).foldl max x = zs.foldl max (max x z) := rfl
    rw [e]
    have a1 : x ≤ max x z := Int.le_max_left _ _
    have a2 : z ≤ max x z := Int.le_max_right _ _
    refine ⟨?_, Int.le_trans a1 h2, fun y hy => ?_⟩
    · rcases h1 with h1 | h1
      · rw [h1]
        by_cases c : x ≤ z
        · exact .inr (by rw [show max x z = z from Int.max_eq_right c]; exact List.mem_cons_self)
        · exact .inl (Int.max_eq_left (by omega))
      · exact .inr (List.mem_cons_of_mem _ h1)
    · rcases List.mem_cons.mp hy with rfl | hy
      · exact Int.le_trans a2 h2
      · exact h3 y hy
theorem foldl_min : ∀ (xs : List Int) (x : Int), (xs.foldl min x = x ∨ xs.foldl min x ∈ xs) ∧ xs.foldl min x ≤ x ∧ ∀ y ∈ xs, xs.foldl min x ≤ y
  | [], x => ⟨.inl rfl, Int.le_refl _, fun _ h => nomatch h⟩
  | z :: zs, x => by
    obtain ⟨h1, h2, h3⟩ := foldl_min zs (min x z)
    have e : (z :: zs).foldl min x = zs.foldl min (min x z) := rfl
    rw [e]
    have a1 : min x z ≤ x := Int.min_le_left _ _
    have a2 : min x z ≤ z := Int.min_le_right _ _
    refine ⟨?_, Int.le_trans h2 a1, fun y hy => ?_⟩
    · rcases h1 with h1 | h1
      · rw [h1]
        by_cases c : x ≤ z
        · exact .inl (Int.min_eq_left c)
        · exact .inr (by rw [show min x z = z from Int.min_eq_right (by omega)]; exact List.mem_cons_self)
      · exact .inr (List.mem_cons_of_mem _ h1)
    · rcases List.mem_cons.mp hy with rfl | hy
      · exact Int.le_trans h2 a2
      · exact h3 y hy
theorem maxI_of {xs : List Int} {m : Int} (h : maxI xs = some m) : m ∈ xs ∧ ∀ y ∈ xs, y ≤ m := by
  cases xs with
  | nil => cases h
  | cons x xs =>
    cases h
    obtain ⟨h1, h2, h3⟩ := foldl_max xs x
    refine ⟨?_, fun y hy => ?_⟩
    · rcases h1 with h1 | h1
      · rw [h1]; exact List.mem_cons_self
      · exact List.mem_cons_of_mem _ h1
    · rcases List.mem_cons.mp hy with rfl | hy
      · exact h2
      · exact h3 y hy
theorem minI_of {xs : List Int} {m : Int} (h : minI xs = some m) : m ∈ xs ∧ ∀ y ∈ xs, m ≤ y := by
  cases xs with
  | nil => cases h
  | cons x xs =>
    cases h
    obtain ⟨h1, h2, h3⟩ := foldl_min xs x
    refine ⟨?_, fun y hy => ?_⟩
    · rcases h1 with h1 | h1
      · rw [h1]; exact List.mem_cons_self
      · exact List.mem_cons_of_mem _ h1
    · rcases List.mem_cons.mp hy with rfl | hy
      · exact h2
      · exact h3 y hy
def mInts (f : List Int → Option D) : Own → SV → Option D := fun own x => (lstV own x).bind fun ds => (intsD ds).bind f
def mSum := mInts fun is => some (.int is.sum)
def mMaxL := mInts fun is => (maxI is).map D.int
def mMinL := mInts fun is => (minI is).map D.int
def mAny : Own → SV → Option D := fun own x => (lstV own x).bind fun ds => (blsD ds).map fun bs => .bl (bs.any id)
def mAll : Own → SV → Option D := fun own x => (lstV own x).bind fun ds => (blsD ds).map fun bs => .bl (bs.all id)
theorem ints_of {Y : Cy} {gh : Gh} {own : Own} {H : Hp} {x : SV} {v : V} {ds : List D} {is : List Int} (R : HRel Y.T Y.B gh own H) (rx : RS Y.T gh own.length x v) (h1 : lstV own x = some ds) (h2 : intsD ds = some is) : ∃ a, v = .ref a ∧ SqL Y.T.K H a (is.map V.int) := by
  obtain ⟨a, vs, rfl, h3, h4⟩ := lst_of R rx h1
  rw [intsD_map h2] at h4
  rw [reps_ints h4] at h3
  exact ⟨a, rfl, SqL.of h3⟩
theorem bls_of {Y : Cy} {gh : Gh} {own : Own} {H : Hp} {x : SV} {v : V} {ds : List D} {is : List Bool} (R : HRel Y.T Y.B gh own H) (rx : RS Y.T gh own.length x v) (h1 : lstV own x = some ds) (h2 : blsD ds = some is) : ∃ a, v = .ref a ∧ SqL Y.T.K H a (is.map V.bl) := by
  obtain ⟨a, vs, rfl, h3, h4⟩ := lst_of R rx h1
  rw [blsD_map h2] at h4
  rw [reps_bls h4] at h3
  exact ⟨a, rfl, SqL.of h3⟩
theorem ob_sum {Y : Cy} : OB Y (rSum Y.T.K) (m1 mSum) := by
  refine ob_1 (r := fun v H Q => rSum Y.T.K [v] H Q) (fun gh own H x v z Q R rx h k => ?_) fun _ _ _ h => h
  obtain ⟨ds, e1, h⟩ := Option.bind_eq_some_iff.mp h
  obtain ⟨is, e2, h⟩ := Option.bind_eq_some_iff.mp h
  cases h
  obtain ⟨a, rfl, hs⟩ := ints_of R rx e1 e2
  exact ⟨a, is, rfl, hs, k gh _ H R .rfl' (.int _)⟩
theorem ob_maxL {Y : Cy} : OB Y (rMax Y.T.K) (m1 mMaxL) := by
  refine ob_1 (r := fun v H Q => rMax Y.T.K [v] H Q) (fun gh own H x v z Q R rx h k => ?_) fun _ _ _ h => h
  obtain ⟨ds, e1, h⟩ := Option.bind_eq_some_iff.mp h
  obtain ⟨is, e2, h⟩ := Option.bind_eq_some_iff.mp h
  obtain ⟨m, e3, e4⟩ := Option.map_eq_some_iff.mp h
  subst e4
  obtain ⟨a, rfl, hs⟩ := ints_of R rx e1 e2
  obtain ⟨q1, q2⟩ := maxI_of e3
  refine ⟨a, is, rfl, hs, List.length_pos_of_mem q1, fun m' h1 h2 => ?_⟩
  obtain rfl : m' = m := Int.le_antisymm (q2 _ h1) (h2 _ q1)
  exact k gh _ H R .rfl' (.int _)
theorem ob_minL {Y : Cy} : OB Y (rMin Y.T.K) (m1 mMinL) := by
  refine ob_1 (r := fun v H Q => rMin Y.T.K [v] H Q) (fun gh own H x v z Q R rx h k => ?_) fun _ _ _ h => h
  obtain ⟨ds, e1, h⟩ := Option.bind_eq_some_iff.mp h
  obtain ⟨is, e2, h⟩ := Option.bind_eq_some_iff.mp h
  obtain ⟨m, e3, e4⟩ := Option.map_eq_some_iff.mp h
  subst e4
  obtain ⟨a, rfl, hs⟩ := ints_of R rx e1 e2
  obtain ⟨q1, q2⟩ := minI_of e3
  refine ⟨a, is, rfl, hs, List.length_pos_of_mem q1, fun m' h1 h2 => ?_⟩
  obtain rfl : m' = m := Int.le_antisymm (h2 _ q1) (q2 _ h1)
  exact k gh _ H R .rfl' (.int _)
theorem ob_any {Y : Cy} : OB Y (rAny Y.T.K) (m1 mAny) := by
  refine ob_1 (r := fun v H Q => rAny Y.T.K [v] H Q) (fun gh own H x v z Q R rx h k => ?_) fun _ _ _ h => h
  obtain ⟨ds, e1, h⟩ := Option.bind_eq_some_iff.mp h
  obtain ⟨bs, e2, h⟩ := Option.map_eq_some_iff.mp h
  subst h
  obtain ⟨a, rfl, hs⟩ := bls_of R rx e1 e2
  exact ⟨a, bs, rfl, hs, k gh _ H R .rfl' (.bl _)⟩
theorem ob_all {Y : Cy} : OB Y (rAll Y.T.K) (m1 mAll) := by
  refine ob_1 (r := fun v H Q => rAll Y.T.K [v] H Q) (fun gh own H x v z Q R rx h k => ?_) fun _ _ _ h => h
  obtain ⟨ds, e1, h⟩ := Option.bind_eq_some_iff.mp h
  obtain ⟨bs, e2, h⟩ := Option.map_eq_some_iff.mp h
  subst h
  obtain ⟨a, rfl, hs⟩ := bls_of R rx e1 e2
  exact ⟨a, bs, rfl, hs, k gh _ H R .rfl' (.bl _)⟩
def mAbs : Own → SV → Option D := fun _ x => match x with
  | .d (.int i) => some (.int (if i < 0 then -i else i))
  | _ => none
def mInt : Own → SV → Option D := fun _ x => match x with
  | .d (.int i) => some (.int i)
  | .d (.bl b) => some (.int (if b then 1 else 0))
  | _ => none
theorem ob_abs {Y : Cy} : OB Y (fun xs H Q => ∃ i, xs = [V.int i] ∧ Q (.int (if i < 0 then -i else i)) H) (m1 mAbs) := by
  refine ob_1 (r := fun v H Q => ∃ i, v = V.int i ∧ Q (.int (if i < 0 then -i else i)) H) (fun gh own H x v z Q R rx h k => ?_) fun _ _ _ ⟨i, e, q⟩ => ⟨i, by rw [e], q⟩
  cases x with
  | h k => cases h
  | d x =>
    cases x with
    | int i => cases h; exact ⟨i, sv_int rx, k gh _ H R .rfl' (.int _)⟩
    | _ => cases h
theorem ob_int {Y : Cy} : OB Y (fun xs H Q => (∃ i, xs = [V.int i] ∧ Q (.int i) H) ∨ ∃ k, xs = [V.bl k] ∧ Q (.int (if k then 1 else 0)) H) (m1 mInt) := by
  refine ob_1 (r := fun v H Q => (∃ i, v = V.int i ∧ Q (.int i) H) ∨ ∃ k, v = V.bl k ∧ Q (.int (if k then 1 else 0)) H) (fun gh own H x v z Q R rx h k => ?_) fun _ _ _ q => ?_
  · cases x with
    | h k => cases h
    | d x =>
      cases x with
      | int i => cases h; exact .inl ⟨i, sv_int rx, k gh _ H R .rfl' (.int _)⟩
      | bl b => cases h; exact .inr ⟨b, rep_bl rx, k gh _ H R .rfl' (.int _)⟩
      | _ => cases h
  · rcases q with ⟨i, e, q⟩ | ⟨i, e, q⟩
    · exact .inl ⟨i, by rw [e], q⟩
    · exact .inr ⟨i, by rw [e], q⟩
def mMax2 := m2I (fun _ _ => true) fun i j => .int (if j > i then j else i)
def mMin2 := m2I (fun _ _ => true) fun i j => .int (if j < i then j else i)
theorem ob_max2 {Y : Cy} : OB Y (fun xs H Q => ∃ i j, xs = [V.int i, V.int j] ∧ Q (.int (if j > i then j else i)) H) (m2 mMax2) :=
  ob_2 (o2_I0 (g := fun i j => .int (if j > i then j else i)) fun _ _ _ => .int _) fun _ _ _ _ ⟨i, j, e1, e2, q⟩ => ⟨i, j, by rw [e1, e2], q⟩
theorem ob_min2 {Y : Cy} : OB Y (fun xs H Q => ∃ i j, xs = [V.int i, V.int j] ∧ Q (.int (if j < i then j else i)) H) (m2 mMin2) :=
  ob_2 (o2_I0 (g := fun i j => .int (if j < i then j else i)) fun _ _ _ => .int _) fun _ _ _ _ ⟨i, j, e1, e2, q⟩ => ⟨i, j, by rw [e1, e2], q⟩

/-! ### isinstance with a built-in class -/
def tyOf : D → Option Nat
  | .int _ => some 0
  | .bl _ => some 1
  | .str _ => some 2
  | .tup _ => some 3
  | .lst _ => some 4
  | .dic _ _ => some 5
  | .non => some 6
  | _ => none
def isTy (t k : Nat) : Bool := t == k || (t == 1 && k == 0)
/-- isinstance(x, a built-in class); of data alone -/
def mIsi : Own → SV → SV → Option D := fun own x c => match c with
  | .d (.ty k) => if k < 7 then (datV own x).bind fun d => (tyOf d).map fun t => .bl (isTy t k) else none
  | _ => none
theorem kit_tys : ∀ t k : Nat, t < 7 → k < 7 → kitB (tyName t) (tyName k) = some (isTy t k) := by
  intro t k ht hk
  have : ∀ t : Fin 7, ∀ k : Fin 7, kitB (tyName t) (tyName k) = some (isTy t k) := by decide +kernel
  exact this ⟨t, ht⟩ ⟨k, hk⟩
theorem tyOf_lt {d : D} {t : Nat} (h : tyOf d = some t) : t < 7 := by
  cases d <;> cases h <;> decide
theorem tyX_of {T : Tb} {B : Hp} {g : Gh} {own : Own} {H : Hp} {s : SV} {v : V} {d : D} {t : Nat} (R : HRel T B g own H) (r : RS T g own.length s v) (h : datV own s = some d) (e : tyOf d = some t) : TyX T.K H v (.type (tyName t)) := by
  have lists : ∀ {xs : List D}, lstV own s = some xs → TyX T.K H v (.type "list") := fun {xs} h => by
    obtain ⟨a, vs, rfl, h1, _⟩ := lst_of R r h
    exact .base (.lst h1)
  have dicts : ∀ {ks xs : List D}, dicV own s = some (ks, xs) → TyX T.K H v (.type "dict") := fun {ks xs} h => by
    obtain ⟨a, kvs, rfl, h1, _⟩ := dic_of R r h
    rcases h1 with h1 | ⟨o, h1⟩
    · exact .base (.dK h1)
    · exact .fDict h1
  cases s with
  | d x =>
    have ex : x = d := Option.some.inj h
    subst ex
    have r' : Rep T g.F x v := r
    cases x with
    | non => cases e; cases r'; exact .base .non
    | bl b => cases e; cases r'; exact .base (.bl b)
    | int i => cases e; cases r'; exact .base (.int i)
    | str z => cases e; cases r'; exact .base (.str z)
    | tup xs =>
      cases e
      cases r' with
      | tup h1 h2 =>
        rcases SqT.le R.f h1 with (h1 | ⟨o, h1⟩) | ⟨o, its, n, h1, h2, _⟩
        · exact .base (.tup h1)
        · exact .fTuple h1
        · exact .kTuple h1 h2
    | lst xs => cases e; exact lists (xs := xs) rfl
    | dic ks xs => cases e; exact dicts (ks := ks) (xs := xs) rfl
    | _ => cases e
  | h k =>
    have h : (match own[k]? with | some (.lst xs) => some (D.lst xs) | some (.dic ks xs) => some (D.dic ks xs) | _ => none) = some d := h
    cases eo : own[k]? with
    | none => rw [eo] at h; cases h
    | some o =>
      rw [eo] at h
      cases o with
      | lst xs => cases h; cases e; exact lists (xs := xs) (by show (match own[k]? with | some (.lst xs) => some xs | _ => none) = _; rw [eo])
      | dic ks xs => cases h; cases e; exact dicts (ks := ks) (xs := xs) (by show (match own[k]? with | some (.dic ks xs) => some (ks, xs) | _ => none) = _; rw [eo])
      | _ => cases h
theorem ob_isi {Y : Cy} : OB Y (rIsi Y.T.K) (m2 mIsi) := by
  refine ob_2 (r := fun v w H Q => rIsi Y.T.K [v, w] H Q) (fun gh own H x c v w z Q R rx rc h k => ?_) fun _ _ _ _ h => h
  unfold mIsi at h
  cases c with
  | h k => cases h
  | d c =>
    cases c with
    | ty kk =>
      have h : (if kk < 7 then (datV own x).bind fun d => (tyOf d).map fun t => D.bl (isTy t kk) else none) = some z := h
      by_cases c : kk < 7
      · rw [if_pos c] at h
        obtain ⟨d, e1, h⟩ := Option.bind_eq_some_iff.mp h
        obtain ⟨t, e2, e3⟩ := Option.map_eq_some_iff.mp h
        subst e3
        have rc : Rep Y.T gh.F (.ty kk) w := rc
        cases rc
        exact ⟨v, _, _, _, isTy t kk, rfl, .ty _, tyX_of R rx e1 e2, kit_ty (kit_tys t kk (tyOf_lt e2) c), k gh _ H R .rfl' (.bl _)⟩
      · rw [if_neg c] at h; cases h
    | _ => cases h
end Gx
end T_GxR5
section T_GxR6
set_option Elab.async false
set_option linter.all false
set_option maxRecDepth 100000
set_option maxHeartbeats 4000000
namespace Gx
open PySem PySem.Spec PyProof.Rows L2

theorem rss3 {T : Tb} {g : Gh} {n : Nat} {x y z : SV} {vs : List V} (r : RSs T g n [x, y, z] vs) : ∃ u v w, vs = [u, v, w] ∧ RS T g n x u ∧ RS T g n y v ∧ RS T g n z w := by
  cases r with
  | cons h t =>
    obtain ⟨v, w, rfl, h2, h3⟩ := rss2 t
    exact ⟨_, _, _, rfl, h, h2, h3⟩
/-! ## statements -/
def sNil : SM := fun sd own => some (.nx sd own)
def sSeq (f g : SM) : SM := fun sd own => match f sd own with
  | some (.nx sd' own') => g sd' own'
  | r => r
def sExpr (f : EM) : SM := SM.bind f fun _ => sNil
def sRet (f : EM) : SM := SM.bind f fun x => fun _ own => some (.rt x own)
def sRetN : SM := fun _ own => some (.rt (.d .non) own)
def sBrk : SM := fun sd own => some (.bk sd own)
def sCnt : SM := fun sd own => some (.ct sd own)
def sIf (c : TM) (f g : SM) : SM := SM.bind c fun b => match b with
  | true => f
  | false => g
def sSet (i : Nat) (f : EM) : SM := SM.bind f fun x => fun sd own => some (.nx (sd.set i (some x)) own)
/-- several names at once -/
def setL : List Nat → List SV → Sl → Option Sl
  | [], [], sd => some sd
  | i :: is, x :: xs, sd => setL is xs (sd.set i (some x))
  | _, _, _ => none
def sPar (is : List Nat) (a : AM) : SM := SM.bind a fun xs => fun sd own => (setL is xs sd).map fun sd' => .nx sd' own
/-- a, b = e, e a tuple of data -/
def sUnp (is : List Nat) (f : EM) : SM := SM.bind f fun x => fun sd own => match x with
  | .d (.tup ds) => (setL is (ds.map SV.d) sd).map fun sd' => .nx sd' own
  | _ => none
/-- name op= e, ints -/
def sAug (g : Int → Int → Int) (i : Nat) (f : EM) : SM := fun sd own => match sd[i]? with
  | some (some (.d (.int k))) => SM.bind f (fun y => fun sd own => match y with
    | .d (.int m) => some (.nx (sd.set i (some (.d (.int (g k m))))) own)
    | _ => none) sd own
  | _ => none
/-- o[i] = v, o a list of one's own -/
def setIx (own : Own) (o i : SV) (v : D) : Option Own := match o, i with
  | .h k, .d (.int z) => match own[k]? with
    | some (.lst xs) => (ixN xs.length z).map fun j => own.set k (.lst (xs.set j v))
    | _ => none
  | _, _ => none
def sPutL (o i v : EM) : SM := SM.bind v fun x => SM.bind o fun a => SM.bind i fun b => fun sd own => match x with
  | .d d => (setIx own a b d).map fun own' => .nx sd own'
  | _ => none
/-- never come to -/
def sNo : SM := fun _ _ => none
def eNo : EM := fun _ _ => none

section
variable {X : Cx} {Y : Cy} {pos : Pos} {a b c : Expr} {f g : EM} {t : TM} {st : Stmt} {l m : List Stmt} {p q : SM}
theorem rss_nil : PSs X [] (trS Y sNil) := PSs.imp pss_nil fun D σ H q => by
  obtain ⟨gh, sd, own, R, S, r, e, k⟩ := q
  cases e
  exact k gh σ H R S .rfl'
theorem seq_at {Dn : Ends} {σ : L2.St} {H : Hp} (h : trS Y (sSeq p q) Dn σ H) : trS Y p { Dn with nx := trS Y q Dn } σ H := by
  obtain ⟨gh, sd, own, R, S, r, e, k⟩ := h
  refine ⟨gh, sd, own, R, S, ?_⟩
  unfold sSeq at e
  cases ep : p sd own with
  | none => rw [ep] at e; cases e
  | some r0 =>
    rw [ep] at e
    refine ⟨r0, ep, ?_⟩
    cases r0 with
    | nx sd' own' => exact fun g' σ' H' R' S' e' => ⟨g', sd', own', R', S', r, e, k.shift e'⟩
    | rt s own' => cases e; exact k
    | bk sd' own' => cases e; exact k
    | ct sd' own' => cases e; exact k
    | ex c fs sd' own' => cases e; exact k
theorem rss_cons (h1 : PS X st (trS Y p)) (h2 : PSs X l (trS Y q)) : PSs X (st :: l) (trS Y (sSeq p q)) := PSs.imp (pss_cons h1 h2) fun D σ H h => seq_at h
theorem rss_one (h1 : PS X st (trS Y p)) : PSs X [st] (trS Y p) := pss_one h1
theorem rs_no : PS X st (trS Y sNo) := PS.imp ps_never fun D σ H q => by
  obtain ⟨gh, sd, own, R, S, r, e, k⟩ := q
  cases e
theorem rss_no : PSs X l (trS Y sNo) := PSs.imp pss_never fun D σ H q => by
  obtain ⟨gh, sd, own, R, S, r, e, k⟩ := q
  cases e
theorem re_no : PE X a (trE Y eNo) := ⟨fun pins s σ H Q I q => by
  obtain ⟨gh, sd, own, R, S, r, own', e, k⟩ := q
  cases e⟩
theorem rs_pass : PS X (.Pass pos) (trS Y sNil) := PS.imp ps_pass fun D σ H q => by
  obtain ⟨gh, sd, own, R, S, r, e, k⟩ := q
  cases e
  exact k gh σ H R S .rfl'
theorem rs_brk : PS X (.Break pos) (trS Y sBrk) := PS.imp ps_break fun D σ H q => by
  obtain ⟨gh, sd, own, R, S, r, e, k⟩ := q
  cases e
  exact k gh σ H R S .rfl'
theorem rs_cnt : PS X (.Continue pos) (trS Y sCnt) := PS.imp ps_continue fun D σ H q => by
  obtain ⟨gh, sd, own, R, S, r, e, k⟩ := q
  cases e
  exact k gh σ H R S .rfl'
theorem sat_nx {g' : Gh} {sd sd' : Sl} {own own' : Own} {Dn : Ends} {f : SM} (h : SAt Y g' sd own Dn f) (e : f sd own = some (.nx sd' own')) : ∀ g2 σ' H', HRel Y.T Y.B g2 own' H' → SRel Y.T g2 own'.length sd' σ' → GExt Y.B g' own.length g2 own'.length → Dn.nx σ' H' := by
  obtain ⟨r, e1, k⟩ := h
  rw [e] at e1
  cases e1
  exact k
theorem rs_expr (h : PE X a (trE Y f)) (hs : swapsWith a none pos.line X.env = pure false := by rfl) : PS X (.Expr a pos) (trS Y (sExpr f)) := PS.imp (ps_expr h hs) fun D σ H q => by
  obtain ⟨gh, sd, own, R, S, q⟩ := q
  refine s_bind R S q fun g1 o1 x v H1 R1 S1 e1 rx q1 => ?_
  exact sat_nx q1 rfl g1 σ H1 R1 S1 .rfl'
theorem rs_ret (h : PE X a (trE Y f)) : PS X (.Return (some a) pos) (trS Y (sRet f)) := PS.imp (ps_ret h) fun D σ H q => by
  obtain ⟨gh, sd, own, R, S, q⟩ := q
  refine s_bind R S q fun g1 o1 x v H1 R1 S1 e1 rx q1 => ?_
  obtain ⟨r, e, k⟩ := q1
  cases e
  exact k g1 v H1 R1 .rfl' rx
theorem rs_retN : PS X (.Return none pos) (trS Y sRetN) := PS.imp ps_retN fun D σ H q => by
  obtain ⟨gh, sd, own, R, S, r, e, k⟩ := q
  cases e
  exact k gh _ H R .rfl' .non
theorem rs_if (hc : PT X c (trT Y t)) (ha : PSs X l (trS Y p)) (hb : PSs X m (trS Y q)) : PS X (.If c l m pos) (trS Y (sIf t p q)) := PS.imp (ps_if hc ha hb) fun D σ H q => by
  obtain ⟨gh, sd, own, R, S, q⟩ := q
  refine s_bind R S q fun g1 o1 x v H1 R1 S1 e1 rx q1 => ?_
  obtain rfl : x = v := rx
  cases x with
  | true => rw [if_pos rfl]; exact ⟨g1, sd, o1, R1, S1, q1⟩
  | false => rw [if_neg (by decide)]; exact ⟨g1, sd, o1, R1, S1, q1⟩
theorem rs_set {i : Nat} {x : Str} {pos' : Pos} (hN : X.N.Nodup) (h : PE X a (trE Y f)) (hi : X.N[i]? = some x := by rfl) (hx : Loc X.env.scope x := by first | exact Or.inl rfl | exact Or.inr rfl) (hs : swapsWith a (some (.Name x pos')) pos.line X.env = pure false := by rfl)
    (hf : X.fn x = true ∨ X.env.scope.names.lookup x = some .local := by first | exact .inl rfl | exact .inr rfl) : PS X (.Assign [.Name x pos'] a pos) (trS Y (sSet i f)) := PS.imp (ps_set hN hi hx h hs hf) fun D σ H q => by
  obtain ⟨gh, sd, own, R, S, q⟩ := q
  refine s_bind R S q fun g1 o1 x v H1 R1 S1 e1 rx q1 => ?_
  exact sat_nx q1 rfl g1 _ H1 R1 (S1.set rx) .rfl'
theorem rs_par {i j : Nat} {x y : Str} {al : AM} {px py pt : Pos} {kt k2 pt2} (hN : X.N.Nodup) (ha : PA X [a, b] (trA Y al)) (hc : X.calm = true := by rfl) (hi : X.N[i]? = some x := by rfl) (hj : X.N[j]? = some y := by rfl) (hij : i ≠ j := by decide)
    (hx : X.env.scope.names.lookup x = some .local := by rfl) (hy : X.env.scope.names.lookup y = some .local := by rfl)
    (hw : swappedStores [.Tuple [.Name x px, .Name y py] kt pt] (.Tuple [a, b] k2 pt2) X.env = pure (some [x, y]) := by rfl)
    (hs : swapsWithSole [.Tuple [.Name x px, .Name y py] kt pt] (.Tuple [a, b] k2 pt2) pos.line X.env = pure false := by rfl) :
    PS X (.Assign [.Tuple [.Name x px, .Name y py] kt pt] (.Tuple [a, b] k2 pt2) pos) (trS Y (sPar [i, j] al)) := PS.imp (ps_par hc hN hi hj hij hx hy ha hw hs) fun D σ H q => by
  obtain ⟨gh, sd, own, R, S, q⟩ := q
  refine s_bind R S q fun g1 o1 xs vs H1 R1 S1 e1 rs q1 => ?_
  obtain ⟨r, e, k⟩ := q1
  match xs, rs, e with
  | [s1, s2], rs, e =>
    obtain ⟨v, w, rfl, r1, r2⟩ := rss2 rs
    cases e
    exact ⟨v, w, rfl, k g1 _ H1 R1 ((S1.set r1).set r2) .rfl'⟩
  | [], _, e => cases e
  | [_], _, e => cases e
  | _ :: _ :: _ :: _, _, e => cases e
theorem rs_par3 {i j k : Nat} {x y z : Str} {al : AM} {px py pz pt : Pos} {kt k2 pt2} (hN : X.N.Nodup) (ha : PA X [a, b, c] (trA Y al)) (hc : X.calm = true := by rfl) (hi : X.N[i]? = some x := by rfl) (hj : X.N[j]? = some y := by rfl) (hk : X.N[k]? = some z := by rfl) (hij : i ≠ j := by decide) (hik : i ≠ k := by decide) (hjk : j ≠ k := by decide)
    (hx : X.env.scope.names.lookup x = some .local := by rfl) (hy : X.env.scope.names.lookup y = some .local := by rfl) (hz : X.env.scope.names.lookup z = some .local := by rfl)
    (hw : swappedStores [.Tuple [.Name x px, .Name y py, .Name z pz] kt pt] (.Tuple [a, b, c] k2 pt2) X.env = pure (some [x, y, z]) := by rfl)
    (hs : swapsWithSole [.Tuple [.Name x px, .Name y py, .Name z pz] kt pt] (.Tuple [a, b, c] k2 pt2) pos.line X.env = pure false := by rfl) :
    PS X (.Assign [.Tuple [.Name x px, .Name y py, .Name z pz] kt pt] (.Tuple [a, b, c] k2 pt2) pos) (trS Y (sPar [i, j, k] al)) := PS.imp (ps_par3 hc hN hi hj hk hij hik hjk hx hy hz ha hw hs) fun D σ H q => by
  obtain ⟨gh, sd, own, R, S, q⟩ := q
  refine s_bind R S q fun g1 o1 xs vs H1 R1 S1 e1 rs q1 => ?_
  obtain ⟨r, e, k⟩ := q1
  match xs, rs, e with
  | [s1, s2, s3], rs, e =>
    obtain ⟨u, v, w, rfl, r1, r2, r3⟩ := rss3 rs
    cases e
    exact ⟨u, v, w, rfl, k g1 _ H1 R1 (((S1.set r1).set r2).set r3) .rfl'⟩
  | [], _, e => cases e
  | [_], _, e => cases e
  | [_, _], _, e => cases e
  | _ :: _ :: _ :: _ :: _, _, e => cases e
/-! several names -/
def gSets : List Nat → TGs
  | [] => gNil
  | i :: is => gCons (gName i) (gSets is)
theorem setL_rel {gh : Gh} {n : Nat} {Q : L2.St → Hp → Prop} {H : Hp} : ∀ {is : List Nat} {xs : List SV} {vs : List V} {sd sd' : Sl} {σ : L2.St}, RSs Y.T gh n xs vs → SRel Y.T gh n sd σ → setL is xs sd = some sd' →
    (∀ σ', SRel Y.T gh n sd' σ' → Q σ' H) → gSets is vs σ H Q
  | [], _, _, sd, sd', σ, .nil, S, e, k => by cases e; exact ⟨rfl, k σ S⟩
  | [], _, _, sd, sd', σ, .cons _ _, S, e, k => by cases e
  | i :: is, _, _, sd, sd', σ, .nil, S, e, k => by cases e
  | i :: is, _, _, sd, sd', σ, .cons h t, S, e, k => ⟨_, _, rfl, setL_rel t (S.set h) e k⟩
theorem reps_rss {gh : Gh} {n : Nat} : ∀ {ds : List D} {vs : List V}, Reps Y.T gh.F ds vs → RSs Y.T gh n (ds.map SV.d) vs
  | _, _, .nil => .nil
  | _, _, .cons h r => .cons h (reps_rss r)
/-- (a, b, ..) = a tuple of data -/
theorem rs_unp {is : List Nat} {es : List Expr} {n k : Nat} {pt : Pos} (h : PE X a (trE Y f)) (hg : PGs X es (gSets is)) (hn : is.length = n) (hc : X.calm = true := by rfl) (hn2 : (assignEach es X.env).length = n := by rfl) (hst : (assignEach es X.env).findIdx? (·.1) = none := by rfl)
    (hs : swapsWithSole [.Tuple es k pt] a pos.line X.env = pure false := by rfl) (hw : swappedStores [.Tuple es k pt] a X.env = pure none := by rfl) (h1 : (assignEach [.Tuple es k pt] X.env).map (·.2) = [assign (.Tuple es k pt) X.env] := by rfl) (hK : X.K = Y.T.K := by rfl) :
    PS X (.Assign [.Tuple es k pt] a pos) (trS Y (sUnp is f)) := PS.imp (ps_asg h (pg_tup hc hg hn2 hst) hs hw h1) fun D σ H q => by
  obtain ⟨gh, sd, own, R, S, q⟩ := q
  refine s_bind R S q fun g1 o1 x v H1 R1 S1 e1 rx q1 => ?_
  obtain ⟨r, e, k⟩ := q1
  cases x with
  | h kk => cases e
  | d x =>
    cases x with
    | tup ds =>
      obtain ⟨sd', e1, e2⟩ := Option.map_eq_some_iff.mp e
      subst e2
      have rx : Rep Y.T g1.F (.tup ds) v := rx
      cases rx with
      | @tup p vs _ h1 h2 =>
        refine ⟨p, vs, rfl, by rw [hK]; exact SqT.le R1.f h1, ?_, setL_rel (reps_rss h2) S1 e1 fun σ' S' => k g1 σ' H1 R1 S' .rfl'⟩
        rw [← h2.length, ← hn]
        have : ∀ {is : List Nat} {xs : List SV} {sd sd' : Sl}, setL is xs sd = some sd' → xs.length = is.length := by
          intro is
          induction is with
          | nil => intro xs sd sd' e; cases xs with
            | nil => rfl
            | cons _ _ => cases e
          | cons i is ih => intro xs sd sd' e; cases xs with
            | nil => cases e
            | cons x xs => rw [List.length_cons, List.length_cons, ih e]
        have := this e1
        rw [List.length_map] at this
        exact this
    | _ => cases e
theorem rs_aug {i : Nat} {x : Str} {op : Operator} {gg : Int → Int → Int} {pos' : Pos} (hN : X.N.Nodup) (ho : PIp X op (ipI gg)) (h : PE X a (trE Y f)) (hi : X.N[i]? = some x := by rfl) (hx : Loc X.env.scope x := by first | exact Or.inl rfl | exact Or.inr rfl)
    (hf : X.fn x = true ∨ X.env.scope.names.lookup x = some .local := by first | exact .inl rfl | exact .inr rfl) : PS X (.AugAssign (.Name x pos') op a pos) (trS Y (sAug gg i f)) := PS.imp (ps_aug hN hi hx h ho hf) fun D σ H q => by
  obtain ⟨gh, sd, own, R, S, r, e, k⟩ := q
  unfold sAug at e
  cases e0 : sd[i]? with
  | none => rw [e0] at e; cases e
  | some o =>
    rw [e0] at e
    cases o with
    | none => cases e
    | some s =>
      cases s with
      | h kk => cases e
      | d x =>
        cases x with
        | int n =>
          obtain ⟨v, ev, rv⟩ := S.2 i _ e0
          obtain rfl := sv_int rv
          refine ⟨_, ev, ?_⟩
          refine s_bind R S ⟨r, e, k⟩ fun g1 o1 y w H1 R1 S1 e1 ry q1 => ?_
          obtain ⟨r2, e2, k2⟩ := q1
          cases y with
          | h kk => cases e2
          | d y =>
            cases y with
            | int m =>
              cases e2
              exact ⟨n, m, rfl, sv_int ry, k2 g1 _ H1 R1 (S1.set (show RS Y.T g1 _ (.d (.int (gg n m))) (.int (gg n m)) from Rep.int _)) .rfl'⟩
            | _ => cases e2
        | _ => cases e
theorem rs_putL {po : Pos} {o i : Expr} {fo fi : EM} (ho : PE X o (trE Y fo)) (hi : PE X i (trE Y fi)) (hv : PE X a (trE Y f)) (hs : swapsWithSole [.Subscript o i po] a pos.line X.env = pure false := by rfl) (hw : swappedStores [.Subscript o i po] a X.env = pure none := by rfl)
    (h1 : (assignEach [.Subscript o i po] X.env).map (·.2) = [assign (.Subscript o i po) X.env] := by rfl)
    (ha : ∀ v, assign (.Subscript o i po) X.env v = (do
      let ov ← holding [v] (eval o X.env)
      let iv ← holding [v, ov] (eval i X.env)
      standAt po
      holding [v, ov, iv] (setItem ov iv v)
      release [v, ov, iv] []) := by intro _; rfl) : PS X (.Assign [.Subscript o i po] a pos) (trS Y (sPutL fo fi f)) := PS.imp (ps_asg hv (pg_sub ho hi set_list ha) hs hw h1) fun D σ H q => by
  obtain ⟨gh, sd, own, R, S, q⟩ := q
  refine s_bind R S q fun g1 o1 x v H1 R1 S1 e1 rx q1 => ?_
  refine s_bind R1 S1 q1 fun g2 o2 y w H2 R2 S2 e2 ry q2 => ?_
  refine s_bind R2 S2 q2 fun g3 o3 z u H3 R3 S3 e3 rz q3 => ?_
  have rx3 := (rx.ext e2).ext e3
  have ry3 := ry.ext e3
  obtain ⟨r, e, k⟩ := q3
  cases x with
  | h kk => cases e
  | d d =>
    obtain ⟨own', e4, e5⟩ := Option.map_eq_some_iff.mp e
    subst e5
    cases y with
    | d y => cases e4
    | h kk =>
      cases z with
      | h k2 => cases e4
      | d z =>
        cases z with
        | int i =>
          have e4 : (match o3[kk]? with | some (.lst xs) => (ixN xs.length i).map fun j => o3.set kk (.lst (xs.set j d)) | _ => none) = some own' := e4
          cases eo : o3[kk]? with
          | none => rw [eo] at e4; cases e4
          | some ob =>
            rw [eo] at e4
            cases ob with
            | lst xs =>
              obtain ⟨j, e6, e7⟩ := Option.map_eq_some_iff.mp e4
              subst e7
              obtain ⟨vs, h1, h2⟩ := R3.o kk _ eo
              have hw := ry3.2
              subst hw
              obtain rfl := sv_int rz
              refine ⟨g3.ρ kk, vs, i, j, rfl, rfl, h1, by rw [← h2.length]; exact e6, ?_⟩
              have R4 := R3.put (ho := .lst (vs.set j v)) (o' := .lst (xs.set j d)) eo rfl ⟨_, upd_same, h2.set j rx3⟩
              exact k g3 σ _ R4 (by rw [List.length_set]; exact S3) (by rw [List.length_set]; exact .rfl')
            | _ => cases e4
        | _ => cases e4
/-- a ghost's step: the list in slot i is frozen -/
def sFrz (i : Nat) (p : SM) : SM := fun sd own => match sd[i]? with
  | some (some (.h k)) => match own[k]? with
    | some (.lst xs) => p (sd.set i (some (.d (.lst xs)))) (own.set k .dead)
    | some (.dic ks xs) => p (sd.set i (some (.d (.dic ks xs)))) (own.set k .dead)
    | _ => none
  | _ => none
theorem set_same {α : Type} : ∀ {l : List α} {i : Nat} {x : α}, l[i]? = some x → l.set i x = l
  | [], _, _, h => by simp at h
  | _ :: _, 0, _, h => by simp at h; subst h; rfl
  | a :: l, i + 1, x, h => by
    rw [List.set_cons_succ, set_same (by simpa using h)]
theorem rss_frz (i : Nat) (h : PSs X l (trS Y p)) : PSs X l (trS Y (sFrz i p)) := PSs.imp h fun D σ H q => by
  obtain ⟨gh, sd, own, R, S, r, e, k⟩ := q
  unfold sFrz at e
  cases e0 : sd[i]? with
  | none => rw [e0] at e; cases e
  | some o =>
    rw [e0] at e
    cases o with
    | none => cases e
    | some s =>
      cases s with
      | d x => cases e
      | h kk =>
        obtain ⟨v, ev, rv⟩ := S.2 i _ e0
        have hv := rv.2
        subst hv
        cases eo : own[kk]? with
        | none => simp only [eo] at e; cases e
        | some ob =>
          cases ob with
          | lst xs =>
            simp only [eo] at e
            obtain ⟨vs, h1, h2⟩ := R.o kk _ eo
            obtain ⟨R2, e2⟩ := R.freeze eo rfl h1
            have S2 := (S.ext e2).set (i := i) (sv := .d (.lst xs)) (v := .ref (gh.ρ kk)) (Rep.lst upd_same (h2.le e2.F))
            rw [set_same ev] at S2
            exact ⟨_, _, _, R2, S2, r, e, k.shift e2⟩
          | dic ks xs =>
            simp only [eo] at e
            obtain ⟨kvs, h1, h2, h3⟩ := R.o kk _ eo
            obtain ⟨R2, e2⟩ := R.freeze eo rfl h1
            have S2 := (S.ext e2).set (i := i) (sv := .d (.dic ks xs)) (v := .ref (gh.ρ kk)) (Rep.dic (.inl upd_same) h2 (h3.le e2.F))
            rw [set_same ev] at S2
            exact ⟨_, _, _, R2, S2, r, e, k.shift e2⟩
          | _ => simp only [eo] at e; cases e
end
end Gx
end T_GxR6
section T_GxR7
set_option Elab.async false
set_option linter.all false
set_option maxRecDepth 100000
set_option maxHeartbeats 4000000
namespace Gx
open PySem PySem.Spec PyProof.Rows L2

/-! ## methods that change a list of one's own -/
abbrev MM := Own → List D → List SV → Option (D × List D)
def eMut (mm : MM) (f : EM) (a : AM) : EM := f.bind fun x => (M.ask fun own => lstV own x).bind fun _ => a.bind fun ys => fun _ own => match x with
  | .h k => match own[k]? with
    | some (.lst xs) => match mm own xs ys with
      | some (z, xs') => some (.ok (.d z), own.set k (.lst xs'))
      | none => none
    | _ => none
  | _ => none
def OMt (Y : Cy) (r : V → List V → Hp → VK → Prop) (mm : MM) : Prop := ∀ (gh : Gh) (own : Own) (H : Hp) (p : Addr) (xs : List D) (vs : List V) (ys : List SV) (ws : List V) (z : D) (xs' : List D) (Q : VK),
  HRel Y.T Y.B gh own H → H p = some (.lst vs) → Reps Y.T gh.F xs vs → RSs Y.T gh own.length ys ws → mm own xs ys = some (z, xs') →
  (∀ u vs', Reps Y.T gh.F xs' vs' → Rep Y.T gh.F z u → Q u (upd H p (.lst vs'))) → r (.ref p) ws H Q
theorem ask_at {α γ δ : Type} {Y : Cy} {relC : Gh → Nat → γ → δ → Prop} {gh : Gh} {sd : Sl} {own : Own} {σ : L2.St} {Q : δ → Hp → Prop} {f : Own → Option α} {k : α → M γ} (h : At Y relC gh sd own σ Q ((M.ask f).bind k)) : ∃ x, f own = some x ∧ At Y relC gh sd own σ Q (k x) := by
  obtain ⟨r, own', e, q⟩ := h
  unfold M.bind M.ask at e
  cases ef : f own with
  | none => simp only [ef] at e; cases e
  | some x => simp only [ef] at e; exact ⟨x, rfl, r, own', e, q⟩
theorem at_mut {Y : Cy} {K : PySem.W.Frag} {r : V → List V → Hp → VK → Prop} {mm : MM} {f : EM} {al : AM} (om : OMt Y r mm) {σ : L2.St} {H : Hp} {Q : VK} (q : trE Y (eMut mm f al) σ H Q) : tBM K "list" r (trE Y f) (trA Y al) σ H Q := by
  obtain ⟨gh, sd, own, R, S, q⟩ := q
  refine at_bind R S q fun g1 o1 x v H1 R1 S1 e1 rx q1 => ?_
  obtain ⟨xs0, ex0, q1⟩ := ask_at q1
  obtain ⟨a0, vs0, rfl, h0, _⟩ := lst_of R1 rx ex0
  refine ⟨.inl ⟨rfl, _, SqL.of h0⟩, ?_⟩
  refine at_bind R1 S1 q1 fun g2 o2 ys ws H2 R2 S2 e2 rs q2 => ?_
  obtain ⟨r0, own', e, k⟩ := q2
  cases x with
  | d x => cases e
  | h kk =>
    have rx2 := rx.ext e2
    cases eo : o2[kk]? with
    | none => simp only [eo] at e; cases e
    | some ob =>
      cases ob with
      | lst xs =>
        simp only [eo] at e
        cases em : mm o2 xs ys with
        | none => simp only [em] at e; cases e
        | some p =>
          obtain ⟨z, xs'⟩ := p
          simp only [em] at e
          cases e
          obtain ⟨vs, h1, h2⟩ := R2.o kk _ eo
          have ea : a0 = g2.ρ kk := V.ref.inj rx2.2
          subst ea
          refine om g2 o2 H2 (g2.ρ kk) xs vs ys ws z xs' Q R2 h1 h2 rs em fun u vs' r1 r2 => ?_
          have R4 := R2.put (ho := .lst vs') (o' := .lst xs') eo rfl ⟨_, upd_same, r1⟩
          exact k g2 u _ R4 (by rw [List.length_set]; exact .rfl') r2
      | _ => simp only [eo] at e; cases e
section
variable {X : Cx} {Y : Cy} {apos cpos : Pos} {o e : Expr} {es : List Expr} {name : Str} {id : String} {r : V → List V → Hp → VK → Prop} {mm : MM} {f : EM} {al : AM}
theorem r_mut (slot : Slot "list" name id) (hty : typeOf (.builtin id) = pure (.type "method_descriptor")) (hm : MtR X id r) (om : OMt Y r mm) (ho : PE X o (trE Y f)) (ha : PA X (e :: es) (trA Y al))
    (hbase : attributeBase o name X.env (eval o X.env) = eval o X.env := by rfl)
    (hfew : ((backTo cpos (starEach (e :: es) X.env)).all (fun x => !x.1) && (backToKw cpos (keywordEach [] X.env)).all (fun x => x.1.isSome)
      && decide ((e :: es).length + ([] : List Keyword).length + (if ([] : List Keyword).isEmpty then 0 else 1) < 30)) = true := by rfl)
    (hline : (apos.endLine == cpos.line) = true := by rfl) (hs : starEach (e :: es) X.env = (false, eval e X.env) :: starEach es X.env := by rfl) (hplain : (backTo cpos (starEach es X.env)).any (·.1) = false := by rfl) :
    PE X (.Call (.Attribute o name apos) (e :: es) [] cpos) (trE Y (eMut mm f al)) :=
  PE.imp (pe_bm PySem.F.plainAttrs_list slot hty hm ho ha hbase hfew hline hs hplain) fun _ _ _ q => at_mut om q
end
def mmApp : MM := fun _ xs ys => match ys with
  | [.d y] => if xs.length < sizeLine then some (.non, xs ++ [y]) else none
  | _ => none
theorem om_app {Y : Cy} : OMt Y rAppend mmApp := by
  intro gh own H p xs vs ys ws z xs' Q R h1 h2 rs e k
  match ys, rs, e with
  | [.d y], rs, e =>
    obtain ⟨w, rfl, rw'⟩ := rss1 rs
    have e : (if xs.length < sizeLine then some (D.non, xs ++ [y]) else none) = some (z, xs') := e
    by_cases c : xs.length < sizeLine
    · rw [if_pos c] at e
      cases e
      exact ⟨p, vs, w, rfl, rfl, h1, by rw [← h2.length]; exact c, k _ _ (h2.snoc rw') .non⟩
    · rw [if_neg c] at e; cases e
def mmExt : MM := fun own xs ys => match ys with
  | [y] => (lstV own y).bind fun zs => if xs.length + zs.length ≤ sizeLine then some (.non, xs ++ zs) else none
  | _ => none
theorem om_ext {Y : Cy} : OMt Y rExtend mmExt := by
  intro gh own H p xs vs ys ws z xs' Q R h1 h2 rs e k
  match ys, rs, e with
  | [y], rs, e =>
    obtain ⟨w, rfl, rw'⟩ := rss1 rs
    obtain ⟨zs, e1, e⟩ := Option.bind_eq_some_iff.mp e
    obtain ⟨b, us, rfl, h3, h4⟩ := lst_of R rw' e1
    by_cases c : xs.length + zs.length ≤ sizeLine
    · rw [if_pos c] at e
      cases e
      exact ⟨p, b, vs, us, rfl, rfl, h1, h3, by rw [← h2.length, ← h4.length]; exact c, k _ _ (h2.append h4) .non⟩
    · rw [if_neg c] at e; cases e
theorem Reps.eraseIdx {T : Tb} {F : Hp} : ∀ {ds : List D} {vs : List V} (i : Nat), Reps T F ds vs → Reps T F (ds.eraseIdx i) (vs.eraseIdx i)
  | _, _, _, .nil => .nil
  | _, _, 0, .cons _ t => t
  | _, _, i + 1, .cons h t => .cons h (t.eraseIdx i)
def mmPopAt : MM := fun _ xs ys => match ys with
  | [.d (.int i)] => if -(2 ^ 63) ≤ i ∧ i < 2 ^ 63 then (seqIndex? i xs.length).bind fun k => (xs[k]?).map fun y => (y, xs.eraseIdx k) else none
  | _ => none
theorem om_popAt {Y : Cy} : OMt Y rPopAt mmPopAt := by
  intro gh own H p xs vs ys ws z xs' Q R h1 h2 rs e k
  match ys, rs, e with
  | [.d (.int i)], rs, e =>
    obtain ⟨w, rfl, rw'⟩ := rss1 rs
    obtain rfl := sv_int rw'
    have e : (if -(2 ^ 63) ≤ i ∧ i < 2 ^ 63 then (seqIndex? i xs.length).bind fun k => (xs[k]?).map fun y => (y, xs.eraseIdx k) else none) = some (z, xs') := e
    by_cases c : -(2 ^ 63) ≤ i ∧ i < 2 ^ 63
    · rw [if_pos c] at e
      obtain ⟨j, e1, e⟩ := Option.bind_eq_some_iff.mp e
      obtain ⟨y, e2, e3⟩ := Option.map_eq_some_iff.mp e
      cases e3
      obtain ⟨v, e4, r4⟩ := h2.get e2
      exact ⟨p, vs, i, j, v, rfl, rfl, h1, c.1, c.2, by rw [← h2.length]; exact e1, e4, k _ _ (h2.eraseIdx j) r4⟩
    · rw [if_neg c] at e; cases e

/-! ## for -/
abbrev IM := M (List D)
/-- what an iterator yields -/
structure Walks (T : Tb) (J : It) (g0 : Gh) (xs : List D) : Prop where
  go : ∀ (B : Hp) (i : Nat) (g : Gh) (own : Own) (H : Hp), HRel T B g own H → Le g0.F g.F → i < xs.length → J.go i H
  stop : ∀ (B : Hp) (i : Nat) (g : Gh) (own : Own) (H : Hp), HRel T B g own H → Le g0.F g.F → xs.length ≤ i → J.stop i H
  yld : ∀ (B : Hp) (i : Nat) (g : Gh) (own : Own) (H : Hp) (x : V) (H' : Hp) (d : D), HRel T B g own H → Le g0.F g.F → J.yld i H x H' → xs[i]? = some d →
    ∃ g2, HRel T B g2 own H' ∧ GExt B g own.length g2 own.length ∧ Rep T g2.F d x
def trI (Y : Cy) (f : IM) : TI := trM Y (fun g _ xs J => Walks Y.T J g xs) f
theorem PI.imp {X : Cx} {tg e : Expr} {t t' : TI} (h : PI X tg e t) (i : ∀ σ H Q, t' σ H Q → t σ H Q) : PI X tg e t' := ⟨fun pins s σ H Q I q => h.run pins s σ H Q I (i σ H Q q)⟩
theorem PI.or {X : Cx} {tg e : Expr} {t t' : TI} (h : PI X tg e t) (h' : PI X tg e t') : PI X tg e (fun σ H Q => t σ H Q ∨ t' σ H Q) := ⟨fun pins s σ H Q I q => q.elim (h.run pins s σ H Q I) (h'.run pins s σ H Q I)⟩
/-- a list or a tuple of data -/
def iSeq (f : EM) : IM := f.bind fun x => match x with
  | .d (.lst xs) => M.ret xs
  | .d (.tup xs) => M.ret xs
  | _ => M.fail
section
variable {X : Cx} {Y : Cy} {tg a b c : Expr} {f : EM}
theorem at_all {α β : Type} {rel : Gh → Nat → α → β → Prop} {ff : M α} {gh : Gh} {sd : Sl} {own : Own} {σ : L2.St} {H : Hp} {Q Q' : β → Hp → Prop} (R : HRel Y.T Y.B gh own H) (S : SRel Y.T gh own.length sd σ) (h : At Y rel gh sd own σ Q ff) (i : ∀ v H, Q v H → Q' v H) : trM Y rel ff σ H Q' := by
  obtain ⟨r, own', e, q⟩ := h
  refine ⟨gh, sd, own, R, S, r, own', e, ?_⟩
  cases r with
  | ok x => exact fun g' v H' R' e' rx => i _ _ (q g' v H' R' e' rx)
  | ex k fs => exact q
theorem ri_seq (h : PE X a (trE Y f)) (hK : X.K = Y.T.K := by rfl) : PI X tg a (trI Y (iSeq f)) := by
  refine PI.imp (PI.or (pi_list h) (pi_tup h)) fun σ H Q q => ?_
  obtain ⟨gh, sd, own, R, S, q⟩ := q
  obtain ⟨r, own', e, q0⟩ := id q
  unfold iSeq M.bind at e
  cases ef : f sd own with
  | none => rw [ef] at e; cases e
  | some p =>
    obtain ⟨r0, o1⟩ := p
    rw [ef] at e
    cases r0 with
    | ex k fs => cases e; exact .inl ⟨gh, sd, own, R, S, _, _, ef, q0⟩
    | ok x =>
      cases x with
      | h k => cases e
      | d x =>
        cases x with
        | lst xs =>
          cases e
          refine .inl ⟨gh, sd, own, R, S, _, _, ef, fun g' v H' R' e' rx => ?_⟩
          have rx : Rep Y.T g'.F (.lst xs) v := rx
          cases rx with
          | @lst p vs _ h1 h2 =>
            rw [hK]
            refine ⟨p, rfl, ⟨vs, SqL.of (R'.f _ _ h1)⟩, q0 g' _ H' R' e' ⟨fun _ i g own H R l hi => ?_, fun _ i g own H R l hi => ?_, fun _ i g own H x H2 d R l y hd => ?_⟩⟩
            · obtain ⟨v, hv⟩ : ∃ v, vs[i]? = some v := ⟨vs[i]'(by rw [← h2.length]; exact hi), by simp⟩
              exact ⟨vs, v, SqL.of (R.f _ _ (l _ _ h1)), hv⟩
            · exact ⟨vs, SqL.of (R.f _ _ (l _ _ h1)), by rw [← h2.length]; exact hi⟩
            · obtain ⟨e1, e2⟩ := y
              subst e1
              obtain ⟨v, hv, rv⟩ := h2.get hd
              have := e2 vs (SqL.of (R.f _ _ (l _ _ h1)))
              rw [hv] at this
              cases this
              exact ⟨g, R, .rfl', rv.le l⟩
        | tup xs =>
          cases e
          refine .inr ⟨gh, sd, own, R, S, _, _, ef, fun g' v H' R' e' rx => ?_⟩
          have rx : Rep Y.T g'.F (.tup xs) v := rx
          cases rx with
          | @tup p vs _ h1 h2 =>
            rw [hK]
            refine ⟨p, rfl, ⟨vs, SqT.le R'.f h1⟩, q0 g' _ H' R' e' ⟨fun _ i g own H R l hi => ?_, fun _ i g own H R l hi => ?_, fun _ i g own H x H2 d R l y hd => ?_⟩⟩
            · obtain ⟨v, hv⟩ : ∃ v, vs[i]? = some v := ⟨vs[i]'(by rw [← h2.length]; exact hi), by simp⟩
              exact ⟨vs, v, SqT.le R.f (SqT.le l h1), hv⟩
            · exact ⟨vs, SqT.le R.f (SqT.le l h1), by rw [← h2.length]; exact hi⟩
            · obtain ⟨e1, e2⟩ := y
              subst e1
              obtain ⟨v, hv, rv⟩ := h2.get hd
              have := e2 vs (SqT.le R.f (SqT.le l h1))
              rw [hv] at this
              cases this
              exact ⟨g, R, .rfl', rv.le l⟩
        | _ => cases e
/-- range: the items -/
def rgD (a : Int) (n : Nat) : List D := (List.range n).map fun i => .int (a + (i : Nat))
def rgOk (a b : Int) : Bool := decide (-(2 ^ 62) ≤ a ∧ a < 2 ^ 62 ∧ -(2 ^ 62) ≤ b ∧ b < 2 ^ 62)
def iRg1 (a : AM) : IM := a.bind fun xs => match xs with
  | [.d (.int j)] => if rgOk 0 j = true then M.ret (rgD 0 j.toNat) else M.fail
  | _ => M.fail
def iRg2 (a : AM) : IM := a.bind fun xs => match xs with
  | [.d (.int i), .d (.int j)] => if rgOk i j = true then M.ret (rgD i (j - i).toNat) else M.fail
  | _ => M.fail
theorem walks_rg {g0 : Gh} {lo : Int} {n : Nat} : Walks Y.T (Itr lo n) g0 (rgD lo n) := by
  have hl : (rgD lo n).length = n := by unfold rgD; simp
  refine ⟨fun _ i g own H R l hi => by rw [hl] at hi; exact hi, fun _ i g own H R l hi => by rw [hl] at hi; exact hi, fun _ i g own H x H2 d R l y hd => ?_⟩
  obtain ⟨e1, e2⟩ := y
  subst e1 e2
  unfold rgD at hd
  rw [List.getElem?_map] at hd
  have hi : i < n := by
    by_cases c : i < n
    · exact c
    · rw [List.getElem?_eq_none (by simp; omega)] at hd; cases hd
  rw [List.getElem?_range hi] at hd
  cases hd
  exact ⟨g, R, .rfl', .int _⟩
theorem ri_rg1 {p pos : Pos} {al : AM} (hm : X.mg "range" = none) (ha : PA X [a] (trA Y al)) (hg : Gl X "range" := by rfl) (hs : starEach [a] X.env = [(false, eval a X.env)] := by rfl) : PI X tg (.Call (.Name "range" p) [a] [] pos) (trI Y (iRg1 al)) := by
  refine PI.imp (pi_range1 hg hm ha hs) fun σ H Q q => ?_
  obtain ⟨gh, sd, own, R, S, q⟩ := q
  refine at_bind R S q fun g1 o1 xs vs H1 R1 S1 e1 rs q1 => ?_
  match xs, rs, q1 with
  | [.d (.int j)], rs, q1 =>
    obtain ⟨v, rfl, rv⟩ := rss1 rs
    obtain rfl := sv_int rv
    have q1 : At Y _ g1 sd o1 σ Q (if rgOk 0 j = true then M.ret (rgD 0 j.toNat) else M.fail) := q1
    by_cases c : rgOk 0 j = true
    · rw [if_pos c] at q1
      obtain ⟨c1, c2, c3, c4⟩ := of_decide_eq_true c
      exact ⟨j, rfl, c3, c4, at_ret q1 g1 _ H1 R1 .rfl' walks_rg⟩
    · rw [if_neg c] at q1; exact (at_fail q1).elim
theorem ri_rg2 {p pos : Pos} {al : AM} (hm : X.mg "range" = none) (ha : PA X [a, b] (trA Y al)) (hg : Gl X "range" := by rfl) (hs : starEach [a, b] X.env = [(false, eval a X.env), (false, eval b X.env)] := by rfl) (hs2 : starEach [b] X.env = [(false, eval b X.env)] := by rfl) : PI X tg (.Call (.Name "range" p) [a, b] [] pos) (trI Y (iRg2 al)) := by
  refine PI.imp (pi_range2 hg hm ha hs hs2) fun σ H Q q => ?_
  obtain ⟨gh, sd, own, R, S, q⟩ := q
  refine at_bind R S q fun g1 o1 xs vs H1 R1 S1 e1 rs q1 => ?_
  match xs, rs, q1 with
  | [.d (.int i), .d (.int j)], rs, q1 =>
    obtain ⟨v, w, rfl, rv, rw'⟩ := rss2 rs
    obtain rfl := sv_int rv
    obtain rfl := sv_int rw'
    have q1 : At Y _ g1 sd o1 σ Q (if rgOk i j = true then M.ret (rgD i (j - i).toNat) else M.fail) := q1
    by_cases c : rgOk i j = true
    · rw [if_pos c] at q1
      exact ⟨i, j, rfl, of_decide_eq_true c, at_ret q1 g1 _ H1 R1 .rfl' walks_rg⟩
    · rw [if_neg c] at q1; exact (at_fail q1).elim
end
/-- a target -/
abbrev GM := D → Sl → Option Sl
def tgN (i : Nat) : GM := fun d sd => some (sd.set i (some (.d d)))
def tgU (is : List Nat) : GM := fun d sd => match d with
  | .tup ds => setL is (ds.map SV.d) sd
  | _ => none
/-- only the slots at is differ -/
def Upd (is : List Nat) (σ σ' : L2.St) : Prop := σ'.length = σ.length ∧ ∀ j, j ∉ is → σ'[j]? = σ[j]?
theorem Upd.rfl' {is : List Nat} {σ : L2.St} : Upd is σ σ := ⟨rfl, fun _ _ => rfl⟩
def OG (T : Tb) (gg : TG) (tg : GM) (is : List Nat) : Prop := ∀ (B : Hp) (gh : Gh) (own : Own) (H : Hp) (d : D) (v : V) (sd sd' : Sl) (σ : L2.St) (Q : L2.St → Hp → Prop),
  HRel T B gh own H → Rep T gh.F d v → SRel T gh own.length sd σ → tg d sd = some sd' → (∀ σ', SRel T gh own.length sd' σ' → Upd is σ σ' → Q σ' H) → gg v σ H Q
theorem og_n {T : Tb} (i : Nat) : OG T (gName i) (tgN i) [i] := by
  intro B gh own H d v sd sd' σ Q R r S e k
  cases e
  exact k _ (S.set r) ⟨by simp, fun j hj => List.getElem?_set_ne (fun z => hj (by rw [z]; exact List.mem_singleton.mpr rfl))⟩
theorem setL_len : ∀ {is : List Nat} {xs : List SV} {sd sd' : Sl}, setL is xs sd = some sd' → xs.length = is.length := by
  intro is
  induction is with
  | nil => intro xs sd sd' e; cases xs with
    | nil => rfl
    | cons _ _ => cases e
  | cons i is ih => intro xs sd sd' e; cases xs with
    | nil => cases e
    | cons x xs => rw [List.length_cons, List.length_cons, ih e]
theorem setL_relU {T : Tb} {gh : Gh} {n : Nat} {Q : L2.St → Hp → Prop} {H : Hp} : ∀ {is : List Nat} {xs : List SV} {vs : List V} {sd sd' : Sl} {σ : L2.St}, RSs T gh n xs vs → SRel T gh n sd σ → setL is xs sd = some sd' →
    (∀ σ', SRel T gh n sd' σ' → Upd is σ σ' → Q σ' H) → gSets is vs σ H Q
  | [], _, _, sd, sd', σ, .nil, S, e, k => by cases e; exact ⟨rfl, k σ S .rfl'⟩
  | [], _, _, sd, sd', σ, .cons _ _, S, e, k => by cases e
  | i :: is, _, _, sd, sd', σ, .nil, S, e, k => by cases e
  | i :: is, _, _, sd, sd', σ, .cons h t, S, e, k => ⟨_, _, rfl, setL_relU t (S.set h) e fun σ' S' u => k σ' S' ⟨by rw [u.1]; simp, fun j hj => by
      rw [List.mem_cons, not_or] at hj
      rw [u.2 j hj.2, List.getElem?_set_ne (fun z => hj.1 z.symm)]⟩⟩
theorem og_u {T : Tb} (is : List Nat) : OG T (gTup T.K is.length (gSets is)) (tgU is) is := by
  intro B gh own H d v sd sd' σ Q R r S e k
  cases d with
  | tup ds =>
    have e : setL is (ds.map SV.d) sd = some sd' := e
    cases r with
    | @tup p vs _ h1 h2 =>
      have hl := setL_len e
      rw [List.length_map] at hl
      exact ⟨p, vs, rfl, SqT.le R.f h1, by rw [← h2.length, hl], setL_relU (reps_rss (Y := ⟨T, B, fun _ _ _ _ => True⟩) h2) S e k⟩
  | _ => cases e
def forL (tg : GM) (body : SM) : List D → SM
  | [] => sNil
  | x :: xs => fun sd own => match tg x sd with
    | none => none
    | some sd1 => match body sd1 own with
      | some (.nx sd2 own2) => forL tg body xs sd2 own2
      | some (.ct sd2 own2) => forL tg body xs sd2 own2
      | some (.bk sd2 own2) => some (.nx sd2 own2)
      | r => r
def sFor (src : IM) (tg : GM) (body : SM) : SM := SM.bind src fun xs => forL tg body xs
theorem rs_for {X : Cx} {Y : Cy} {t iter : Expr} {body : List Stmt} {pos : Pos} {src : IM} {tg : GM} {gg : TG} {is : List Nat} {p : SM} (hp : PassesOwn (model X.prog X.w) X.A X.env X.xe) (hi : PI X t iter (trI Y src)) (hg : PG X t gg) (og : OG Y.T gg tg is) (hb : PSs X body (trS Y p)) (hc : X.calm = true := by rfl)
    (hs : ∀ x, foldedSetIterable iter X.env x = pure x := by intro _; rfl) : PS X (.For t iter body [] pos) (trS Y (sFor src tg p)) := PS.imp (ps_for hp hc hi hg hb hs) fun Dn σ H q => by
  obtain ⟨gh, sd, own, R, S, q⟩ := q
  refine s_bind R S q fun g1 o1 xs J H1 R1 S1 e1 wk q1 => ?_
  refine ⟨fun i m σ H => m = xs.length - i ∧ i ≤ xs.length ∧ ∃ g2 sd2 o2, HRel Y.T Y.B g2 o2 H ∧ SRel Y.T g2 o2.length sd2 σ ∧ Le g1.F g2.F ∧ SAt Y g2 sd2 o2 Dn (forL tg p (xs.drop i)), ⟨xs.length, by omega, Nat.zero_le _, g1, sd, o1, R1, S1, .rfl', by rw [List.drop_zero]; exact q1⟩, ?_⟩
  rintro i m σ2 H2 ⟨rfl, hi, g2, sd2, o2, R2, S2, l2, q2⟩
  by_cases c : i < xs.length
  · refine .inr ⟨wk.go _ i g2 o2 H2 R2 l2 c, fun σ' H' => i + 1 ≤ xs.length ∧ ∃ g2 sd2 o2, HRel Y.T Y.B g2 o2 H' ∧ SRel Y.T g2 o2.length sd2 σ' ∧ Le g1.F g2.F ∧ SAt Y g2 sd2 o2 Dn (forL tg p (xs.drop (i + 1))),
      fun σ' H' w => ⟨xs.length - (i + 1), by omega, rfl, w⟩, fun x H' y => ?_⟩
    have hx : xs[i]? = some xs[i] := by simp [c]
    obtain ⟨g3, R3, e3, r3⟩ := wk.yld _ i g2 o2 H2 x H' xs[i] R2 l2 y hx
    rw [List.drop_eq_getElem_cons c] at q2
    obtain ⟨r, er, k⟩ := q2
    have l3 := l2.trans e3.F
    have S3 := S2.ext e3
    have k3 := k.shift e3
    unfold forL at er
    cases et : tg xs[i] sd2 with
    | none => simp only [et] at er; cases er
    | some sd3 =>
      simp only [et] at er
      refine og _ g3 o2 H' xs[i] x sd2 sd3 σ2 _ R3 r3 S3 et fun σ3 S4 _ => ?_
      cases eb : p sd3 o2 with
      | none => simp only [eb] at er; cases er
      | some rb =>
        simp only [eb] at er
        refine ⟨g3, sd3, o2, R3, S4, rb, eb, ?_⟩
        cases rb with
        | nx sd5 o5 => exact fun g5 σ5 H5 R5 S5 e5 => ⟨c, g5, sd5, o5, R5, S5, l3.trans e5.F, r, er, k3.shift e5⟩
        | ct sd5 o5 => exact fun g5 σ5 H5 R5 S5 e5 => ⟨c, g5, sd5, o5, R5, S5, l3.trans e5.F, r, er, k3.shift e5⟩
        | bk sd5 o5 => cases er; exact k3
        | rt s o5 => cases er; exact k3
        | ex cc fs sd5 o5 => cases er; exact k3
  · have e : i = xs.length := by omega
    subst e
    rw [List.drop_length] at q2
    exact .inl ⟨wk.stop _ _ g2 o2 H2 R2 l2 (Nat.le_refl _), sat_nx q2 rfl g2 σ2 H2 R2 S2 .rfl'⟩

/-! ## while -/
def whL (c : TM) (body : SM) : Nat → SM
  | 0 => sNo
  | n + 1 => SM.bind c fun b => match b with
    | false => sNil
    | true => fun sd own => match body sd own with
      | some (.nx sd2 own2) => whL c body n sd2 own2
      | some (.ct sd2 own2) => whL c body n sd2 own2
      | some (.bk sd2 own2) => some (.nx sd2 own2)
      | r => r
theorem rs_wh {X : Cx} {Y : Cy} {c : Expr} {body : List Stmt} {pos : Pos} {t : TM} {p : SM} (n : Nat) (hp : PassesOwn (model X.prog X.w) X.A X.env X.xe) (hc : PT X c (trT Y t)) (hb : PSs X body (trS Y p)) : PS X (.While c body [] pos) (trS Y (whL t p n)) := PS.imp (ps_while hp hc hb) fun Dn σ H q => by
  refine ⟨fun m σ H => trS Y (whL t p m) Dn σ H, ⟨n, q⟩, ?_⟩
  rintro m σ1 H1 ⟨gh, sd, own, R, S, q⟩
  cases m with
  | zero => obtain ⟨r, e, k⟩ := q; cases e
  | succ m =>
    refine s_bind R S q fun g1 o1 b b' H2 R1 S1 e1 rb q1 => ?_
    obtain rfl : b = b' := rb
    cases b with
    | false => rw [if_neg (by decide)]; exact sat_nx q1 rfl g1 σ1 H2 R1 S1 .rfl'
    | true =>
      rw [if_pos rfl]
      refine ⟨fun σ' H' => trS Y (whL t p m) Dn σ' H', fun σ' H' w => ⟨m, Nat.lt_succ_self m, w⟩, ?_⟩
      obtain ⟨r, er, k⟩ := q1
      have er : (match p sd o1 with | some (.nx sd2 own2) => whL t p m sd2 own2 | some (.ct sd2 own2) => whL t p m sd2 own2 | some (.bk sd2 own2) => some (.nx sd2 own2) | r => r) = some r := er
      cases eb : p sd o1 with
      | none => rw [eb] at er; cases er
      | some rb =>
        rw [eb] at er
        refine ⟨g1, sd, o1, R1, S1, rb, eb, ?_⟩
        cases rb with
        | nx sd5 o5 => exact fun g5 σ5 H5 R5 S5 e5 => ⟨g5, sd5, o5, R5, S5, r, er, k.shift e5⟩
        | ct sd5 o5 => exact fun g5 σ5 H5 R5 S5 e5 => ⟨g5, sd5, o5, R5, S5, r, er, k.shift e5⟩
        | bk sd5 o5 => cases er; exact k
        | rt s o5 => cases er; exact k
        | ex cc fs sd5 o5 => cases er; exact k
end Gx
end T_GxR7
section T_GxR8
set_option Elab.async false
set_option linter.all false
set_option maxRecDepth 100000
set_option maxHeartbeats 4000000
namespace Gx
open PySem PySem.Spec PyProof.Rows L2

/-! ## defs and calls -/
abbrev FM := List SV → Own → Option (Rz SV × Own)
def startD (N : Nat) (xs : List SV) : Sl := xs.map some ++ List.replicate (N - xs.length) none
def runDef (N : Nat) (body : SM) : FM := fun xs own => match body (startD N xs) own with
  | some (.rt s own') => some (.ok s, own')
  | some (.nx _ own') => some (.ok (.d .non), own')
  | some (.ex c fs _ own') => some (.ex c fs, own')
  | _ => none
/-- a def's promise -/
def spF (T : Tb) (n : Nat) (Ff : FM) : Sp := fun vs H Q E => ∃ (B : Hp) (g : Gh) (own : Own) (xs : List SV), HRel T B g own H ∧ RSs T g own.length xs vs ∧ xs.length = n ∧ ∃ r own', Ff xs own = some (r, own') ∧
  ROk ⟨T, B, fun _ => E⟩ (RS T) g own.length [] own' Q r
theorem srel_start {T : Tb} {g : Gh} {n : Nat} {N : List Str} {xs : List SV} {vs : List V} (r : RSs T g n xs vs) : SRel T g n (startD N.length xs) (L2.start N vs) := by
  have hl := r.length
  refine ⟨by unfold startD L2.start; simp [hl], fun i s e => ?_⟩
  unfold startD at e
  unfold L2.start
  by_cases c : i < xs.length
  · rw [List.getElem?_append_left (by simpa using c), List.getElem?_map] at e
    obtain ⟨s0, e1, e2⟩ := Option.map_eq_some_iff.mp e
    cases e2
    obtain ⟨v, e3, r3⟩ := r.get e1
    exact ⟨v, by rw [List.getElem?_append_left (by rw [List.length_map, ← hl]; exact c), List.getElem?_map, e3]; rfl, r3⟩
  · rw [List.getElem?_append_right (by simpa using c)] at e
    rw [List.getElem?_replicate] at e
    split at e
    · cases e
    · cases e
theorem def_ok {P : Program} {w : World} {K : PySem.W.Frag} {mg : Str → Option Value} {base : Heap} {x qual : Str} {st : Stmt} {f : Addr} {fd : FuncData} {N ps : List Str} {k n : Nat} {T : Tb} {body : SM}
    (F : Fun K x qual st f fd) (S : FnScope N ps (defScope st)) (hn : ps.length = n)
    (h : ∀ (cdv : Value) (A : Around) (outer : List Env) (s : Shared) (H : Hp) (E : XK) (B : Hp), Room k (A.deeper (envOfC qual (defScope st) s.heap.objs.size f cdv)) →
      PSs (cxOf (L2.CX P w) P w K mg base N qual (defScope st) f cdv A outer s H E) (defBody st) (trS ⟨T, B, fun _ => E⟩ body)) :
    FnOk P w K mg base (L2.CX P w) (k + 1) f fd ps (spF T n (runDef N.length body)) := by
  refine F.okX S (fun vs H Q E h => ?_) (fun cdv A outer s H vs Q E hr hs => ?_)
  · obtain ⟨B, g, own, xs, R, rs, hl, _⟩ := h
    rw [← rs.length, hl, hn]
  · obtain ⟨B, g, own, xs, R, rs, hl, r, own', e, q⟩ := hs
    refine ⟨_, h cdv A outer s H E B hr, g, startD N.length xs, own, R, srel_start rs, ?_⟩
    unfold runDef at e
    cases eb : body (startD N.length xs) own with
    | none => rw [eb] at e; cases e
    | some rb =>
      rw [eb] at e
      refine ⟨rb, eb, ?_⟩
      cases rb with
      | rt s o => cases e; exact q
      | nx sd o => cases e; exact fun g' σ' H' R' S' e' => q g' .non H' R' e' (Rep.non)
      | ex c fs sd o => cases e; exact fun g' σ' d H' R' S' e' x => q g' d H' R' e' x
      | bk sd o => cases e
      | ct sd o => cases e
/-- a def as it is called -/
structure Cal (P : Program) (w : World) (K : PySem.W.Frag) (mg : Str → Option Value) (base : Heap) (T : Tb) (k : Nat) (x : Str) (n : Nat) (Ff : FM) : Prop where
  ex : ∃ (f : Addr) (fd : FuncData) (ps : List Str), mg x = some (.ref f) ∧ PySem.W.keepIn K (.ref f) = true ∧ Binds K fd ps [] ∧ FnOk P w K mg base (L2.CX P w) k f fd ps (spF T n Ff)
theorem Cal.of {P : Program} {w : World} {K : PySem.W.Frag} {mg : Str → Option Value} {base : Heap} {T : Tb} {k n : Nat} {x : Str} {Ff : FM} {f : Addr} {fd : FuncData} {ps : List Str} (hm : mg x = some (.ref f)) (hk : PySem.W.keepIn K (.ref f) = true) (hb : Binds K fd ps [])
    (F : FnOk P w K mg base (L2.CX P w) k f fd ps (spF T n Ff)) : Cal P w K mg base T k x n Ff := ⟨f, fd, ps, hm, hk, hb, F⟩

/-! ### what a call does to the caller's objects -/
/-- a frozen object -/
def allD : List SV → Option (List D)
  | [] => some []
  | .d x :: r => (allD r).map (x :: ·)
  | .h _ :: _ => none
def frzO : O → Option D
  | .lst xs => some (.lst xs)
  | .dic ks xs => some (.dic ks xs)
  | .ins c vs => if (flds c).length = vs.length then (allD vs).map fun ds => .obj c ds else none
  | .dead => none
/-- the result of a callee without objects of ours, as data -/
def resD (own' : Own) : SV → Option D
  | .d z => some z
  | .h k => (own'[k]?).bind frzO
def callD (n : Nat) (Ff : FM) (xs : List SV) : EM := fun _ own => if xs.length ≠ n then none else match dats xs with
  | none => none
  | some _ => match Ff xs [] with
    | some (.ok s, own') => match resD own' s with
      | some z => some (.ok (.d z), own)
      | none => none
    | some (.ex c fs, _) => some (.ex c fs, own)
    | none => none
def eCallD (n : Nat) (Ff : FM) (a : AM) : EM := a.bind fun xs => callD n Ff xs
section
variable {T : Tb} {g : Gh} {n : Nat}
theorem allD_rel : ∀ {vs : List SV} {ws : List V} {ds : List D}, RSs T g n vs ws → allD vs = some ds → Reps T g.F ds ws
  | _, _, _, .nil, e => by cases e; exact .nil
  | _, _, ds, .cons (s := s) h r, e => by
    cases s with
    | d x =>
      have e : (allD _).map (x :: ·) = some ds := e
      obtain ⟨es, e1, e2⟩ := Option.map_eq_some_iff.mp e
      subst e2
      exact .cons h (allD_rel r e1)
    | h k => cases e
/-- an own object frozen is data -/
theorem frz_rel {B : Hp} {own : Own} {H : Hp} {k : Nat} {o : O} {d : D} (R : HRel T B g own H) (hk : own[k]? = some o) (e : frzO o = some d) : ∃ ho, H (g.ρ k) = some ho ∧ Rep T (L2.upd g.F (g.ρ k) ho) d (.ref (g.ρ k)) := by
  have at_ := R.o k o hk
  cases o with
  | dead => cases e
  | lst xs =>
    cases e
    obtain ⟨vs, h1, h2⟩ := at_
    have hF := (R.nb k _ hk rfl).2
    exact ⟨_, h1, .lst upd_same (h2.le (Le.upd hF))⟩
  | dic ks xs =>
    cases e
    obtain ⟨kvs, h1, h2, h3⟩ := at_
    have hF := (R.nb k _ hk rfl).2
    exact ⟨_, h1, .dic (.inl upd_same) h2 (h3.le (Le.upd hF))⟩
  | ins c vs =>
    have e : (if (flds c).length = vs.length then (allD vs).map fun ds => D.obj c ds else none) = some d := e
    by_cases cc : (flds c).length = vs.length
    · rw [if_pos cc] at e
      obtain ⟨ds, e1, e2⟩ := Option.map_eq_some_iff.mp e
      subst e2
      obtain ⟨dx, ws, h1, h2, h3⟩ := at_
      have hF := (R.nb k _ hk rfl).2
      exact ⟨_, h1, .obj upd_same (by rw [cc]; exact h3.length) ((allD_rel h3 e1).le (Le.upd hF))⟩
    · rw [if_neg cc] at e; cases e
theorem frzO_live {o : O} {d : D} (e : frzO o = some d) : o.live = true := by
  cases o <;> first | rfl | cases e
end
/-- the caller's ghost behind a callee that changed nothing of ours: F' is what the callee knows frozen -/
theorem HRel.after {T : Tb} {B : Hp} {g : Gh} {own : Own} {H H' : Hp} {F' : Hp} (R : HRel T B g own H) (hH : Le H H') (hF : Le g.F F') (hF' : Le F' H') (fb : ∀ a o, F' a = some o → g.F a = some o ∨ H a = none) :
    HRel T B ⟨F', g.ρ⟩ own H' ∧ GExt B g own.length ⟨F', g.ρ⟩ own.length := by
  have ext : GExt B g own.length ⟨F', g.ρ⟩ own.length := ⟨Nat.le_refl _, hF, fun _ _ => rfl, fun a o e => by
    rcases fb a o e with h | h
    · exact .inl h
    · exact .inr (R.free h).1⟩
  refine ⟨⟨R.b.trans hH, hF', fun k o hk => ?_, fun k o hk hl => ⟨(R.nb k o hk hl).1, ?_⟩, R.inj⟩, ext⟩
  · refine ((R.o k o hk).ext ext).heap fun hl => ?_
    obtain ⟨ho, e⟩ := (R.o k o hk).there hl
    show H' (g.ρ k) = H (g.ρ k)
    rw [e]; exact hH _ _ e
  · show F' (g.ρ k) = none
    cases e : F' (g.ρ k) with
    | none => rfl
    | some o2 =>
      obtain ⟨ho, eh⟩ := (R.o k o hk).there hl
      rcases fb _ _ e with h | h
      · rw [(R.nb k o hk hl).2] at h; cases h
      · rw [eh] at h; cases h
/-- a callee started without objects of ours -/
theorem hrel_fresh {T : Tb} {F H : Hp} {ρ : Nat → Addr} (l : Le F H) : HRel T H ⟨F, ρ⟩ [] H :=
  ⟨Le.rfl', l, fun k o h => by simp at h, fun k o h => by simp at h, fun j k p q h => by simp at h⟩
theorem dats_rss {T : Tb} {g g' : Gh} {n n' : Nat} (hF : Le g.F g'.F) : ∀ (xs : List SV) (vs : List V) (ds : List D), dats xs = some ds → RSs T g n xs vs → RSs T g' n' xs vs := by
  intro xs
  induction xs with
  | nil => intro vs ds _ r; cases r; exact .nil
  | cons s r ih =>
    intro vs ds e rs
    cases rs with
    | cons h t =>
      cases s with
      | d x =>
        have e : (dats r).map (x :: ·) = some ds := e
        obtain ⟨es, e1, e2⟩ := Option.map_eq_some_iff.mp e
        exact .cons (Rep.le hF h) (ih _ es e1 t)
      | h k => cases e
theorem _root_.L2.Room.u65 {k : Nat} {A : Around} (r : Room k A) : A.units + 65 < cLine := by have := r.un; omega
theorem call_D {T : Tb} {B : Hp} {Ek : L2.St → XK} {Ff : FM} {n : Nat} {g1 : Gh} {sd : Sl} {own : Own} {σ : L2.St} {H : Hp} {Q : VK} {xs : List SV} {vs : List V} (R : HRel T B g1 own H) (rs : RSs T g1 own.length xs vs)
    (q : At ⟨T, B, Ek⟩ (RS T) g1 sd own σ Q (callD n Ff xs)) : spF T n Ff vs H Q (Ek σ) := by
  obtain ⟨r, own', e, k⟩ := q
  unfold callD at e
  by_cases hl : xs.length = n
  case neg => rw [if_pos hl] at e; cases e
  rw [if_neg (fun z => z hl)] at e
  cases ed : dats xs with
  | none => simp only [ed] at e; cases e
  | some ds =>
    simp only [ed] at e
    cases ef : Ff xs [] with
    | none => simp only [ef] at e; cases e
    | some p =>
      obtain ⟨rf, of⟩ := p
      simp only [ef] at e
      refine ⟨H, ⟨g1.F, g1.ρ⟩, [], xs, hrel_fresh R.f, dats_rss Le.rfl' xs vs ds ed rs, hl, rf, of, ef, ?_⟩
      cases rf with
      | ok s =>
        simp only at e
        cases er : resD of s with
        | none => simp only [er] at e; cases e
        | some z =>
          simp only [er] at e
          cases e
          intro g' v H' R' e' rv
          cases s with
          | d y =>
            cases er
            obtain ⟨R2, e2⟩ := R.after R'.b e'.F R'.f e'.fb
            exact k _ v H' R2 e2 rv
          | h kk =>
            obtain ⟨o, eo, ez⟩ := Option.bind_eq_some_iff.mp er
            obtain ⟨ho, eh, rz⟩ := frz_rel R' eo ez
            obtain ⟨R3, e3⟩ := R'.freeze eo (frzO_live ez) eh
            have e4 := e'.trans e3
            obtain ⟨R2, e2⟩ := R.after (F' := L2.upd g'.F (g'.ρ kk) ho) R'.b e4.F R3.f e4.fb
            have hv := rv.2
            subst hv
            exact k _ _ H' R2 e2 rz
      | ex c fs =>
        cases e
        intro g' d H' R' e' x
        obtain ⟨R2, e2⟩ := R.after R'.b e'.F R'.f e'.fb
        refine k _ d H' R2 e2 ?_
        rcases x with x | ⟨a, ws, h1, h2, h3⟩
        · exact .inl x
        · exact .inr ⟨a, ws, h1, h2, h3⟩
section
variable {X : Cx} {Y : Cy} {k j n : Nat} {x : Str} {Ff : FM} {p pos : Pos} {a : Expr} {es : List Expr} {al : AM}
/-- the caller's context: the tables, where exceptions go -/
structure CxOk (X : Cx) (Y : Cy) : Prop where
  K : X.K = Y.T.K
  pass : ∀ σ, PassesAt (L2.CX X.prog X.w) X σ (Y.Ek σ)
theorem r_call (c : Cal X.prog X.w X.K X.mg X.base Y.T k x n Ff) (hr : Room j X.A) (hk : k ≤ j) (cx : CxOk X Y) (ha : PA X (a :: es) (trA Y al)) (hg : Gl X x := by rfl) (hdb : (x == ("__debug__" : Str)) = false := by decide)
    (he : starEach (a :: es) X.env = (false, eval a X.env) :: starEach es X.env := by rfl) (hpl : (backTo pos (starEach es X.env)).any (·.1) = false := by rfl) : PE X (.Call (.Name x p) (a :: es) [] pos) (trE Y (eCallD n Ff al)) := by
  obtain ⟨f, fd, ps, hm, hkp, hb, F⟩ := c.ex
  refine PE.imp (pe_callSD (E := Y.Ek) F (hr.mono hk) hg hm hkp hb .nil cx.pass ha hdb he hpl) fun σ H Q q => ?_
  obtain ⟨gh, sd, own, R, S, q⟩ := q
  refine at_bind R S q fun g1 o1 xs vs H1 R1 S1 e1 rs q1 => ?_
  rw [List.append_nil]
  exact call_D R1 rs q1
end

/-! ### a callee that changes one object of ours -/
def flatO : O → Bool
  | .lst _ => true
  | .dic _ _ => true
  | .ins _ vs => (allD vs).isSome
  | .dead => false
theorem flat_rss {T : Tb} {g g2 : Gh} {n n2 : Nat} (l : Le g.F g2.F) : ∀ (vs : List SV) (ws : List V), (allD vs).isSome = true → RSs T g n vs ws → RSs T g2 n2 vs ws := by
  intro vs
  induction vs with
  | nil => intro ws _ r; cases r; exact .nil
  | cons s t ih =>
    intro ws e r
    cases r with
    | cons h r =>
      cases s with
      | h k => cases e
      | d x =>
        have e : ((allD t).map (x :: ·)).isSome = true := e
        rw [Option.isSome_map] at e
        exact .cons (Rep.le l h) (ih _ e r)
theorem flat_at {T : Tb} {g g2 : Gh} {n n2 : Nat} {H : Hp} {a : Addr} {o : O} (f : flatO o = true) (l : Le g.F g2.F) (h : OAt T g n H a o) : OAt T g2 n2 H a o := by
  cases o with
  | dead => trivial
  | lst xs => obtain ⟨vs, h1, h2⟩ := h; exact ⟨vs, h1, h2.le l⟩
  | dic ks xs => obtain ⟨kvs, h1, h2, h3⟩ := h; exact ⟨kvs, h1, h2, h3.le l⟩
  | ins c svs => obtain ⟨dx, ws, h1, h2, h3⟩ := h; exact ⟨dx, ws, h1, h2, flat_rss l svs ws f h3⟩
theorem flat_live {o : O} (f : flatO o = true) : o.live = true := by
  cases o <;> first | rfl | cases f
/-- the heap without p -/
def wo (H : Hp) (p : Addr) : Hp := fun a => if a = p then none else H a
theorem wo_ne {H : Hp} {p a : Addr} (h : a ≠ p) : wo H p a = H a := if_neg h
theorem wo_same {H : Hp} {p : Addr} : wo H p p = none := if_pos rfl
theorem wo_le {H : Hp} {p : Addr} : Le (wo H p) H := fun a o e => by
  by_cases c : a = p
  · rw [c, wo_same] at e; cases e
  · rw [wo_ne c] at e; exact e
/-- a callee started with one object of ours -/
theorem hrel_one {T : Tb} {B : Hp} {g : Gh} {own : Own} {H : Hp} {k : Nat} {o : O} (R : HRel T B g own H) (hk : own[k]? = some o) (f : flatO o = true) : HRel T (wo H (g.ρ k)) ⟨g.F, fun _ => g.ρ k⟩ [o] H := by
  have nb := R.nb k o hk (flat_live f)
  refine ⟨wo_le, R.f, fun j q e => ?_, fun j q e hl => ⟨wo_same, nb.2⟩, fun i j p q e1 e2 _ _ _ => ?_⟩
  · match j, e with
    | 0, e => cases e; exact flat_at (g := g) f (fun _ _ h => h) (R.o k _ hk)
    | j + 1, e => simp at e
  · match i, j, e1, e2 with
    | 0, 0, _, _ => rfl
    | i + 1, _, e1, _ => simp at e1
    | 0, j + 1, _, e2 => simp at e2
/-- the caller behind such a callee -/
theorem HRel.afterZ {T : Tb} {B : Hp} {g g' : Gh} {own own' : Own} {H H' : Hp} {k : Nat} {o o' : O} (R : HRel T B g own H) (hk : own[k]? = some o) (hl : o.live = true) (R' : HRel T (wo H (g.ρ k)) g' own' H') (e' : GExt (wo H (g.ρ k)) ⟨g.F, fun _ => g.ρ k⟩ 1 g' own'.length)
    (ho : own'[0]? = some o') (f : flatO o' = true) : HRel T B ⟨g'.F, g.ρ⟩ (own.set k o') H' ∧ GExt B g own.length ⟨g'.F, g.ρ⟩ (own.set k o').length := by
  obtain ⟨hB, hF⟩ := R.nb k o hk hl
  have hlt : k < own.length := (List.getElem?_eq_some_iff.mp hk).1
  have ρ0 : g'.ρ 0 = g.ρ k := e'.ρ 0 (by decide)
  have keep : ∀ a u, a ≠ g.ρ k → H a = some u → H' a = some u := fun a u ne e => R'.b a u (by rw [wo_ne ne]; exact e)
  have fb : ∀ a u, g'.F a = some u → g.F a = some u ∨ (a = g.ρ k ∨ H a = none) := fun a u e => by
    rcases e'.fb a u e with h | h
    · exact .inl h
    · by_cases c : a = g.ρ k
      · exact .inr (.inl c)
      · rw [wo_ne c] at h; exact .inr (.inr h)
  have ext : GExt B g own.length ⟨g'.F, g.ρ⟩ (own.set k o').length := ⟨by simp, e'.F, fun _ _ => rfl, fun a u e => by
    rcases fb a u e with h | h | h
    · exact .inl h
    · exact .inr (by rw [h]; exact hB)
    · exact .inr (R.free h).1⟩
  have look : ∀ (j : Nat) (q : O), (own.set k o')[j]? = some q → (j ≠ k ∧ own[j]? = some q) ∨ (j = k ∧ q = o') := fun j q e => by
    by_cases hj : k = j
    · subst hj
      rw [List.getElem?_set_self hlt] at e
      exact .inr ⟨rfl, (Option.some.inj e).symm⟩
    · rw [List.getElem?_set_ne hj] at e
      exact .inl ⟨fun z => hj z.symm, e⟩
  refine ⟨⟨fun a u e => keep a u (fun z => by rw [z, hB] at e; cases e) (R.b a u e), R'.f, fun j q e => ?_, fun j q e hq => ?_, fun i j p q ei ej hp hq e => ?_⟩, ext⟩
  · rcases look j q e with ⟨hj, e1⟩ | ⟨rfl, rfl⟩
    · refine ((R.o j q e1).ext ext).heap fun hq => ?_
      obtain ⟨ho, eh⟩ := (R.o j q e1).there hq
      show H' (g.ρ j) = H (g.ρ j)
      rw [eh]
      exact keep _ _ (fun z => hj (R.inj j k q o e1 hk hq hl z)) eh
    · have := R'.o 0 q ho
      rw [ρ0] at this
      exact flat_at (g := g') f (fun _ _ h => h) this
  · rcases look j q e with ⟨hj, e1⟩ | ⟨rfl, rfl⟩
    · refine ⟨(R.nb j q e1 hq).1, ?_⟩
      show g'.F (g.ρ j) = none
      cases eF : g'.F (g.ρ j) with
      | none => rfl
      | some u =>
        obtain ⟨ho, eh⟩ := (R.o j q e1).there hq
        rcases fb _ _ eF with h | h | h
        · rw [(R.nb j q e1 hq).2] at h; cases h
        · exact absurd (R.inj j k q o e1 hk hq hl h) hj
        · rw [eh] at h; cases h
    · refine ⟨hB, ?_⟩
      have := (R'.nb 0 q ho (flat_live f)).2
      rw [ρ0] at this
      exact this
  · rcases look i p ei with ⟨hi, ei'⟩ | ⟨rfl, rfl⟩
    · rcases look j q ej with ⟨hj, ej'⟩ | ⟨rfl, rfl⟩
      · exact R.inj i j p q ei' ej' hp hq e
      · exact absurd (R.inj i j p o ei' hk hp hl e) hi
    · rcases look j q ej with ⟨hj, ej'⟩ | ⟨rfl, rfl⟩
      · exact absurd (R.inj j i q o ej' hk hq hl e.symm) hj
      · rfl
/-- the first argument is an object of ours, the rest is data -/
def callZ (n : Nat) (Ff : FM) (xs : List SV) : EM := fun _ own => match xs with
  | .h k :: rest => if rest.length + 1 ≠ n then none else match dats rest, own[k]? with
    | some _, some o => if flatO o = true then (match Ff (.h 0 :: rest) [o] with
      | some (.ok (.d z), own') => (match own'[0]? with
        | some o' => if flatO o' = true then some (.ok (.d z), own.set k o') else none
        | none => none)
      | some (.ok (.h (j + 1)), own') => (match own'[0]?, own'[j + 1]? with
        | some o', some oj => if flatO o' = true then (match frzO oj with
          | some z => some (.ok (.d z), own.set k o')
          | none => none) else none
        | _, _ => none)
      | some (.ex c fs, own') => (match own'[0]? with
        | some o' => if flatO o' = true then some (.ex c fs, own.set k o') else none
        | none => none)
      | _ => none) else none
    | _, _ => none
  | _ => none
theorem call_Z {T : Tb} {B : Hp} {Ek : L2.St → XK} {Ff : FM} {n : Nat} {g1 : Gh} {sd : Sl} {own : Own} {σ : L2.St} {H : Hp} {Q : VK} {xs : List SV} {vs : List V} (R : HRel T B g1 own H) (rs : RSs T g1 own.length xs vs)
    (q : At ⟨T, B, Ek⟩ (RS T) g1 sd own σ Q (callZ n Ff xs)) : spF T n Ff vs H Q (Ek σ) := by
  obtain ⟨r, own2, e, kq⟩ := q
  unfold callZ at e
  match xs, rs, e with
  | [], _, e => cases e
  | .d _ :: _, _, e => cases e
  | .h k :: rest, rs, e =>
    simp only at e
    by_cases hl : rest.length + 1 = n
    case neg => rw [if_pos hl] at e; cases e
    rw [if_neg (fun z => z hl)] at e
    cases ed : dats rest with
    | none => simp only [ed] at e; cases e
    | some ds =>
      cases eo : own[k]? with
      | none => simp only [ed, eo] at e; cases e
      | some o =>
        simp only [ed, eo] at e
        by_cases fo : flatO o = true
        case neg => rw [if_neg fo] at e; cases e
        rw [if_pos fo] at e
        cases rs with
        | @cons _ v _ vs' hv hr =>
          have hv := hv.2
          subst hv
          have live := flat_live fo
          cases ef : Ff (.h 0 :: rest) [o] with
          | none => simp only [ef] at e; cases e
          | some p =>
            obtain ⟨rf, of⟩ := p
            simp only [ef] at e
            refine ⟨wo H (g1.ρ k), ⟨g1.F, fun _ => g1.ρ k⟩, [o], .h 0 :: rest, hrel_one R eo fo, .cons ⟨by simp, rfl⟩ (dats_rss (g := g1) (g' := ⟨g1.F, fun _ => g1.ρ k⟩) (fun _ _ h => h) rest vs' ds ed hr), by rw [List.length_cons]; exact hl, rf, of, ef, ?_⟩
            cases rf with
            | ok s =>
              cases s with
              | d z =>
                simp only at e
                cases e0 : of[0]? with
                | none => simp only [e0] at e; cases e
                | some o' =>
                  simp only [e0] at e
                  by_cases f' : flatO o' = true
                  case neg => rw [if_neg f'] at e; cases e
                  rw [if_pos f'] at e
                  cases e
                  intro g' v H' R' e' rv
                  obtain ⟨R2, e2⟩ := R.afterZ eo live R' e' e0 f'
                  exact kq _ v H' R2 e2 rv
              | h j =>
                cases j with
                | zero => simp only at e; cases e
                | succ j =>
                  simp only at e
                  cases e0 : of[0]? with
                  | none => simp only [e0] at e; cases e
                  | some o' =>
                    cases ej : of[j + 1]? with
                    | none => simp only [e0, ej] at e; cases e
                    | some oj =>
                      simp only [e0, ej] at e
                      by_cases f' : flatO o' = true
                      case neg => rw [if_neg f'] at e; cases e
                      rw [if_pos f'] at e
                      cases ez : frzO oj with
                      | none => simp only [ez] at e; cases e
                      | some z =>
                        simp only [ez] at e
                        cases e
                        intro g' v H' R' e' rv
                        obtain ⟨ho, eh, rz⟩ := frz_rel R' ej ez
                        obtain ⟨R3, e3⟩ := R'.freeze ej (frzO_live ez) eh
                        obtain ⟨R2, e2⟩ := R.afterZ eo live R3 (e'.trans e3) (by rw [List.getElem?_set_ne (by simp)]; exact e0) f'
                        have hv := rv.2
                        subst hv
                        exact kq _ _ H' R2 e2 rz
            | ex c fs =>
              simp only at e
              cases e0 : of[0]? with
              | none => simp only [e0] at e; cases e
              | some o' =>
                simp only [e0] at e
                by_cases f' : flatO o' = true
                case neg => rw [if_neg f'] at e; cases e
                rw [if_pos f'] at e
                cases e
                intro g' d H' R' e' x
                obtain ⟨R2, e2⟩ := R.afterZ eo live R' e' e0 f'
                refine kq _ d H' R2 e2 ?_
                rcases x with x | ⟨a, ws, h1, h2, h3⟩
                · exact .inl x
                · exact .inr ⟨a, ws, h1, h2, h3⟩
def eCallZ (n : Nat) (Ff : FM) (a : AM) : EM := a.bind fun xs => callZ n Ff xs
/-! ### the result is a new object of ours -/
def callH (n : Nat) (Ff : FM) (xs : List SV) : EM := fun _ own => if xs.length ≠ n then none else match dats xs with
  | none => none
  | some _ => match Ff xs [] with
    | some (.ok (.h j), own') => (match own'[j]? with
      | some o => if flatO o = true then some (.ok (.h own.length), own ++ [o]) else none
      | none => none)
    | some (.ex c fs, _) => some (.ex c fs, own)
    | _ => none
def eCallH (n : Nat) (Ff : FM) (a : AM) : EM := a.bind fun xs => callH n Ff xs
/-- an object of the callee becomes one of ours -/
theorem HRel.take {T : Tb} {B : Hp} {g g' : Gh} {own own' : Own} {H H' : Hp} {j : Nat} {o : O} (R : HRel T B g own H) (R' : HRel T H g' own' H') (hF : Le g.F g'.F) (fb : ∀ a u, g'.F a = some u → g.F a = some u ∨ H a = none) (hj : own'[j]? = some o) (f : flatO o = true) :
    HRel T B ⟨g'.F, fun i => if i = own.length then g'.ρ j else g.ρ i⟩ (own ++ [o]) H' ∧ GExt B g own.length ⟨g'.F, fun i => if i = own.length then g'.ρ j else g.ρ i⟩ (own ++ [o]).length := by
  obtain ⟨hN, hF0⟩ := R'.nb j o hj (flat_live f)
  have ext : GExt B g own.length ⟨g'.F, fun i => if i = own.length then g'.ρ j else g.ρ i⟩ (own ++ [o]).length := ⟨by simp, hF, fun k hk => by show (if k = own.length then _ else g.ρ k) = g.ρ k; rw [if_neg (by omega)], fun a u e => by
    rcases fb a u e with h | h
    · exact .inl h
    · exact .inr (R.free h).1⟩
  have look : ∀ (k : Nat) (q : O), (own ++ [o])[k]? = some q → (k < own.length ∧ own[k]? = some q) ∨ (k = own.length ∧ q = o) := fun k q e => by
    by_cases hk : k < own.length
    · exact .inl ⟨hk, by rw [List.getElem?_append_left hk] at e; exact e⟩
    · have hk2 : k < (own ++ [o]).length := (List.getElem?_eq_some_iff.mp e).1
      have : k = own.length := by simp at hk2; omega
      subst this
      refine .inr ⟨rfl, ?_⟩
      simp at e
      exact e.symm
  have ne : ∀ (k : Nat) (q : O), own[k]? = some q → q.live = true → g.ρ k ≠ g'.ρ j := fun k q e hq z => by
    obtain ⟨ho, eh⟩ := (R.o k q e).there hq
    rw [z, hN] at eh; cases eh
  refine ⟨⟨R.b.trans R'.b, R'.f, fun k q e => ?_, fun k q e hl => ?_, fun i k p q ei ek hp hq e => ?_⟩, ext⟩
  · rcases look k q e with ⟨hk, e1⟩ | ⟨rfl, rfl⟩
    · show OAt T _ _ _ (if k = own.length then g'.ρ j else g.ρ k) q
      rw [if_neg (by omega)]
      refine ((R.o k q e1).ext ext).heap fun hq => ?_
      obtain ⟨ho, eh⟩ := (R.o k q e1).there hq
      rw [eh]; exact R'.b _ _ eh
    · show OAt T _ _ _ (if own.length = own.length then g'.ρ j else g.ρ _) q
      rw [if_pos rfl]
      exact flat_at (g := g') f (fun _ _ h => h) (R'.o j _ hj)
  · show B (if k = own.length then g'.ρ j else g.ρ k) = none ∧ g'.F (if k = own.length then g'.ρ j else g.ρ k) = none
    rcases look k q e with ⟨hk, e1⟩ | ⟨rfl, rfl⟩
    · rw [if_neg (by omega)]
      refine ⟨(R.nb k q e1 hl).1, ?_⟩
      cases eF : g'.F (g.ρ k) with
      | none => rfl
      | some u =>
        obtain ⟨ho, eh⟩ := (R.o k q e1).there hl
        rcases fb _ _ eF with h | h
        · rw [(R.nb k q e1 hl).2] at h; cases h
        · rw [eh] at h; cases h
    · rw [if_pos rfl]
      exact ⟨(R.free hN).1, hF0⟩
  · have e : (if i = own.length then g'.ρ j else g.ρ i) = (if k = own.length then g'.ρ j else g.ρ k) := e
    rcases look i p ei with ⟨hi, ei'⟩ | ⟨rfl, rfl⟩
    · rcases look k q ek with ⟨hk, ek'⟩ | ⟨rfl, rfl⟩
      · rw [if_neg (by omega), if_neg (by omega)] at e
        exact R.inj i k p q ei' ek' hp hq e
      · rw [if_neg (by omega), if_pos rfl] at e
        exact absurd e (ne i p ei' hp)
    · rcases look k q ek with ⟨hk, ek'⟩ | ⟨rfl, rfl⟩
      · rw [if_pos rfl, if_neg (by omega)] at e
        exact absurd e.symm (ne k q ek' hq)
      · rfl
theorem call_H {T : Tb} {B : Hp} {Ek : L2.St → XK} {Ff : FM} {n : Nat} {g1 : Gh} {sd : Sl} {own : Own} {σ : L2.St} {H : Hp} {Q : VK} {xs : List SV} {vs : List V} (R : HRel T B g1 own H) (rs : RSs T g1 own.length xs vs)
    (q : At ⟨T, B, Ek⟩ (RS T) g1 sd own σ Q (callH n Ff xs)) : spF T n Ff vs H Q (Ek σ) := by
  obtain ⟨r, own2, e, kq⟩ := q
  unfold callH at e
  by_cases hl : xs.length = n
  case neg => rw [if_pos hl] at e; cases e
  rw [if_neg (fun z => z hl)] at e
  cases ed : dats xs with
  | none => simp only [ed] at e; cases e
  | some ds =>
    simp only [ed] at e
    cases ef : Ff xs [] with
    | none => simp only [ef] at e; cases e
    | some p =>
      obtain ⟨rf, of⟩ := p
      simp only [ef] at e
      refine ⟨H, ⟨g1.F, g1.ρ⟩, [], xs, hrel_fresh R.f, dats_rss Le.rfl' xs vs ds ed rs, hl, rf, of, ef, ?_⟩
      cases rf with
      | ok s =>
        cases s with
        | d z => simp only at e; cases e
        | h j =>
          simp only at e
          cases ej : of[j]? with
          | none => simp only [ej] at e; cases e
          | some o =>
            simp only [ej] at e
            by_cases f' : flatO o = true
            case neg => rw [if_neg f'] at e; cases e
            rw [if_pos f'] at e
            cases e
            intro g' v H' R' e' rv
            obtain ⟨R2, e2⟩ := R.take R' e'.F e'.fb ej f'
            refine kq _ v H' R2 e2 ⟨by simp, ?_⟩
            show v = .ref (if own.length = own.length then g'.ρ j else g1.ρ _)
            rw [if_pos rfl]
            exact rv.2
      | ex c fs =>
        simp only at e
        cases e
        intro g' d H' R' e' x
        obtain ⟨R2, e2⟩ := R.after R'.b e'.F R'.f e'.fb
        refine kq _ d H' R2 e2 ?_
        rcases x with x | ⟨a, ws, h1, h2, h3⟩
        · exact .inl x
        · exact .inr ⟨a, ws, h1, h2, h3⟩
/-! ### the arguments are only looked at, the result is a number, a text .. -/
def scal1 : D → Bool
  | .non => true
  | .bl _ => true
  | .int _ => true
  | .str _ => true
  | _ => false
theorem scal_rep {T : Tb} {F F' : Hp} {d : D} {v : V} (s : scal1 d = true) (h : Rep T F d v) : Rep T F' d v := by
  cases h with
  | non => exact .non
  | bl b => exact .bl b
  | int i => exact .int i
  | str x => exact .str x
  | _ => cases s
def viewL (own : Own) : List SV → Option (List D)
  | [] => some []
  | s :: r => (datV own s).bind fun d => (viewL own r).map (d :: ·)
def callV (n : Nat) (Ff : FM) (xs : List SV) : EM := fun _ own => if xs.length ≠ n then none else match viewL own xs with
  | none => none
  | some ds => match Ff (ds.map SV.d) [] with
    | some (.ok (.d z), _) => if scal1 z = true then some (.ok (.d z), own) else none
    | _ => none
def eCallV (n : Nat) (Ff : FM) (a : AM) : EM := a.bind fun xs => callV n Ff xs
theorem view_rel {T : Tb} {B : Hp} {g : Gh} {own : Own} {H : Hp} (R : HRel T B g own H) {ρ : Nat → Addr} {n : Nat} : ∀ (xs : List SV) (vs : List V) (ds : List D), RSs T g own.length xs vs → viewL own xs = some ds → RSs T ⟨H, ρ⟩ n (ds.map SV.d) vs := by
  intro xs
  induction xs with
  | nil => intro vs ds r e; cases r; cases e; exact .nil
  | cons s t ih =>
    intro vs ds r e
    cases r with
    | cons h r =>
      obtain ⟨d, e1, e⟩ := Option.bind_eq_some_iff.mp e
      obtain ⟨es, e2, e3⟩ := Option.map_eq_some_iff.mp e
      subst e3
      refine .cons ?_ (ih _ es r e2)
      show Rep T H d _
      cases s with
      | d x =>
        have : x = d := Option.some.inj e1
        subst this
        exact Rep.le R.f h
      | h k =>
        have e1 : (match own[k]? with | some (.lst xs) => some (D.lst xs) | some (.dic ks xs) => some (D.dic ks xs) | _ => none) = some d := e1
        have hv := h.2
        subst hv
        cases eo : own[k]? with
        | none => rw [eo] at e1; cases e1
        | some o =>
          rw [eo] at e1
          cases o with
          | lst xs => cases e1; obtain ⟨vs, h1, h2⟩ := R.o k _ eo; exact .lst h1 (h2.le R.f)
          | dic ks xs => cases e1; obtain ⟨kvs, h1, h2, h3⟩ := R.o k _ eo; exact .dic (.inl h1) h2 (h3.le R.f)
          | _ => cases e1
theorem call_V {T : Tb} {B : Hp} {Ek : L2.St → XK} {Ff : FM} {n : Nat} {g1 : Gh} {sd : Sl} {own : Own} {σ : L2.St} {H : Hp} {Q : VK} {xs : List SV} {vs : List V} (R : HRel T B g1 own H) (rs : RSs T g1 own.length xs vs)
    (q : At ⟨T, B, Ek⟩ (RS T) g1 sd own σ Q (callV n Ff xs)) : spF T n Ff vs H Q (Ek σ) := by
  obtain ⟨r, own2, e, kq⟩ := q
  unfold callV at e
  by_cases hl : xs.length = n
  case neg => rw [if_pos hl] at e; cases e
  rw [if_neg (fun z => z hl)] at e
  cases ed : viewL own xs with
  | none => simp only [ed] at e; cases e
  | some ds =>
    simp only [ed] at e
    cases ef : Ff (ds.map SV.d) [] with
    | none => simp only [ef] at e; cases e
    | some p =>
      obtain ⟨rf, of⟩ := p
      simp only [ef] at e
      have rs2 := view_rel R (ρ := g1.ρ) (n := 0) xs vs ds rs ed
      refine ⟨H, ⟨H, g1.ρ⟩, [], ds.map SV.d, hrel_fresh Le.rfl', rs2, by rw [rs2.length, ← rs.length]; exact hl, rf, of, ef, ?_⟩
      cases rf with
      | ok s =>
        cases s with
        | h j => simp only at e; cases e
        | d z =>
          simp only at e
          by_cases sc : scal1 z = true
          case neg => rw [if_neg sc] at e; cases e
          rw [if_pos sc] at e
          cases e
          intro g' v H' R' e' rv
          obtain ⟨R2, e2⟩ := R.after (F' := g1.F) R'.b Le.rfl' (R.f.trans R'.b) fun a o h => .inl h
          exact kq _ v H' R2 e2 (scal_rep sc rv)
      | ex c fs => simp only at e; cases e
section
variable {X : Cx} {Y : Cy} {k j n : Nat} {x : Str} {Ff : FM} {p pos : Pos} {a : Expr} {es : List Expr} {al : AM}
theorem r_callZ (c : Cal X.prog X.w X.K X.mg X.base Y.T k x n Ff) (hr : Room j X.A) (hk : k ≤ j) (cx : CxOk X Y) (ha : PA X (a :: es) (trA Y al)) (hg : Gl X x := by rfl) (hdb : (x == ("__debug__" : Str)) = false := by decide)
    (he : starEach (a :: es) X.env = (false, eval a X.env) :: starEach es X.env := by rfl) (hpl : (backTo pos (starEach es X.env)).any (·.1) = false := by rfl) : PE X (.Call (.Name x p) (a :: es) [] pos) (trE Y (eCallZ n Ff al)) := by
  obtain ⟨f, fd, ps, hm, hkp, hb, F⟩ := c.ex
  refine PE.imp (pe_callSD (E := Y.Ek) F (hr.mono hk) hg hm hkp hb .nil cx.pass ha hdb he hpl) fun σ H Q q => ?_
  obtain ⟨gh, sd, own, R, S, q⟩ := q
  refine at_bind R S q fun g1 o1 xs vs H1 R1 S1 e1 rs q1 => ?_
  rw [List.append_nil]
  exact call_Z R1 rs q1
theorem r_callH (c : Cal X.prog X.w X.K X.mg X.base Y.T k x n Ff) (hr : Room j X.A) (hk : k ≤ j) (cx : CxOk X Y) (ha : PA X (a :: es) (trA Y al)) (hg : Gl X x := by rfl) (hdb : (x == ("__debug__" : Str)) = false := by decide)
    (he : starEach (a :: es) X.env = (false, eval a X.env) :: starEach es X.env := by rfl) (hpl : (backTo pos (starEach es X.env)).any (·.1) = false := by rfl) : PE X (.Call (.Name x p) (a :: es) [] pos) (trE Y (eCallH n Ff al)) := by
  obtain ⟨f, fd, ps, hm, hkp, hb, F⟩ := c.ex
  refine PE.imp (pe_callSD (E := Y.Ek) F (hr.mono hk) hg hm hkp hb .nil cx.pass ha hdb he hpl) fun σ H Q q => ?_
  obtain ⟨gh, sd, own, R, S, q⟩ := q
  refine at_bind R S q fun g1 o1 xs vs H1 R1 S1 e1 rs q1 => ?_
  rw [List.append_nil]
  exact call_H R1 rs q1
theorem r_callV (c : Cal X.prog X.w X.K X.mg X.base Y.T k x n Ff) (hr : Room j X.A) (hk : k ≤ j) (cx : CxOk X Y) (ha : PA X (a :: es) (trA Y al)) (hg : Gl X x := by rfl) (hdb : (x == ("__debug__" : Str)) = false := by decide)
    (he : starEach (a :: es) X.env = (false, eval a X.env) :: starEach es X.env := by rfl) (hpl : (backTo pos (starEach es X.env)).any (·.1) = false := by rfl) : PE X (.Call (.Name x p) (a :: es) [] pos) (trE Y (eCallV n Ff al)) := by
  obtain ⟨f, fd, ps, hm, hkp, hb, F⟩ := c.ex
  refine PE.imp (pe_callSD (E := Y.Ek) F (hr.mono hk) hg hm hkp hb .nil cx.pass ha hdb he hpl) fun σ H Q q => ?_
  obtain ⟨gh, sd, own, R, S, q⟩ := q
  refine at_bind R S q fun g1 o1 xs vs H1 R1 S1 e1 rs q1 => ?_
  rw [List.append_nil]
  exact call_V R1 rs q1
end
end Gx
end T_GxR8
section T_GxR9
set_option Elab.async false
set_option linter.all false
set_option maxRecDepth 100000
set_option maxHeartbeats 4000000
namespace Gx
open PySem PySem.Spec PyProof.Rows L2

/-! ## comprehensions -/
def wipeD (sd : Sl) : List Nat → Sl
  | [] => sd
  | v :: vs => (wipeD sd vs).set v none
theorem wipe_in {σ : L2.St} {i : Nat} : ∀ {vs : List Nat}, i ∈ vs → i < σ.length → (wipe σ vs)[i]? = some none
  | v :: vs, h, hl => by
    unfold wipe
    by_cases e : v = i
    · subst e
      rw [List.getElem?_set_self (by rw [wipe_length]; exact hl)]
    · rw [List.getElem?_set_ne e]
      rcases List.mem_cons.mp h with z | z
      · exact absurd z.symm e
      · exact wipe_in z hl
theorem wipe_eq {σ σ2 : L2.St} {vs is : List Nat} (u : Upd is (wipe σ vs) σ2) (hs : ∀ i ∈ is, i ∈ vs) : wipe σ2 vs = wipe σ vs := by
  have hl : σ2.length = σ.length := by rw [u.1, wipe_length]
  apply List.ext_getElem?
  intro i
  by_cases c : i < σ.length
  · by_cases m : i ∈ vs
    · rw [wipe_in m (by rw [hl]; exact c), wipe_in m c]
    · rw [wipe_out m, u.2 i (fun z => m (hs i z))]
  · rw [List.getElem?_eq_none (by rw [wipe_length, hl]; omega), List.getElem?_eq_none (by rw [wipe_length]; omega)]
theorem srel_wipe {T : Tb} {g : Gh} {n : Nat} {sd : Sl} {σ : L2.St} (S : SRel T g n sd σ) : ∀ vs : List Nat, SRel T g n (wipeD sd vs) (wipe σ vs)
  | [] => S
  | v :: vs => (srel_wipe S vs).unset
theorem HRel.less {T : Tb} {B B' : Hp} {g : Gh} {own : Own} {H : Hp} (l : Le B B') (R : HRel T B' g own H) : HRel T B g own H := by
  refine ⟨l.trans R.b, R.f, R.o, fun k o hk hl => ⟨?_, (R.nb k o hk hl).2⟩, R.inj⟩
  cases e : B (g.ρ k) with
  | none => rfl
  | some u =>
    have := l _ _ e
    rw [(R.nb k o hk hl).1] at this; cases this
theorem GExt.less {B B' : Hp} {g g' : Gh} {n n' : Nat} (l : Le B B') (e : GExt B' g n g' n') : GExt B g n g' n' :=
  ⟨e.le, e.F, e.ρ, fun a o h => by
    rcases e.fb a o h with h | h
    · exact .inl h
    · refine .inr ?_
      cases q : B a with
      | none => rfl
      | some u => rw [l _ _ q] at h; cases h⟩
theorem GExt.more {B B' : Hp} {g g' : Gh} {n n' : Nat} {p : Addr} (l : ∀ a, a ≠ p → B' a = B a) (hp : g'.F p = none) (e : GExt B g n g' n') : GExt B' g n g' n' :=
  ⟨e.le, e.F, e.ρ, fun a o h => by
    rcases e.fb a o h with h1 | h1
    · exact .inl h1
    · by_cases c : a = p
      · subst c; rw [hp] at h; cases h
      · exact .inr (by rw [l a c]; exact h1)⟩
/-- the object at p, that is to stay, is another one now -/
theorem HRel.reb {T : Tb} {B : Hp} {g : Gh} {own : Own} {H : Hp} {p : Addr} {u u' : HO} (R : HRel T (upd B p u) g own H) (hF : g.F p = none) : HRel T (upd B p u') g own (upd H p u') := by
  have ne : ∀ (k : Nat) (o : O), own[k]? = some o → o.live = true → g.ρ k ≠ p := fun k o hk hl z => by
    have := (R.nb k o hk hl).1
    rw [z, upd_same] at this; cases this
  refine ⟨fun a o e => ?_, fun a o e => ?_, fun k o hk => ?_, fun k o hk hl => ⟨?_, (R.nb k o hk hl).2⟩, R.inj⟩
  · by_cases c : a = p
    · subst c; rw [upd_same] at e; rw [upd_same]; exact e
    · rw [upd_ne c] at e; rw [upd_ne c]; exact R.b a o (by rw [upd_ne c]; exact e)
  · have c : a ≠ p := fun z => by rw [z, hF] at e; cases e
    rw [upd_ne c]; exact R.f a o e
  · exact (R.o k o hk).heap fun hl => upd_ne (ne k o hk hl)
  · rw [upd_ne (ne k o hk hl)]
    have := (R.nb k o hk hl).1
    rw [upd_ne (ne k o hk hl)] at this
    exact this
/-- an object that is to stay comes in -/
theorem HRel.guard {T : Tb} {B : Hp} {g : Gh} {own : Own} {H : Hp} {p : Addr} {u : HO} (R : HRel T B g own H) (h : H p = none) : HRel T (upd B p u) g own (upd H p u) := by
  have hB := R.free h
  refine ⟨fun a o e => ?_, fun a o e => ?_, fun k o hk => ?_, fun k o hk hl => ⟨?_, (R.nb k o hk hl).2⟩, R.inj⟩
  · by_cases c : a = p
    · subst c; rw [upd_same] at e; rw [upd_same]; exact e
    · rw [upd_ne c] at e; rw [upd_ne c]; exact R.b a o e
  · have c : a ≠ p := fun z => by rw [z, hB.2] at e; cases e
    rw [upd_ne c]; exact R.f a o e
  · exact (R.o k o hk).heap fun hl => upd_ne (R.neOwn h hk hl)
  · rw [upd_ne (R.neOwn h hk hl)]; exact (R.nb k o hk hl).1
/-- the guarded object becomes data -/
theorem HRel.unguard {T : Tb} {B : Hp} {g : Gh} {own : Own} {H : Hp} {p : Addr} {u : HO} (R : HRel T (upd B p u) g own H) (hF : g.F p = none) (hB : B p = none) :
    HRel T B ⟨upd g.F p u, g.ρ⟩ own H ∧ GExt B g own.length ⟨upd g.F p u, g.ρ⟩ own.length := by
  have ext : GExt B g own.length ⟨upd g.F p u, g.ρ⟩ own.length := ⟨Nat.le_refl _, Le.upd hF, fun _ _ => rfl, fun a o e => by
    by_cases c : a = p
    · subst c; exact .inr hB
    · exact .inl (by rw [← upd_ne (H := g.F) (o := u) c]; exact e)⟩
  have R1 := R.less (B := B) (Le.upd hB)
  refine ⟨⟨R1.b, fun a o e => ?_, fun k o hk => (R1.o k o hk).ext ext, fun k o hk hl => ⟨(R1.nb k o hk hl).1, ?_⟩, R1.inj⟩, ext⟩
  · by_cases c : a = p
    · subst c
      have e : upd g.F a u a = some o := e
      rw [upd_same] at e
      exact R.b a o (by rw [upd_same]; exact e)
    · have e : upd g.F p u a = some o := e
      rw [upd_ne c] at e
      exact R.f a o e
  · show upd g.F p u (g.ρ k) = none
    rw [upd_ne (fun z => by
      have := (R.nb k o hk hl).1
      rw [z, upd_same] at this; cases this)]
    exact (R1.nb k o hk hl).2

/-- the items -/
def lcL (tg : GM) (t : TM) (f : EM) (sd0 : Sl) : List D → Own → Option (List D × Own)
  | [], own => some ([], own)
  | x :: xs, own => match tg x sd0 with
    | none => none
    | some sd1 => match t sd1 own with
      | some (.ok true, o1) => (match f sd1 o1 with
        | some (.ok (.d d), o2) => (match lcL tg t f sd0 xs o2 with
          | some (ds, o3) => some (d :: ds, o3)
          | none => none)
        | _ => none)
      | some (.ok false, o1) => lcL tg t f sd0 xs o1
      | _ => none
def eLC (src : IM) (vs : List Nat) (tg : GM) (t : TM) (f : EM) : EM := src.bind fun xs => fun sd own => if xs.length < sizeLine then (match lcL tg t f (wipeD sd vs) xs own with
  | some (ds, o) => some (.ok (.d (.lst ds)), o)
  | none => none) else none
def tTrue : TM := M.ret true
/-- nothing is raised here -/
abbrev E00 : L2.St → XK := fun _ _ _ _ => False
section
variable {X : Cx} {Y : Cy} {tgx iter elt : Expr} {ifs : List Expr} {scope : Scope} {own : List (Str × Nat)} {pos : Pos} {src : IM} {tg : GM} {gg : TG} {is : List Nat} {t : TM} {f : EM}
theorem PTs.imp {X : Cx} {l : List Expr} {t t' : TT} (h : PTs X l t) (i : ∀ σ H Q, t' σ H Q → t σ H Q) : PTs X l t' := ⟨fun pins s σ H Q I q => h.run pins s σ H Q I (i σ H Q q)⟩
theorem rpt_nil : PTs X [] (trT Y tTrue) := PTs.imp pts_nil fun σ H Q q => by
  obtain ⟨gh, sd, own, R, S, q⟩ := q
  exact at_ret q gh true H R .rfl' rfl
theorem rpt_one {c : Expr} (h : PT X c (trT Y t)) : PTs X [c] (trT Y t) := pts_one h
/-- whatever is to stay -/
def anyB (T : Tb) (f : EM) : TE := fun σ H Q => ∃ B, trE ⟨T, B, E00⟩ f σ H Q
def anyT (T : Tb) (t : TM) : TT := fun σ H Q => ∃ B, trT ⟨T, B, E00⟩ t σ H Q
theorem pe_any {e : Expr} {T : Tb} (h : ∀ B, PE X e (trE ⟨T, B, E00⟩ f)) : PE X e (anyB T f) := ⟨fun pins s σ H Q I q => q.elim fun B q => (h B).run pins s σ H Q I q⟩
theorem pt_any {l : List Expr} {T : Tb} (h : ∀ B, PTs X l (trT ⟨T, B, E00⟩ t)) : PTs X l (anyT T t) := ⟨fun pins s σ H Q I q => q.elim fun B q => (h B).run pins s σ H Q I q⟩
theorem lc_at (og : OG Y.T gg tg is) (hv : ∀ i ∈ is, i ∈ own.map (·.2)) {σ : L2.St} {H : Hp} {Q : VK} (q : trE Y (eLC src (own.map (·.2)) tg t f) σ H Q) : tLc (trI Y src) gg (anyT Y.T t) (anyB Y.T f) (own.map (·.2)) σ H Q := by
  obtain ⟨gh, sd, own0, R, S, q⟩ := q
  refine at_bind R S q fun g1 o1 xs J H1 R1 S1 e1 wk q1 => ?_
  obtain ⟨r, own', e, k⟩ := q1
  by_cases hz : xs.length < sizeLine
  case neg => simp only [if_neg hz] at e; cases e
  simp only [if_pos hz] at e
  cases el : lcL tg t f (wipeD sd (own.map (·.2))) xs o1 with
  | none => simp only [el] at e; cases e
  | some p =>
    obtain ⟨ds, oF⟩ := p
    simp only [el] at e
    cases e
    intro Dn hD
    obtain ⟨hB, hF⟩ := R1.free hD
    refine ⟨fun i m H => m = xs.length - i ∧ i ≤ xs.length ∧ ∃ (acc : List D) (accV : List V) (rest : List D) (g2 : Gh) (o2 : Own), HRel Y.T (upd Y.B Dn (.lst accV)) g2 o2 H ∧ g2.F Dn = none ∧ Reps Y.T g2.F acc accV ∧
      GExt Y.B g1 o1.length g2 o2.length ∧ lcL tg t f (wipeD sd (own.map (·.2))) (xs.drop i) o2 = some (rest, own') ∧ acc ++ rest = ds ∧ acc.length ≤ i,
      ⟨xs.length, by omega, Nat.zero_le _, [], [], ds, g1, o1, R1.guard hD, hF, .nil, .rfl', by rw [List.drop_zero]; exact el, rfl, Nat.le_refl _⟩, ?_⟩
    rintro i m H2 ⟨rfl, hi, acc, accV, rest, g2, o2, R2, F2, r2, e2, l2, ea, hl⟩
    have R2' := R2.less (B := Y.B) (Le.upd hB)
    by_cases c : i < xs.length
    · refine .inr ⟨wk.go _ i g2 o2 H2 R2 e2.F c, fun H' => i + 1 ≤ xs.length ∧ ∃ (acc : List D) (accV : List V) (rest : List D) (g2 : Gh) (o2 : Own), HRel Y.T (upd Y.B Dn (.lst accV)) g2 o2 H' ∧ g2.F Dn = none ∧ Reps Y.T g2.F acc accV ∧
        GExt Y.B g1 o1.length g2 o2.length ∧ lcL tg t f (wipeD sd (own.map (·.2))) (xs.drop (i + 1)) o2 = some (rest, own') ∧ acc ++ rest = ds ∧ acc.length ≤ i + 1,
        fun H' w => ⟨xs.length - (i + 1), by omega, rfl, w⟩, fun x H' y => ?_⟩
      have hx : xs[i]? = some xs[i] := by simp [c]
      obtain ⟨g3, R3, e3, r3⟩ := wk.yld _ i g2 o2 H2 x H' xs[i] R2 e2.F y hx
      have F3 : g3.F Dn = none := by
        cases q : g3.F Dn with
        | none => rfl
        | some u =>
          rcases e3.fb _ _ q with h | h
          · rw [F2] at h; cases h
          · rw [upd_same] at h; cases h
      rw [List.drop_eq_getElem_cons c] at l2
      unfold lcL at l2
      have S3 : SRel Y.T g3 o2.length sd σ := (S1.ext e2).ext e3
      cases et : tg xs[i] (wipeD sd (own.map (·.2))) with
      | none => simp only [et] at l2; cases l2
      | some sd3 =>
        simp only [et] at l2
        refine og _ g3 o2 H' xs[i] x _ sd3 _ _ R3 r3 (srel_wipe S3 _) et fun σ3 S4 u => ⟨wipe_eq u hv, ?_⟩
        cases ec : t sd3 o2 with
        | none => simp only [ec] at l2; cases l2
        | some pc =>
          obtain ⟨rc, o3⟩ := pc
          cases rc with
          | ex cc fs => simp only [ec] at l2; cases l2
          | ok bb =>
            simp only [ec] at l2
            refine ⟨upd Y.B Dn (.lst accV), g3, sd3, o2, R3, S4, .ok bb, o3, ec, fun g4 b' H4 R4 e4 eb => ?_⟩
            obtain rfl : bb = b' := eb
            have F4 : g4.F Dn = none := by
              cases q : g4.F Dn with
              | none => rfl
              | some u =>
                rcases e4.fb _ _ q with h | h
                · rw [F3] at h; cases h
                · exact absurd ((upd_same (H := Y.B) (a := Dn) (o := .lst accV)).symm.trans h) (by simp)
            have e34 := (e3.trans e4).less (B := Y.B) (Le.upd hB)
            cases bb with
            | false =>
              rw [if_neg (by decide)]
              simp only at l2
              exact ⟨c, acc, accV, rest, g4, o3, R4, F4, r2.le (e3.F.trans e4.F), e2.trans e34, l2, ea, Nat.le_succ_of_le hl⟩
            | true =>
              rw [if_pos rfl]
              simp only at l2
              cases ef : f sd3 o3 with
              | none => simp only [ef] at l2; cases l2
              | some pf =>
                obtain ⟨rf, o4⟩ := pf
                cases rf with
                | ex cc fs => simp only [ef] at l2; cases l2
                | ok s =>
                  cases s with
                  | h kk => simp only [ef] at l2; cases l2
                  | d d =>
                    simp only [ef] at l2
                    cases er : lcL tg t f (wipeD sd (own.map (·.2))) (xs.drop (i + 1)) o4 with
                    | none => simp only [er] at l2; cases l2
                    | some pr =>
                      obtain ⟨rs, o5⟩ := pr
                      simp only [er] at l2
                      cases l2
                      refine ⟨upd Y.B Dn (.lst accV), g4, sd3, o3, R4, S4.ext e4, .ok (.d d), o4, ef, fun g5 v H5 R5 e5 rv => ?_⟩
                      have F5 : g5.F Dn = none := by
                        cases q : g5.F Dn with
                        | none => rfl
                        | some u =>
                          rcases e5.fb _ _ q with h | h
                          · rw [F4] at h; cases h
                          · exact absurd ((upd_same (H := Y.B) (a := Dn) (o := .lst accV)).symm.trans h) (by simp)
                      have e345 := ((e3.trans e4).trans e5).less (B := Y.B) (Le.upd hB)
                      have r5 := r2.le ((e3.F.trans e4.F).trans e5.F)
                      refine ⟨accV, R5.b _ _ upd_same, by rw [← r2.length]; omega, c, acc ++ [d], accV ++ [v], rs, g5, o4, R5.reb F5, F5, r5.snoc rv, e2.trans e345, er, by rw [← ea]; simp, by simp; exact hl⟩
    · have e : i = xs.length := by omega
      subst e
      rw [List.drop_length] at l2
      cases l2
      rw [List.append_nil] at ea
      subst ea
      obtain ⟨R3, e3⟩ := R2.unguard F2 hB
      exact .inl ⟨wk.stop _ _ g2 _ H2 R2 e2.F (Nat.le_refl _), k _ _ H2 R3 (e2.trans e3) (Rep.lst upd_same (r2.le e3.F))⟩
theorem r_lc (hN : X.N.Nodup) (hi : PI X tgx iter (trI Y src)) (ok : BlkOk X.N X.env.scope scope own)
    (hg : ∀ (s : Shared) (H : Hp) (C : Addr) (cl : List (Str × Addr)) (fp : List Addr), PG (X.blk s H scope (compEnvC scope cl C X.env) fp) tgx gg) (og : OG Y.T gg tg is) (hv : ∀ i ∈ is, i ∈ own.map (·.2))
    (ht : ∀ (B : Hp) (s : Shared) (H : Hp) (C : Addr) (cl : List (Str × Addr)) (fp : List Addr), PTs (X.blk s H scope (compEnvC scope cl C X.env) fp) ifs (trT ⟨Y.T, B, E00⟩ t))
    (he : ∀ (B : Hp) (s : Shared) (H : Hp) (C : Addr) (cl : List (Str × Addr)) (fp : List Addr), PE (X.blk s H scope (compEnvC scope cl C X.env) fp) elt (trE ⟨Y.T, B, E00⟩ f)) (hc : X.calm = true := by rfl) (hs : ∀ x, foldedSetIterable iter X.env x = pure x := by intro _; rfl) :
    PE X (.ListComp elt [⟨tgx, iter, ifs, 0⟩] scope pos) (trE Y (eLC src (own.map (·.2)) tg t f)) :=
  PE.imp (pe_lc hc hN hi ok hg (fun s H C cl fp => pt_any fun B => ht B s H C cl fp) (fun s H C cl fp => pe_any fun B => he B s H C cl fp) hs) fun _ _ _ q => lc_at og hv q
theorem rs_setLc {i : Nat} {y : Str} {py spos : Pos} (hN : X.N.Nodup) (hi : PI X tgx iter (trI Y src)) (ok : BlkOk X.N X.env.scope scope own)
    (hg : ∀ (s : Shared) (H : Hp) (C : Addr) (cl : List (Str × Addr)) (fp : List Addr), PG (X.blk s H scope (compEnvC scope cl C X.env) fp) tgx gg) (og : OG Y.T gg tg is) (hv : ∀ i ∈ is, i ∈ own.map (·.2))
    (ht : ∀ (B : Hp) (s : Shared) (H : Hp) (C : Addr) (cl : List (Str × Addr)) (fp : List Addr), PTs (X.blk s H scope (compEnvC scope cl C X.env) fp) ifs (trT ⟨Y.T, B, E00⟩ t))
    (he : ∀ (B : Hp) (s : Shared) (H : Hp) (C : Addr) (cl : List (Str × Addr)) (fp : List Addr), PE (X.blk s H scope (compEnvC scope cl C X.env) fp) elt (trE ⟨Y.T, B, E00⟩ f)) (hy : X.N[i]? = some y := by rfl) (hyl : X.env.scope.names.lookup y = some .local := by rfl)
    (hsw : swapsWith (.ListComp elt [⟨tgx, iter, ifs, 0⟩] scope pos) (some (.Name y py)) spos.line X.env = pure true := by exact sw_true rfl rfl rfl (by decide +kernel)) (hc : X.calm = true := by rfl) (hs : ∀ x, foldedSetIterable iter X.env x = pure x := by intro _; rfl) :
    PS X (.Assign [.Name y py] (.ListComp elt [⟨tgx, iter, ifs, 0⟩] scope pos) spos) (trS Y (sSet i (eLC src (own.map (·.2)) tg t f))) :=
  PS.imp (ps_setLc hc hN hy hyl hsw hi ok hg (fun s H C cl fp => pt_any fun B => ht B s H C cl fp) (fun s H C cl fp => pe_any fun B => he B s H C cl fp) hs) fun D σ H q => by
    refine lc_at og hv ?_
    obtain ⟨gh, sd, own0, R, S, q⟩ := q
    refine s_bind R S q fun g1 o1 x v H1 R1 S1 e1 rx q1 => ?_
    exact sat_nx q1 rfl g1 _ H1 R1 (S1.set rx) .rfl'
end
end Gx
end T_GxR9
section T_GxR10
set_option Elab.async false
set_option linter.all false
set_option maxRecDepth 100000
set_option maxHeartbeats 4000000
namespace Gx
open PySem PySem.Spec PyProof.Rows L2

/-! ## fields -/
theorem zip_look : ∀ {ns : List Str} {ws : List V} {i : Nat} {n : Str} {v : V}, ns.Nodup → ns[i]? = some n → ws[i]? = some v → (ns.zip ws).lookup n = some v
  | [], _, _, _, _, _, h, _ => by simp at h
  | m :: ns, [], _, _, _, _, _, h => by simp at h
  | m :: ns, w :: ws, 0, n, v, _, h1, h2 => by
    simp at h1 h2
    subst h1 h2
    simp [List.lookup]
  | m :: ns, w :: ws, i + 1, n, v, nd, h1, h2 => by
    rw [List.nodup_cons] at nd
    have h1 : ns[i]? = some n := by simpa using h1
    have h2 : ws[i]? = some v := by simpa using h2
    have ne : n ≠ m := fun z => nd.1 (by rw [← z]; exact List.mem_of_getElem? h1)
    have ih := zip_look nd.2 h1 h2
    rw [List.zip_cons_cons, List.lookup_cons, beq_false_of_ne ne]
    exact ih
theorem zip_put : ∀ {ns : List Str} {ws : List V} {i : Nat} {n : Str} {v : V}, ns.Nodup → ns[i]? = some n → i ≤ ws.length → putF n v (ns.zip ws) = ns.zip (if i < ws.length then ws.set i v else ws ++ [v])
  | [], _, _, _, _, _, h, _ => by simp at h
  | m :: ns, [], 0, n, v, _, h, _ => by
    simp at h; subst h
    simp [putF]
  | m :: ns, [], i + 1, _, _, _, _, h => by simp at h
  | m :: ns, w :: ws, 0, n, v, _, h1, h2 => by
    simp at h1
    subst h1
    simp [putF]
  | m :: ns, w :: ws, i + 1, n, v, nd, h1, h2 => by
    rw [List.nodup_cons] at nd
    have h1 : ns[i]? = some n := by simpa using h1
    have ne : ¬ (m = n) := fun z => nd.1 (by rw [z]; exact List.mem_of_getElem? h1)
    have ih := zip_put (ws := ws) (v := v) nd.2 h1 (by simpa using h2)
    rw [List.zip_cons_cons]
    unfold putF
    rw [if_neg ne, ih]
    by_cases c : i < ws.length
    · rw [if_pos c, if_pos (by simp; exact c)]; rfl
    · rw [if_neg c, if_neg (by simp; omega)]; rfl
theorem flds_nd : ∀ c : Nat, (flds c).Nodup := by
  intro c
  unfold flds
  split <;> decide +kernel
/-- o.f, the i-th field of the class c -/
def eFld (c i : Nat) (f : EM) : EM := f.bind fun x => M.ask fun own => match x with
  | .d (.obj c' vs) => if c' = c then (vs[i]?).map SV.d else none
  | .h k => match own[k]? with
    | some (.ins c' vs) => if c' = c then vs[i]? else none
    | _ => none
  | _ => none
/-- o.f = e -/
def putFld (c i : Nat) (own : Own) (o x : SV) : Option Own := match o with
  | .h k => match own[k]? with
    | some (.ins c' vs) => if c' = c ∧ i ≤ vs.length then some (own.set k (.ins c (if i < vs.length then vs.set i x else vs ++ [x]))) else none
    | _ => none
  | _ => none
def sFldS (c i : Nat) (o e : EM) : SM := SM.bind e fun x => SM.bind o fun a => fun sd own => (putFld c i own a x).map fun own' => .nx sd own'
section
variable {X : Cx} {Y : Cy} {pos pos' : Pos} {a b : Expr} {f g : EM} {name : Str} {c i : Nat}
theorem r_fld (c i : Nat) (cl : Cls X.K (Y.T.ct c)) (na : NoAttr X.K (Y.T.ct c) name) (h : PE X a (trE Y f)) (hf : (flds c)[i]? = some name := by rfl) (hb : attributeBase a name X.env (eval a X.env) = eval a X.env := by rfl) : PE X (.Attribute a name pos) (trE Y (eFld c i f)) := by
  refine PE.imp (pe_fld h hb) fun σ H Q q => ?_
  obtain ⟨gh, sd, own, R, S, q⟩ := q
  refine at_bind R S q fun g1 o1 x v H1 R1 S1 e1 rx q1 => ?_
  obtain ⟨s, es, k⟩ := at_ask q1
  cases x with
  | d d =>
    cases d with
    | obj c' vs =>
      have es2 : (if c' = c then (vs[i]?).map SV.d else none) = some s := es
      clear es
      by_cases cc : c' = c
      · rw [if_pos cc] at es2
        subst cc
        obtain ⟨d, e2, e3⟩ := Option.map_eq_some_iff.mp es2
        subst e3
        have rx : Rep Y.T g1.F (.obj c' vs) v := rx
        cases rx with
        | @obj p dx _ ws _ h1 h2 h3 =>
          obtain ⟨v, e4, r4⟩ := h3.get e2
          exact ⟨p, _, dx, _, v, rfl, R1.f _ _ h1, cl, na, zip_look (flds_nd _) hf e4, k g1 v H1 R1 .rfl' r4⟩
      · rw [if_neg cc] at es2; cases es2
    | _ => cases es
  | h kk =>
    have es : (match o1[kk]? with | some (.ins c' vs) => if c' = c then vs[i]? else none | _ => none) = some s := es
    cases eo : o1[kk]? with
    | none => rw [eo] at es; cases es
    | some o =>
      rw [eo] at es
      cases o with
      | ins c' vs =>
        have es2 : (if c' = c then vs[i]? else none) = some s := es
        clear es
        by_cases cc : c' = c
        · rw [if_pos cc] at es2
          subst cc
          obtain ⟨dx, ws, h1, h2, h3⟩ := R1.o kk _ eo
          obtain ⟨v2, e4, r4⟩ := h3.get es2
          have hv := rx.2
          subst hv
          exact ⟨_, _, dx, _, v2, rfl, h1, cl, na, zip_look (flds_nd _) hf e4, k g1 v2 H1 R1 .rfl' r4⟩
        · rw [if_neg cc] at es2; cases es2
      | _ => cases es
theorem flds_few (c : Nat) : (flds c).length ≤ 4 := by
  unfold flds
  split <;> decide
theorem rs_fld (c i : Nat) (cl : Cls X.K (Y.T.ct c)) (na : NoAttr X.K (Y.T.ct c) name) (ho : PE X a (trE Y f)) (hv : PE X b (trE Y g)) (hf : (flds c)[i]? = some name := by rfl) (hs : swapsWith b (some (.Attribute a name pos')) pos.line X.env = pure false := by rfl) :
    PS X (.Assign [.Attribute a name pos'] b pos) (trS Y (sFldS c i f g)) := by
  refine PS.imp (ps_fld ho hv hs) fun D σ H q => ?_
  obtain ⟨gh, sd, own, R, S, q⟩ := q
  refine s_bind R S q fun g1 o1 x v H1 R1 S1 e1 rx q1 => ?_
  refine s_bind R1 S1 q1 fun g2 o2 y w H2 R2 S2 e2 ry q2 => ?_
  obtain ⟨r, e, k⟩ := q2
  obtain ⟨own', e3, e4⟩ := Option.map_eq_some_iff.mp e
  subst e4
  cases y with
  | d d => cases e3
  | h kk =>
    have e3 : (match o2[kk]? with | some (.ins c' vs) => if c' = c ∧ i ≤ vs.length then some (o2.set kk (.ins c (if i < vs.length then vs.set i x else vs ++ [x]))) else none | _ => none) = some own' := e3
    cases eo : o2[kk]? with
    | none => rw [eo] at e3; cases e3
    | some o =>
      rw [eo] at e3
      cases o with
      | ins c' vs =>
        have e3 : (if c' = c ∧ i ≤ vs.length then some (o2.set kk (.ins c (if i < vs.length then vs.set i x else vs ++ [x]))) else none) = some own' := e3
        by_cases cc : c' = c ∧ i ≤ vs.length
        · rw [if_pos cc] at e3
          cases e3
          obtain ⟨rfl, hi⟩ := cc
          obtain ⟨dx, ws, h1, h2, h3⟩ := R2.o kk _ eo
          have hw := ry.2
          subst hw
          have hl := h3.length
          have rx2 := rx.ext e2
          refine ⟨_, _, dx, _, rfl, h1, cl, na, ?_, ?_⟩
          · have := flds_few c'
            rw [List.length_zip]
            omega
          · rw [zip_put (flds_nd _) hf (by rw [← hl]; exact hi)]
            have fi : i < (flds c').length := (List.getElem?_eq_some_iff.mp hf).1
            have R3 := R2.put (ho := .ins (Y.T.ct c') dx ((flds c').zip (if i < ws.length then ws.set i v else ws ++ [v]))) (o' := .ins c' (if i < vs.length then vs.set i x else vs ++ [x])) eo rfl (by
              refine ⟨dx, _, upd_same, ?_, ?_⟩
              · by_cases c3 : i < ws.length
                · rw [if_pos c3, List.length_set]; exact h2
                · rw [if_neg c3, List.length_append]; simp; omega
              · rw [← hl]
                by_cases c3 : i < vs.length
                · rw [if_pos c3, if_pos c3]; exact h3.set i rx2
                · rw [if_neg c3, if_neg c3]; exact h3.snoc rx2)
            exact k g2 σ _ R3 (by rw [List.length_set]; exact S2) (by rw [List.length_set]; exact .rfl')
        · rw [if_neg cc] at e3; cases e3
      | _ => cases e3
end
/-! ## a new instance -/
structure Ma (P : Program) (w : World) (K : PySem.W.Frag) (mg : Str → Option Value) (base : Heap) (T : Tb) (k : Nat) (x : Str) (c n : Nat) (Ff : FM) : Prop where
  ex : ∃ (f : Addr) (fd : FuncData) (ps : List Str), mg x = some (.ref (T.ct c)) ∧ Mk K (T.ct c) f ∧ Binds K fd ps [] ∧ FnOk P w K mg base (L2.CX P w) k f fd ps (spF T (n + 1) Ff)
/-- the instance is data behind its __init__ -/
def makeD (c n : Nat) (Ff : FM) (xs : List SV) : EM := fun _ own => if xs.length ≠ n then none else match dats xs with
  | none => none
  | some _ => match Ff (.h 0 :: xs) [.ins c []] with
    | some (.ok (.d .non), own') => (match (own'[0]?).bind frzO with
      | some z => some (.ok (.d z), own)
      | none => none)
    | some (.ex k fs, _) => some (.ex k fs, own)
    | _ => none
def eMakeD (c n : Nat) (Ff : FM) (a : AM) : EM := a.bind fun xs => makeD c n Ff xs
/-- .. is one of ours -/
def makeH (c n : Nat) (Ff : FM) (xs : List SV) : EM := fun _ own => if xs.length ≠ n then none else match dats xs with
  | none => none
  | some _ => match Ff (.h 0 :: xs) [.ins c []] with
    | some (.ok (.d .non), own') => (match own'[0]? with
      | some o => if flatO o = true then some (.ok (.h own.length), own ++ [o]) else none
      | none => none)
    | some (.ex k fs, _) => some (.ex k fs, own)
    | _ => none
def eMakeH (c n : Nat) (Ff : FM) (a : AM) : EM := a.bind fun xs => makeH c n Ff xs
section
variable {X : Cx} {CX : CXT} {k : Nat} {C f : Addr} {fd : FuncData} {ps : List Str} {sp : Sp} {E : L2.St → XK} {x : Str} {p pos : Pos} {e : Expr} {es : List Expr} {t : TA}
/-- C(e, ..): what is raised is wished for at the caller's slots -/
def tMakeS (C : Addr) (sp : Sp) (E : L2.St → XK) (t : TA) : TE := fun σ H Q => t σ H fun vs H1 => ∀ x dx, H1 x = none → H1 dx = none → dx ≠ x →
  sp (.ref x :: vs) (upd (upd H1 dx (.own x)) x (.ins C dx [])) (fun v H2 => v = .non ∧ Q (.ref x) H2) (E σ)
theorem pe_makeS (M1 : Mk X.K C f) (F : FnOk X.prog X.w X.K X.mg X.base CX k f fd ps sp) (hr : Room (k + 1) X.A) (hg : Gl X x) (hm : X.mg x = some (.ref C)) (hb : Binds X.K fd ps []) (hx : ∀ σ, PassesAt CX X σ (E σ))
    (ha : PA X (e :: es) t) (hdb : (x == ("__debug__" : Str)) = false := by decide) (he : starEach (e :: es) X.env = (false, eval e X.env) :: starEach es X.env := by rfl) (hpl : (backTo pos (starEach es X.env)).any (·.1) = false := by rfl) :
    PE X (.Call (.Name x p) (e :: es) [] pos) (tMakeS C sp E t) := by
  constructor
  intro pins s σ H Q I h
  apply wpAny_Call_Name_kw
  apply ld_glob I hg hm _ hdb
  apply PySem.W.callWith_K (h₀ := X.base) I.ok.mod.kin M1.kp _ he hpl
  apply thn (ha.run pos pins s σ H _ I h)
  rintro us s1 ⟨vs, H1, I1, rv, wish⟩
  refine And.intro I1.kIn ?_
  -- the new instance, its dict ahead of it
  have w1 := wish (s1.heap.objs.size + 1) s1.heap.objs.size (I1.hok.fresh (Nat.le_succ _)) (I1.hok.fresh (Nat.le_refl _)) (Nat.ne_of_lt (Nat.lt_succ_self _))
  have J := Inv.made (C := C) I1
  have rvs : Vals (V.ref (s1.heap.objs.size + 1) :: vs) (Value.ref (s1.heap.objs.size + 1) :: us) := Paired.cons rfl rv
  have hl : (Value.ref (s1.heap.objs.size + 1) :: us).length = ps.length := (rvs.length.symm).trans (F.len _ _ _ _ w1)
  have bound := hb _ (Value.ref (s1.heap.objs.size + 1) :: us) J.kIn (by rw [List.append_nil]; exact hl)
  rw [List.append_nil] at bound
  have ran := F.run _ X.stack _ _ ⟨Value.ref (s1.heap.objs.size + 1) :: us, []⟩ (Value.ref (s1.heap.objs.size + 1) :: us) _ _ (E σ) (hr.make C us []) (J.env0.make C us []) bound rvs w1
  apply wpAny_call
  apply make_map (f := f) I1.kIn M1.makes M1.init (beq_iff_eq.mp M1.fn)
  apply codeAny_mono ran
  intro r s2 hr2
  match r, hr2 with
  | .error u, hr2 => exact hx σ pins _ _ u s2 J hr2
  | .ok (.ret u), hr2 =>
    obtain ⟨v, H3, I3, ru, ev, q3⟩ := J.after hr2
    subst ev
    exact And.intro ru ⟨V.ref (s1.heap.objs.size + 1), H3, I3, rfl, q3⟩
  | .ok .next, hr2 => exact (show False from hr2).elim
  | .ok .brk, hr2 => exact (show False from hr2).elim
  | .ok .cont, hr2 => exact (show False from hr2).elim
end
/-- a callee started with a new instance -/
theorem hrel_ins {T : Tb} {F H1 : Hp} {x dx : Addr} {c : Nat} (l : Le F H1) (hx : H1 x = none) (hd : H1 dx = none) :
    HRel T (wo (upd (upd H1 dx (.own x)) x (.ins (T.ct c) dx [])) x) ⟨F, fun _ => x⟩ [.ins c []] (upd (upd H1 dx (.own x)) x (.ins (T.ct c) dx [])) := by
  refine ⟨wo_le, fun a o e => ?_, fun j q e => ?_, fun j q e hl => ⟨wo_same, ?_⟩, fun i j p q e1 e2 _ _ _ => ?_⟩
  · have e2 := l _ _ e
    rw [upd_ne (ne_of_none e2 hx), upd_ne (ne_of_none e2 hd)]; exact e2
  · match j, e with
    | 0, e => cases e; exact ⟨dx, [], by rw [List.zip_nil_right]; exact upd_same, Nat.zero_le _, .nil⟩
    | j + 1, e => simp at e
  · show F x = none
    cases e : F x with
    | none => rfl
    | some o => rw [l _ _ e] at hx; cases hx
  · match i, j, e1, e2 with
    | 0, 0, _, _ => rfl
    | i + 1, _, e1, _ => simp at e1
    | 0, j + 1, _, e2 => simp at e2
theorem ins_keep {H1 H' : Hp} {x dx : Addr} {o : HO} (hx : H1 x = none) (hd : H1 dx = none) (b : Le (wo (upd (upd H1 dx (.own x)) x o) x) H') : Le H1 H' := fun a u e => by
  have n1 := ne_of_none e hx
  refine b a u ?_
  rw [wo_ne n1, upd_ne n1, upd_ne (ne_of_none e hd)]; exact e
theorem ins_fb {H1 : Hp} {x dx : Addr} {o : HO} (hx : H1 x = none) {a : Addr} (b : wo (upd (upd H1 dx (.own x)) x o) x a = none) : H1 a = none := by
  by_cases c : a = x
  · rw [c]; exact hx
  · rw [wo_ne c, upd_ne c] at b
    by_cases c2 : a = dx
    · rw [c2, upd_same] at b; cases b
    · rw [upd_ne c2] at b; exact b
section
variable {X : Cx} {Y : Cy} {k j n c : Nat} {x : Str} {Ff : FM} {p pos : Pos} {a : Expr} {es : List Expr} {al : AM}
theorem r_makeD (m : Ma X.prog X.w X.K X.mg X.base Y.T k x c n Ff) (hr : Room j X.A) (hk : k + 1 ≤ j) (cx : CxOk X Y) (ha : PA X (a :: es) (trA Y al)) (hg : Gl X x := by rfl) (hdb : (x == ("__debug__" : Str)) = false := by decide)
    (he : starEach (a :: es) X.env = (false, eval a X.env) :: starEach es X.env := by rfl) (hpl : (backTo pos (starEach es X.env)).any (·.1) = false := by rfl) : PE X (.Call (.Name x p) (a :: es) [] pos) (trE Y (eMakeD c n Ff al)) := by
  obtain ⟨f, fd, ps, hm, hM, hb, F⟩ := m.ex
  refine PE.imp (pe_makeS (E := Y.Ek) hM F (hr.mono hk) hg hm hb cx.pass ha hdb he hpl) fun σ H Q q => ?_
  obtain ⟨gh, sd, own, R, S, q⟩ := q
  refine at_bind R S q fun g1 o1 xs vs H1 R1 S1 e1 rs q1 => ?_
  obtain ⟨r, own2, e, kq⟩ := q1
  intro x dx hx hd hne
  unfold makeD at e
  by_cases hl : xs.length = n
  case neg => rw [if_pos hl] at e; cases e
  rw [if_neg (fun z => z hl)] at e
  cases ed : dats xs with
  | none => simp only [ed] at e; cases e
  | some ds =>
    simp only [ed] at e
    cases ef : Ff (.h 0 :: xs) [.ins c []] with
    | none => simp only [ef] at e; cases e
    | some pr =>
      obtain ⟨rf, of⟩ := pr
      simp only [ef] at e
      refine ⟨_, ⟨g1.F, fun _ => x⟩, [.ins c []], .h 0 :: xs, hrel_ins R1.f hx hd, .cons ⟨by simp, rfl⟩ (dats_rss (g := g1) (g' := ⟨g1.F, fun _ => x⟩) (fun _ _ h => h) xs vs ds ed rs), by rw [List.length_cons, hl], rf, of, ef, ?_⟩
      cases rf with
      | ok s =>
        cases s with
        | h j => simp only at e; cases e
        | d z =>
          cases z with
          | non =>
            simp only at e
            cases er : (of[0]?).bind frzO with
            | none => simp only [er] at e; cases e
            | some z =>
              simp only [er] at e
              cases e
              intro g' v H' R' e' rv
              obtain ⟨o, eo, ez⟩ := Option.bind_eq_some_iff.mp er
              obtain ⟨ho, eh, rz⟩ := frz_rel R' eo ez
              obtain ⟨R3, e3⟩ := R'.freeze eo (frzO_live ez) eh
              have e4 := e'.trans e3
              have ρ0 : g'.ρ 0 = x := e'.ρ 0 (by simp)
              rw [ρ0] at rz e4 R3
              obtain ⟨R2, e2⟩ := R1.after (F' := L2.upd g'.F x ho) (ins_keep hx hd R'.b) e4.F R3.f fun a o h => (e4.fb a o h).imp id (ins_fb hx)
              exact ⟨rep_non rv, kq _ _ H' R2 e2 rz⟩
          | _ => simp only at e; cases e
      | ex cc fs =>
        simp only at e
        cases e
        intro g' d H' R' e' xd
        obtain ⟨R2, e2⟩ := R1.after (ins_keep hx hd R'.b) e'.F R'.f fun a o h => (e'.fb a o h).imp id (ins_fb hx)
        refine kq _ d H' R2 e2 ?_
        rcases xd with xd | ⟨a, ws, h1, h2, h3⟩
        · exact .inl xd
        · exact .inr ⟨a, ws, h1, h2, h3⟩
end
end Gx
end T_GxR10
section T_GxE1
set_option Elab.async false
set_option linter.all false
set_option maxRecDepth 100000
set_option maxHeartbeats 4000000
namespace Gx
open PySem PySem.Spec PyProof.Rows L2

/-! ## an exception's __init__ that asks super() -/
/-- {x}: a text, an int, None -/
def tFn (te : TE) : TE := fun σ H Q => te σ H fun x H1 => (∃ i : Int, x = .int i ∧ i.natAbs.log2 < 1920 ∧ Q (.str (toString i)) H1) ∨ (x = .non ∧ Q (.str "None") H1)
section
variable {X : Cx}
theorem pe_fmtN {e : Expr} {te : TE} {pos : Pos} (he : PE X e te) : PE X (.FormattedValue e (-1) none pos) (tFn te) := by
  constructor
  intro pins s σ H Q I h
  apply wpAny_FormattedValue_plain
  apply thn (he.run pins s σ H _ I h)
  rintro v s1 ⟨x, H1, I1, r1, q⟩
  rcases q with ⟨i, rfl, hz, q⟩ | ⟨rfl, q⟩
  · obtain ⟨t, rfl⟩ := r1
    exact wpAny_formatField_int hz ⟨.str (toString i), H1, I1.tok _, ⟨_, rfl⟩, q⟩
  · obtain rfl : v = Value.none := r1
    exact wpAny_formatField_none ⟨.str "None", H1, I1.tok _, ⟨_, rfl⟩, q⟩
end

/-- the context of such a body -/
def cxS (P : Program) (w : World) (K : PySem.W.Frag) (mg : Str → Option Value) (base : Heap) (N : List Str) (qual : Str) (scope : Scope) (f : Addr) (cd : Value) (cc : Addr) (A : Around) (outer : List Env) (s : Shared) (H : Hp) (E : XK) : Cx where
  prog := P
  w := w
  K := K
  mg := mg
  base := base
  A := A.deeper (PySem.W.ksEnv qual scope s.heap.objs.size f cd cc)
  N := N
  s_0 := s
  H_0 := H
  env := PySem.W.ksEnv qual scope s.heap.objs.size f cd cc
  outer := outer
  stack := PySem.W.ksEnv qual scope s.heap.objs.size f cd cc :: outer
  ex := []
  calm := true
  fn := fun _ => false
  pn := []
  xe := fun e s' => wpAny (model P w) (A.deeper (PySem.W.ksEnv qual scope s.heap.objs.size f cd cc)) (leaving (PySem.W.ksEnv qual scope s.heap.objs.size f cd cc) e) (fun _ s'' => L2.CX P w outer H s E e s'') (fun e' s'' => L2.CX P w outer H s E e' s'') s'

/-- the scope of such a body -/
structure SupScope (N ps : List Str) (sc : Scope) : Prop where
  kind : sc.kind = .function
  co : sc.isCoroutine = false
  gen : sc.isGenerator = false
  nd : N.Nodup
  pre : N.take ps.length = ps
  par : ∀ x ∈ ps, sc.names.lookup x = some .local
  nocell : ∀ x ∈ sc.names, x.2 ≠ .cell
  free : ∀ x, sc.names.lookup x = some .free → x = "__class__"
  sup : sc.names.lookup ("super" : Str) = some .globalImplicit
  cls : sc.names.lookup ("__class__" : Str) = some .free

theorem zip_sub : ∀ (ps : List Str) (us : List Value), ((ps.zip us).map (·.1)).Sublist ps
  | [], _ => by simp
  | p :: ps, [] => by simp
  | p :: ps, u :: us => by
    rw [List.zip_cons_cons, List.map_cons]
    exact (zip_sub ps us).cons₂ _
theorem zip_last {ps : List Str} {us : List Value} {i : Nat} {x : Str} {u : Value} (nd : ps.Nodup) (h1 : ps[i]? = some x) (h2 : us[i]? = some u) : (ps.zip us).reverse.lookup x = some u := by
  have key : ∀ (l : List (Str × Value)), (l.map (·.1)).Nodup → (x, u) ∈ l → l.lookup x = some u := by
    intro l
    induction l with
    | nil => intro _ h; cases h
    | cons p l ih =>
      intro nd h
      obtain ⟨y, v⟩ := p
      rw [List.map_cons, List.nodup_cons] at nd
      rcases List.mem_cons.mp h with e | h
      · cases e
        rw [List.lookup_cons, beq_self_eq_true]
      · have ne : x ≠ y := fun z => nd.1 (by rw [← z]; exact List.mem_map.mpr ⟨_, h, rfl⟩)
        rw [List.lookup_cons, beq_false_of_ne ne]
        exact ih nd.2 h
  have hm : (x, u) ∈ ps.zip us := by
    have hz : (ps.zip us)[i]? = some (x, u) := by
      rw [List.getElem?_zip_eq_some]
      exact ⟨h1, h2⟩
    exact List.mem_of_getElem? hz
  refine key _ ?_ (List.mem_reverse.mpr hm)
  rw [List.map_reverse]
  have hs : ((ps.zip us).map (·.1)).Sublist ps := by
    exact zip_sub ps us
  exact List.pairwise_reverse.mpr ((nd.sublist hs).imp fun h => Ne.symm h)

section
variable {P : Program} {w : World} {K : PySem.W.Frag} {mg : Str → Option Value} {base : Heap} {N ps : List Str} {qual : Str} {scope : Scope} {f cc : Addr} {cd : Value} {A : Around} {outer : List Env} {s : Shared} {H : Hp} {E : XK} {us : List Value} {vs : List V}
theorem inv_sup {h1 : Heap} {tk : Nat} {u : Value} (S : SupScope N ps scope) (hd : A.handled = none) (e0 : Env0 P w K mg base A outer s H) (hl : vs.length = ps.length) (r : Vals vs us) (hcc : ∃ oc od osl, K.lookup cc = some ⟨oc, od, .cell (some u), osl⟩)
    (hn : h1.Ns s.heap.objs.size fun x => (ps.zip us).reverse.lookup x) (hk : ∀ b o, s.heap.get? b = some o → h1.get? b = some o) :
    Inv (cxS P w K mg base N qual scope f cd cc A outer s H E) [] (L2.start N vs) H { s with heap := h1, toks := tk } := by
  have hpl : ps.length ≤ N.length := by have := congrArg List.length S.pre; rw [List.length_take] at this; omega
  have noA : ∀ b : Addr, b ∉ (cxS P w K mg base N qual scope f cd cc A outer s H E).ex := fun b z => absurd (show b ∈ ([] : List Addr) from z) (by simp)
  have cells : ∀ y c, (cxS P w K mg base N qual scope f cd cc A outer s H E).env.cells.lookup y = some c → y = "__class__" ∧ c = cc := fun y c e => by
    have e : List.lookup y [(("__class__" : Str), cc)] = some c := e
    rw [List.lookup_cons] at e
    cases hb : (y == ("__class__" : Str)) with
    | false => rw [hb] at e; cases e
    | true => rw [hb] at e; cases e; exact ⟨beq_iff_eq.mp hb, rfl⟩
  obtain ⟨oc, od, osl, hcc⟩ := hcc
  have ccb := e0.mod.kin _ _ hcc
  have ccs := e0.bs _ _ ccb
  refine ⟨⟨e0.mod, S.kind, rfl, rfl, Nat.le_refl _, fun y z c h1 h2 => (cells y c h1).1.trans (cells z c h2).1.symm, fun y hy => ?_, fun y c h => (by cases h), fun _ => hd, Around.frames_deeper e0.frames, .inr ⟨rfl, rfl⟩, fun b z => absurd z (noA b), e0.bs, e0.bsz, fun b _ _ => noA b, fun b z => absurd z (noA b), e0.funs, e0.frf⟩,
    rfl, e0.bare, Un.kept hk, ⟨_, hn, fun i y v h1 h2 h3 => ?_⟩, fun y c h => ?_, e0.hok.fresh (Nat.le_refl _), fun y c h => ?_, fun p hp => absurd (show p ∈ ([] : List (Addr × Obj)) from hp) (by simp), e0.hok.kept hk, ?_⟩
  · have hy : scope.names.lookup y = some .cell ∨ scope.names.lookup y = some .free := hy
    rcases hy with hy | hy
    · exact absurd rfl (S.nocell _ (PySem.mem_of_lookup hy))
    · rw [S.free _ hy]
      exact ⟨cc, rfl⟩
  · have hi : i < vs.length := by
      unfold L2.start at h2
      by_cases hi : i < vs.length
      · exact hi
      · rw [List.getElem?_append_right (by simpa using hi), List.getElem?_replicate] at h2
        split at h2 <;> cases h2
    have ha : vs[i]? = some v := by
      unfold L2.start at h2
      rw [List.getElem?_append_left (by simpa using hi), List.getElem?_map] at h2
      obtain ⟨a, e, e2⟩ := Option.map_eq_some_iff.mp h2
      cases e2
      exact e
    obtain ⟨u, hu, rv⟩ := r.get ha
    have hp : ps[i]? = some y := by
      rw [← S.pre, List.getElem?_take_of_lt (by omega)]; exact h1
    have ndP : ps.Nodup := by rw [← S.pre]; exact S.nd.sublist (List.take_sublist _ _)
    exact ⟨u, rv, .inl ⟨S.par y (List.mem_of_getElem? hp), zip_last ndP hp hu⟩⟩
  · obtain ⟨_, rfl⟩ := cells y c h
    exact ⟨_, _, hk _ _ ccs.1, rfl⟩
  · obtain ⟨_, rfl⟩ := cells y c h
    exact ccs.2
  · unfold L2.start
    show _ = N.length
    rw [List.length_append, List.length_map, List.length_replicate]
    omega
end

/-! ### the statement super().__init__(e, ..) -/
/-- what the written part says of the def -/
structure SupDef (P : Program) (K : PySem.W.Frag) (C f cc cda : Addr) (fd : FuncData) (qual : Str) (params : Arguments) (body : List Stmt) (scope : Scope) : Prop where
  fn : ∃ name kV doc pm ct oc an od osl, fd = PySem.W.ksFn name qual params body scope .none kV doc pm an (.ref cda) ct cc ∧ K.lookup f = some ⟨oc, od, .func fd, osl⟩
  code : PySem.W.codeIn K (.ref cda) qual = true
  file : ∃ ccl cdd vs ccs file tf, K.lookup cda = some ⟨ccl, cdd, .fields vs, ccs⟩ ∧ vs[2]? = some (.str file tf) ∧ ((P.main.file : Str) == file) = true
  cell : ∃ oc od osl, K.lookup cc = some ⟨oc, od, .cell (some (.ref C)), osl⟩
  top : (P.main.scope.names.lookup ("super" : Str)).isSome = false
  mgs : PySem.W.nsIn K mainGlobals "super" = some none
  opq : PySem.W.nsIn K cStatics "thirdparty.any" = some none
  sup : PySem.W.ks_superIn K C C "__init__" = some (some (.builtin "ValueError.__init__"))
  mro : PySem.W.mroIn K C (.ref C) = some true
  vE : PySem.W.subIn K (.ref C) (.type "ValueError") = some true
  exc : OexC K C
theorem SupDef.cell' {P : Program} {K : PySem.W.Frag} {C f cc cda : Addr} {fd : FuncData} {qual : Str} {params : Arguments} {body : List Stmt} {scope : Scope} (S : SupDef P K C f cc cda fd qual params body scope) :
    ∃ oc od osl, K.lookup cc = some ⟨oc, od, .cell (some (.ref C)), osl⟩ := S.cell
section
variable {P : Program} {w : World} {K : PySem.W.Frag} {mg : Str → Option Value} {base : Heap} {N ps : List Str} {qual : Str} {scope : Scope} {C f cc cda : Addr} {A : Around} {outer : List Env} {s0 : Shared} {H0 : Hp} {E : XK} {fd : FuncData} {params : Arguments} {body : List Stmt}
variable {X : Cx} {pins : List (Addr × Obj)} {σ : St} {H : Hp} {s : Shared}
/-- ValueError.__init__ bound to the exception, called -/
theorem sup_call {us : List Value} {a u : Addr} {Q : Value → Shared → Prop} (T : OexC X.K C) (I : Inv X pins σ H s) (e : H a = some (exo a C none)) (hu : s.heap.get? u = some (PySem.W.kxs_mw "ValueError.__init__" a)) (hl : us.length ≤ sizeLine)
    (h : ∀ s', Inv X pins σ H s' → Q .none s') : wpAny (model X.prog X.w) X.A (call (.ref u) us) Q X.xe s := by
  obtain ⟨nm, q, N', bs, bm, sn, sub, ab, col, dd, k0, k1, k2, k3, k5, hC, hbm⟩ := T.cls
  obtain ⟨t1, ho⟩ := exo_at I.hok e
  have hCs := I.kIn _ _ hC
  obtain ⟨hp, g, d, t, os⟩ := s
  have fin : ∀ h', (∀ b o, b ≠ a → hp.get? b = some o → h'.get? b = some o) → h'.get? a = some (PySem.W.excRec (.ref C) hp.objs.size none .none .none (.bool false)) → h'.get? hp.objs.size = some (PySem.W.excTup us) → Q .none ⟨h', g, d, t, os⟩ := fun h' k e' _ => by
    have J := I.write (t' := t) (x := a) (e := a) (o := exo a C none) (by rw [e]; exact True.intro) (.inl rfl) k ⟨_, e'⟩ (exo_ok e')
    have eu : upd H a (exo a C none) = H := by
      funext b
      by_cases hb : b = a
      · rw [hb, upd_same, e]
      · rw [upd_ne hb]
    rw [eu] at J
    exact h _ J
  refine wpAny_call (codeAny_of_tree ?_)
  show wpAny _ X.A.in1 (callAny (.ref u) ⟨us, []⟩) _ _ _
  simp only [callAny]
  refine wpAny_bind (wpAny_load hu ?_)
  simp only [PySem.W.kxs_mw, show (Value.type "method-wrapper" == Value.type "method" || Value.type "method-wrapper" == Value.type "builtin_function_or_method" || Value.type "method-wrapper" == Value.type "method-wrapper") = true by decide, if_true]
  refine PySem.W.KFB.if_so (by decide) ?_
  refine wpAny_bind (PySem.W.check_bound_init F.excBase_ValueError.toExcCallFacts hCs ho rfl ?_)
  refine wpAny_bind (wpAny_pure (wpAny_pure ?_))
  refine ⟨PySem.plainId_quiet F.excBase_ValueError.init.plain _, codeAny_builtin F.excBase_ValueError.initEntry ?_⟩
  exact PySem.W.exc_init_tree (cls := .ref C) (t0 := t1) (dv := none) (c2 := .none) (c3 := .none) (b4 := .bool false) ho hl fin

theorem sup_body {e1 : Expr} {es : List Expr} {p0 p1 p2 p3 p4 : Pos} {ta : TA} {rest : List Stmt} {t : TS} {D : Ends} {a : Addr} {ar : Arg} {pl : Sem Bool} {bd : List Stmt}
    (SD : SupDef P K C f cc cda fd qual params body scope) (S : SupScope N ps scope) (hp : (params.posonlyargs ++ params.args).head? = some ar) (h0 : N[0]? = some ar.arg) (h1 : ps[0]? = some ar.arg)
    (ha : PA (cxS P w K mg base N qual scope f (.ref cda) cc A outer s0 H0 E) (e1 :: es) ta) (hr : PSs (cxS P w K mg base N qual scope f (.ref cda) cc A outer s0 H0 E) rest t)
    (I : Inv (cxS P w K mg base N qual scope f (.ref cda) cc A outer s0 H0 E) [] σ H s) (ea : H a = some (exo a C none)) (hσ : σ[0]? = some (some (.ref a))) (hm : mg "super" = none)
    (h : ta σ H fun vs H1 => vs.length ≤ 1000 ∧ H1 a = some (exo a C none) ∧ t D σ H1)
    (hs : swapsWith (.Call (.Attribute (.Call (.Name "super" p0) [] [] p1) "__init__" p2) (e1 :: es) [] p3) none p4.line (cxS P w K mg base N qual scope f (.ref cda) cc A outer s0 H0 E).env = pure false)
    (hc : eval (.Call (.Attribute (.Call (.Name "super" p0) [] [] p1) "__init__" p2) (e1 :: es) [] p3) (cxS P w K mg base N qual scope f (.ref cda) cc A outer s0 H0 E).env = (do
      let ov ← attributeBase (.Call (.Name "super" p0) [] [] p1) "__init__" (cxS P w K mg base N qual scope f (.ref cda) cc A outer s0 H0 E).env (eval (.Call (.Name "super" p0) [] [] p1) (cxS P w K mg base N qual scope f (.ref cda) cc A outer s0 H0 E).env)
      standAt p2.atName
      let (fx, first) ← holding [ov] (getMethod ov "__init__" pl)
      callWith p3 fx first (backTo p3 (starEach (e1 :: es) (cxS P w K mg base N qual scope f (.ref cda) cc A outer s0 H0 E).env)) []))
    (he : starEach (e1 :: es) (cxS P w K mg base N qual scope f (.ref cda) cc A outer s0 H0 E).env = (false, eval e1 (cxS P w K mg base N qual scope f (.ref cda) cc A outer s0 H0 E).env) :: starEach es (cxS P w K mg base N qual scope f (.ref cda) cc A outer s0 H0 E).env)
    (hpl : (backTo p3 (starEach es (cxS P w K mg base N qual scope f (.ref cda) cc A outer s0 H0 E).env)).any (·.1) = false) :
    _root_.PySem.wpAt (model P w) (cxS P w K mg base N qual scope f (.ref cda) cc A outer s0 H0 E).A (.func bd (cxS P w K mg base N qual scope f (.ref cda) cc A outer s0 H0 E).env)
      (execs (.Expr (.Call (.Attribute (.Call (.Name "super" p0) [] [] p1) "__init__" p2) (e1 :: es) [] p3) p4 :: rest) (cxS P w K mg base N qual scope f (.ref cda) cc A outer s0 H0 E).env)
      (SP (cxS P w K mg base N qual scope f (.ref cda) cc A outer s0 H0 E) [] D) (cxS P w K mg base N qual scope f (.ref cda) cc A outer s0 H0 E).xe s := by
  obtain ⟨name, kV, doc, pm, ct, oc, an, od, osl, rfl, lk⟩ := SD.fn
  obtain ⟨ccl, cdd, vsx, ccs, file, tf, lcd, hv2, hfile⟩ := SD.file
  obtain ⟨c1, c2, c3, lcc⟩ := SD.cell
  obtain ⟨nm, q, N', bs, bm, sn, sub, ab, col, dd, k0, k1, k2, k3, k5, hC, hbm⟩ := SD.exc.cls
  have hCs := I.kIn _ _ hC
  obtain ⟨t1, ho⟩ := exo_at I.hok ea
  obtain ⟨mb, hb1, hb2⟩ := I.mod.blt
  obtain ⟨m, hn, hlk⟩ := I.loc
  have hself : m ar.arg = some (.ref a) := by
    have hpar := S.par _ (List.mem_of_getElem? h1)
    obtain ⟨u, ru, lu⟩ := hlk 0 _ _ h0 hσ (.inl hpar)
    have ru : u = Value.ref a := ru
    subst ru
    rcases lu with ⟨_, e⟩ | ⟨e, _⟩
    · exact e
    · have e : scope.names.lookup ar.arg = some .cell ∨ scope.names.lookup ar.arg = some .free := e
      rcases e with e | e <;> rw [hpar] at e <;> cases e
  refine PySem.ks_wpAt_execs_cons (PySem.ks_wpAt_Expr_any ?_ I.quiet hs)
  refine PySem.ks_wpAt_MethodCall (pl := pl) ?_ hc
  refine PySem.ks_wpAt_super_base (f := f) (cc := cda) (fd := PySem.W.ksFn name qual params body scope .none kV doc pm an (.ref cda) ct cc) (vs := vsx) (file := file) (tf := tf) (ar := ar) S.sup S.cls (by decide) rfl (I.kIn _ _ lk) rfl hp rfl (I.kIn _ _ lcd) rfl hv2 hfile SD.top ?_
  refine PySem.W.ks_loadName_global S.kind S.sup (PySem.Calls.loadGlobal_builtin (by rw [I.ok.glob]; exact I.mod.glob.keeps I.bk) hm (by rw [I.ok.blt]; exact hb1.keeps I.bk) ((hb2 _ (by decide)).trans (by first | boot_by_name | rfl | kernel_rfl)) ⟨rfl, ?_⟩)
  refine wpAny_loadName_free S.kind S.cls rfl ⟨_, I.kIn _ _ lcc, rfl⟩ ?_
  refine wpAny_loadName_local S.kind (S.par _ (List.mem_of_getElem? h1)) hn hself ?_
  refine PySem.ks_wpAny_isType_cls hCs rfl ⟨rfl, ?_⟩
  refine PySem.ks_wpAny_call_super hCs rfl ho rfl (fun c e => by cases e) (PySem.W.looks_mroIn I.kIn SD.mro) (fun h' eso kso => ?_)
  have I1 := I.kept (t' := s.toks) kso
  have hcl : PySem.W.clsIn K C = some { name := nm, bases := bs, mro := .ref C :: bm, ns := N', qualname := q, hasDict := true, slotNames := sn, subclasses := sub, abstract := ab, collection := col, hasDel := false } := by unfold PySem.W.clsIn; rw [hC] <;> rfl
  have hal : PySem.W.alongIn K "__init__" bm = some (some (.builtin "ValueError.__init__")) := by
    have z := SD.sup
    unfold PySem.W.ks_superIn at z
    rw [hcl, Option.bind_some] at z
    simpa [List.dropWhile_cons] using z
  have hx1 : h'.get? a = some ({ cls := .ref C, dict := none, data := .fields #[.ref t1, .none, .none, .none, .bool false, .none] } : Obj) := kso _ _ ho
  have hI : PySem.W.Looks (model P w) h' (isInstance (.ref a) (.type "ValueError")) true := (show PySem.W.InstAt h' a _ C none from ⟨hx1, rfl, rfl, trivial⟩).type.andThen (PySem.W.looks_subIn I1.kIn SD.vE)
  have hxC : a ≠ C := fun z => by
    rw [z, hCs] at ho
    cases ho
  refine PySem.W.kxs_getMethod PySem.W.kxs_ValueError eso (PySem.W.looks_opaque I1.kIn SD.opq) (PySem.W.looks_clsIn I1.kIn hcl |>.andThen .now) (by show _ = bm; simp [List.dropWhile_cons]) I1.kIn hal hI hxC (by decide) ?_
  have kpu : ∀ b o, h'.get? b = some o → (h'.push (PySem.W.kxs_mw "ValueError.__init__" a)).get? b = some o := fun b o e => Heap.get?_push_of_some _ e
  have I2 := I1.kept (t' := s.toks + 1) kpu
  have hu2 : (h'.push (PySem.W.kxs_mw "ValueError.__init__" a)).get? h'.objs.size = some (PySem.W.kxs_mw "ValueError.__init__" a) := Heap.get?_push_at rfl rfl
  have hnu : H h'.objs.size = none := I1.hok.fresh (Nat.le_refl _)
  have I3 : Inv (cxS P w K mg base N qual scope f (.ref cda) cc A outer s0 H0 E) [(h'.objs.size, PySem.W.kxs_mw "ValueError.__init__" a)] σ H { s with heap := h'.push (PySem.W.kxs_mw "ValueError.__init__" a), toks := s.toks + 1 } :=
    I2.pins_of fun p hp => by
      rcases List.mem_cons.mp hp with e | hp
      · subst e
        exact ⟨hu2, hnu, Nat.ne_of_gt I1.lt, I1.nofs (Nat.le_refl _), fun v z => by cases z⟩
      · cases hp
  have run := ha.run p3 [(h'.objs.size, PySem.W.kxs_mw "ValueError.__init__" a)] _ σ H _ I3 h
  rw [he]
  refine PySem.W.kxs_callWith (i := "ValueError.__init__") (x := a) (by show (false || _) = false; rw [Bool.false_or]; exact hpl) ?_
  rw [he] at run
  refine PySem.Calls.evalArgs_plain (thn run fun us s1 ⟨vs, H1, I4, rv, hz, ea4, q⟩ => ?_)
  have hpin := I4.pin (h'.objs.size, PySem.W.kxs_mw "ValueError.__init__" a) (List.mem_append_right _ (List.mem_cons_self ..))
  refine ⟨hpin.1, ?_⟩
  have hus : us.length ≤ sizeLine := by
    rw [← Paired.length rv, sizeLine_eq]
    omega
  refine sup_call SD.exc I4 ea4 hpin.1 hus fun s' I5 => ?_
  have I6 : Inv (cxS P w K mg base N qual scope f (.ref cda) cc A outer s0 H0 E) [] σ H1 s' := I5.pins_of fun p hp => by cases hp
  exact wpAt_of_wpAny (hr.run [] s' σ H1 D I6 q)
/-- such a def, by its body -/
theorem sup_ok {k : Nat} {sp : Sp} (SD : SupDef P K C f cc cda fd qual params body scope) (S : SupScope N ps scope) (len : ∀ vs H Q E, sp vs H Q E → vs.length = ps.length)
    (hbody : ∀ (A : Around) (outer : List Env) (s0 : Shared) (H : Hp) (vs : List V) (Q : VK) (E : XK) (s : Shared), Room k (A.deeper (PySem.W.ksEnv qual scope s0.heap.objs.size f (.ref cda) cc)) → sp vs H Q E →
      Inv (cxS P w K mg base N qual scope f (.ref cda) cc A outer s0 H E) [] (L2.start N vs) H s →
      _root_.PySem.wpAt (model P w) (cxS P w K mg base N qual scope f (.ref cda) cc A outer s0 H E).A (.func body (cxS P w K mg base N qual scope f (.ref cda) cc A outer s0 H E).env) (execs body (cxS P w K mg base N qual scope f (.ref cda) cc A outer s0 H E).env)
        (SP (cxS P w K mg base N qual scope f (.ref cda) cc A outer s0 H E) [] { nx := fun _ H' => Q .non H', rt := Q }) (cxS P w K mg base N qual scope f (.ref cda) cc A outer s0 H E).xe s) :
    FnOk P w K mg base (L2.CX P w) (k + 1) f fd ps sp := by
  refine ⟨len, fun A outer s H args us vs Q E hr e0 hb r hsp => ?_⟩
  have hl := len _ _ _ _ hsp
  obtain ⟨name, kV, doc, pm, ct, oc, an, od, osl, rfl, lk⟩ := SD.fn
  have KX : K.In s.heap := e0.mod.kin.keeps fun b o e => (e0.bs b o e).1
  have lim : s.heap.NoLimit := e0.mod.nolimit.keeps fun b o e => (e0.bs b o e).1
  refine PySem.ks_codeAny_call_defAt (fd := PySem.W.ksFn name qual params body scope .none kV doc pm an (.ref cda) ct cc) (body := body) (binds := ps.zip us) hr.depth (KX _ _ lk) rfl lim (PySem.W.codeRec_of KX SD.code) rfl hb S.nocell
    (fun y hy => S.par _ (List.of_mem_zip hy).1) (fun h1 hn hk => ?_) S.co S.gen S.kind
  have I : Inv (cxS P w K mg base N qual scope f (.ref cda) cc A outer s H E) [] (L2.start N vs) H { s with heap := h1, toks := s.toks + (ps.zip us).length } := inv_sup S hr.hd e0 hl r SD.cell' hn hk
  refine PySem.ks_wpAt_mono (hbody A outer s H vs Q E _ (hr.deeper _) hsp I) (fun fl s' hs => ?_) fun e s' hs => hs
  have fin : ∀ {σ' : St} {H' : Hp} {v : V} {u : Value}, Inv (cxS P w K mg base N qual scope f (.ref cda) cc A outer s H E) [] σ' H' s' → RelV v u → Q v H' → CE outer P w H s Q u s' :=
    fun {σ' H' v u} J rv q => ⟨v, H', J.os, J.bare, J.base, J.hok, rv, q⟩
  cases fl with
  | ret u =>
    obtain ⟨v, σ', H', J, rv, q⟩ := hs
    exact fin J rv q
  | next =>
    obtain ⟨σ', H', J, q⟩ := hs
    exact fin (v := V.non) (u := Value.none) J rfl q
  | brk =>
    obtain ⟨_, _, _, q⟩ := hs
    exact False.elim q
  | cont =>
    obtain ⟨_, _, _, q⟩ := hs
    exact False.elim q
end
end Gx
end T_GxE1
section T_GxE2
set_option Elab.async false
set_option linter.all false
set_option maxRecDepth 100000
set_option maxHeartbeats 4000000
namespace Gx
open PySem PySem.Spec PyProof.Rows L2

/-! ## the promise of such an __init__ -/
/-- what the first argument must be for the text: nothing, or a number that can be told -/
def tellV : V → Prop
  | .int i => i.natAbs.log2 < 1920
  | .non => True
  | _ => False
/-- self and the fields' values: they stand in a new dict -/
def spX (C : Addr) (ns : List Str) : Sp := fun vs H Q E => ∃ a ws, vs = .ref a :: ws ∧ ws.length = ns.length ∧ (∀ v, ws.head? = some v → tellV v) ∧ H a = some (exo a C none) ∧
  ((ns = [] ∧ Q .non H) ∨ (ns ≠ [] ∧ ∀ dx, H dx = none → dx ≠ a → Q .non (upd (upd H dx (exd dx (ns.zip ws))) a (exo a C (some dx)))))
/-- an exception class of ours -/
structure Xc (P : Program) (w : World) (K : PySem.W.Frag) (mg : Str → Option Value) (base : Heap) (x : Str) (C : Addr) (ns : List Str) : Prop where
  exc : OexC K C
  mg_ : mg x = some (.ref C)
  init : ∃ (fI : Addr) (fd : FuncData) (ps : List Str), PySem.W.findIn K (.ref C) "__init__" = some (some (.ref fI)) ∧ PySem.W.typeIn K (.ref fI) = some (.type "function") ∧ Binds K fd ps [] ∧ ps.length = ns.length + 1 ∧ FnOk P w K mg base (L2.CX P w) 1 fI fd ps (spX C ns)

/-- where an exception without a dict is let go -/
theorem mk_bare {X : Cx} {pins : List (Addr × Obj)} {σ : St} {H1 : Hp} {Q : XK} {hp hp2 h2 : Heap} {g1 g2 : Array GenState} {d1 d2 : Drawn} {t1 t2 : Nat} {os1 os2 : OsState} {a C : Addr} (T : Raises X (.ref C)) (I1 : Inv X pins σ H1 ⟨hp, g1, d1, t1, os1⟩)
    (ha : hp.objs.size ≤ a) (k : ∀ b o, hp.get? b = some o → hp2.get? b = some o) (un : Un (frs X.stack) [] (upd H1 a (exo a C none)) (upd H1 a (exo a C none)) hp2 h2) (hok : HOk X.prog X.w (upd H1 a (exo a C none)) h2) (ho : os2 = os1) (hb : AllBare g2)
    (q : Q (.ref C) none H1) : MkP X pins σ Q (.ref a) ⟨h2, g2, d2, t2, os2⟩ := by
  have hn : H1 a = none := I1.hok.fresh ha
  obtain ⟨t0, hoe⟩ := exo_at hok (upd_same (H := H1))
  obtain ⟨G, gy, gn⟩ := restrict h2 fun b => decide (b ≠ a)
  have gk : ∀ b, b ≠ a → G.get? b = h2.get? b := fun b hb => gy b (decide_eq_true hb)
  have ga : G.get? a = none := gn a (by simp)
  have na : ∀ {b : Addr} {o : Obj}, hp.get? b = some o → b ≠ a := fun {b o} z => Nat.ne_of_lt (Nat.lt_of_lt_of_le (Heap.lt_size z) ha)
  have nh : ∀ {b : Addr} {o : HO}, H1 b = some o → b ≠ a := fun {b o} z => ne_of_none z hn
  have U : Un (frs X.stack) [] H1 H1 hp G := {
    keep := fun b o z n hf hx => by
      rw [gk b (na z)]
      exact un.keep b o (k b o z) (by rw [upd_ne (na z)]; exact n) hf hx
    slot := fun b o z n hf hx => by
      rw [gk b (na z)]
      exact un.slot b o (k b o z) (by rw [upd_ne (na z)]; exact n) hf hx
    free := fun b o z n hx => n
    there := fun b o z hx => by
      rw [gk b (na z)]
      exact un.there b o (k b o z) hx
    tups := fun b xs z => z
    frzs := fun b o v z => z
    tbls := fun b ps z => ⟨#[], by rw [z]; simp⟩ }
  have hok3 : HOk X.prog X.w H1 G := fun b o z => by
    have z2 : upd H1 a (exo a C none) b = some o := by rw [upd_ne (nh z)]; exact z
    refine (hok b o z2).stay (fun c v hc y => ?_) (fun c hc => ?_) (fun c xs hc => ?_)
    · have hca : c ≠ a := by
        rcases hc with hc | hc
        · rw [hc]; exact nh z
        · exact at_ne (upd_same (H := H1) (a := a) (o := exo a C none)) hc exo_own
      rw [gk c hca]; exact y
    · rw [← upd_ne (H := H1) (o := exo a C none) (at_ne (upd_same (H := H1) (a := a) (o := exo a C none)) hc exo_own)]; exact hc
    · rw [← upd_ne (H := H1) (o := exo a C none) (at_ne (upd_same (H := H1) (a := a) (o := exo a C none)) hc exo_tup)]; exact hc
  subst ho
  have J : Inv X pins σ H1 ⟨G, g2, d2, t2, os2⟩ := I1.call' (s' := ⟨G, g2, d2, t2, os2⟩) (ch := []) rfl U hok3 hb (fun b z => absurd z (by simp))
  exact ⟨a, _, _, ⟨G, g2, d2, t2, os2⟩, H1, .ref C, none, rfl, J, fun b o z => by
    by_cases hba : b = a
    · rw [hba, ga] at z; cases z
    · rw [← gk b hba]; exact z, ga, hoe, ⟨rfl, rfl⟩, rfl, rfl, hn, rfl, hb, T, q⟩

section
variable {X : Cx} {pins : List (Addr × Obj)} {σ : St} {x : Str} {C : Addr} {ns : List Str} {p pos : Pos} {e : Expr} {es : List Expr} {ta : TA}
/-- what is wished of C(..) -/
def wishX (C : Addr) (ns : List Str) (vs : List V) (H1 : Hp) (Q : XK) : Prop := vs.length = ns.length ∧ (∀ v, vs.head? = some v → tellV v) ∧ (ns = [] → Q (.ref C) none H1) ∧ (ns ≠ [] → ∀ d, H1 d = none → Q (.ref C) (some d) (upd H1 d (.xd (ns.zip vs))))
theorem run_mkX (xc : Xc X.prog X.w X.K X.mg X.base x C ns) (hns : ns.length ≤ 2) (hr : Room 2 X.A) {vs : List V} {us : List Value} {H1 : Hp} {Q : XK} {s : Shared} (I1 : Inv X pins σ H1 s) (r1 : Vals vs us) (h : wishX C ns vs H1 Q) :
    wpAny (model X.prog X.w) X.A (call (.ref C) us) (MkP X pins σ Q) X.xe s := by
  obtain ⟨hl, ht, h0, h2⟩ := h
  obtain ⟨fI, fd, ps, iC, tI, hb, hpl, F1⟩ := xc.init
  obtain ⟨nm, q, N, bs, bm, sn, sub, ab, col, dd, k0, k1, k2, k3, k5, hC, hbm⟩ := xc.exc.cls
  obtain ⟨hp, g, dr, tk, os⟩ := s
  have hsz : hp.objs.size ≤ hp.objs.size + 1 := Nat.le_succ _
  have hn : H1 (hp.objs.size + 1) = none := I1.hok.fresh hsz
  have kk : ∀ b o, hp.get? b = some o → ((hp.push (PySem.W.kdv_tup us)).push (PySem.HandSPX.excO C hp.objs.size)).get? b = some o := fun b o z => Heap.get?_push_of_some _ (Heap.get?_push_of_some _ z)
  have hget : ((hp.push (PySem.W.kdv_tup us)).push (PySem.HandSPX.excO C hp.objs.size)).get? (hp.objs.size + 1) = some (PySem.HandSPX.excO C hp.objs.size) := by heap_get
  have I2 : Inv X pins σ (upd H1 (hp.objs.size + 1) (exo (hp.objs.size + 1) C none)) ⟨(hp.push (PySem.W.kdv_tup us)).push (PySem.HandSPX.excO C hp.objs.size), g, dr, tk, os⟩ := I1.laid (t' := tk) kk hsz (exo_ok hget)
  -- what the __init__ leaves
  let Q0 : VK := fun v H2 => v = .non ∧ ((ns = [] ∧ H2 = upd H1 (hp.objs.size + 1) (exo (hp.objs.size + 1) C none)) ∨
    (ns ≠ [] ∧ ∃ dx, upd H1 (hp.objs.size + 1) (exo (hp.objs.size + 1) C none) dx = none ∧ dx ≠ hp.objs.size + 1 ∧ H2 = upd (upd (upd H1 (hp.objs.size + 1) (exo (hp.objs.size + 1) C none)) dx (exd dx (ns.zip vs))) (hp.objs.size + 1) (exo (hp.objs.size + 1) C (some dx))))
  have hq : spX C ns (V.ref (hp.objs.size + 1) :: vs) (upd H1 (hp.objs.size + 1) (exo (hp.objs.size + 1) C none)) Q0 (fun _ _ _ => False) := by
    refine ⟨_, vs, rfl, hl, ht, upd_same, ?_⟩
    by_cases c : ns = []
    · exact .inl ⟨c, rfl, .inl ⟨c, rfl⟩⟩
    · exact .inr ⟨c, fun dx e1 e2 => ⟨rfl, .inr ⟨c, dx, e1, e2, rfl⟩⟩⟩
  have r2 : Vals (V.ref (hp.objs.size + 1) :: vs) (Value.ref (hp.objs.size + 1) :: us) := .cons rfl r1
  have hul : us.length = ns.length := by rw [← hl]; exact (Paired.length r1).symm
  have hus : us.length ≤ sizeLine := by rw [hul, sizeLine_eq]; omega
  have hb' := hb _ (Value.ref (hp.objs.size + 1) :: us) I2.kIn (by rw [List.append_nil, List.length_cons, hul, hpl])
  rw [List.append_nil] at hb'
  refine wpAny_call (PySem.HandSPX.call_own F.excBase_ValueError (fun Y => PySem.HandSPX.refsVE_contains Y bm hbm) (I1.kIn _ _ hC) (PySem.W.looks_findIn I1.kIn iC) (fun self => PySem.W.bind_fn I1.kIn self tI) hus
    (codeAny_mono (F1.run _ X.stack _ _ ⟨Value.ref (hp.objs.size + 1) :: us, []⟩ (Value.ref (hp.objs.size + 1) :: us) _ Q0 (fun _ _ _ => False) (Room.make (k := 1) hr C us []) (I2.env0.make C us []) hb' r2 hq) fun r s' hq' => ?_))
  match r, hq' with
  | .error er, hq' => exact passL pins σ _ _ er s' I2 hq'
  | .ok .next, hq' => exact (show False from hq').elim
  | .ok .brk, hq' => exact (show False from hq').elim
  | .ok .cont, hq' => exact (show False from hq').elim
  | .ok (.ret u), hq' =>
    obtain ⟨v, H2, os2, bare2, un2, hok2, rv, ev, q2⟩ := hq'
    subst ev
    obtain ⟨h2', g2, d2, t2, os'⟩ := s'
    refine ⟨rv, ?_⟩
    rcases q2 with ⟨c, e2⟩ | ⟨c, dx, e1, e2, e3⟩
    · subst e2
      exact mk_bare (raises_own xc.exc.exC xc.exc.tyC) I1 hsz kk un2 hok2 os2 bare2 (h0 c)
    · subst e3
      have hd1 : H1 dx = none := by rw [← upd_ne (H := H1) (o := exo (hp.objs.size + 1) C none) e2]; exact e1
      have ea : upd (upd (upd H1 (hp.objs.size + 1) (exo (hp.objs.size + 1) C none)) dx (exd dx (ns.zip vs))) (hp.objs.size + 1) (exo (hp.objs.size + 1) C (some dx)) dx = some (exd dx (ns.zip vs)) := by rw [upd_ne e2, upd_same]
      refine mk_end (raises_own xc.exc.exC xc.exc.tyC) I1 hsz kk un2 hok2 os2 bare2 upd_same ea hd1 ?_
      have hh : upd (del (upd (upd (upd H1 (hp.objs.size + 1) (exo (hp.objs.size + 1) C none)) dx (exd dx (ns.zip vs))) (hp.objs.size + 1) (exo (hp.objs.size + 1) C (some dx))) (hp.objs.size + 1)) dx (.xd (ns.zip vs)) = upd H1 dx (.xd (ns.zip vs)) := by
        funext b
        by_cases b1 : b = dx
        · rw [b1, upd_same, upd_same]
        · rw [upd_ne b1, upd_ne b1]
          by_cases b2 : b = hp.objs.size + 1
          · rw [b2, del_same, hn]
          · rw [del_ne b2, upd_ne b2, upd_ne b1, upd_ne b2]
      rw [hh]
      exact h2 c dx hd1
theorem pmk_x (xc : Xc X.prog X.w X.K X.mg X.base x C ns) (hns : ns.length ≤ 2) (hr : Room 2 X.A) (hg : Gl X x) (ha : PA X (e :: es) ta)
    (hdb : (x == ("__debug__" : Str)) = false := by decide) (he : starEach (e :: es) X.env = (false, eval e X.env) :: starEach es X.env := by rfl) (hpl : (backTo pos (starEach es X.env)).any (·.1) = false := by rfl) :
    PMk X (.Call (.Name x p) (e :: es) [] pos) (fun σ H Q => ta σ H fun vs H1 => wishX C ns vs H1 Q) := by
  intro pins s σ H Q I h
  apply wpAny_Call_Name_kw
  apply ld_glob I hg xc.mg_ _ hdb
  exact PySem.W.callWith_K (h₀ := X.base) I.ok.mod.kin xc.exc.kC (thn (ha.run pos pins s σ H _ I h) fun us s1 ⟨vs, H1, I1, r1, q1⟩ => ⟨I1.kIn, run_mkX xc hns hr I1 r1 q1⟩) he hpl
theorem pmk_x0 (xc : Xc X.prog X.w X.K X.mg X.base x C ns) (hns : ns.length ≤ 2) (hr : Room 2 X.A) (hg : Gl X x) (hdb : (x == ("__debug__" : Str)) = false := by decide) :
    PMk X (.Call (.Name x p) [] [] pos) (fun σ H Q => wishX C ns [] H Q) := by
  intro pins s σ H Q I h
  apply wpAny_Call_Name_kw
  apply ld_glob I hg xc.mg_ _ hdb
  exact PySem.W.callWith_K0 I.kIn xc.exc.kC (run_mkX xc hns hr I .nil h)
end
/-! ## raise C(..) -/
def tellD : List D → Bool
  | [] => true
  | .int i :: _ => decide (i.natAbs.log2 < 1920)
  | .non :: _ => true
  | _ => false
def fldR : Nat → List SV → Option (List D)
  | c, xs => match dats xs with
    | some ds => if ds.length = (flds c).length ∧ tellD ds = true then some ds else none
    | none => none
def sRaise (c : Nat) (a : AM) : SM := SM.bind a fun xs => fun sd own => (fldR c xs).map fun ds => .ex c ds sd own
section
variable {X : Cx} {Y : Cy} {x : Str} {c : Nat} {p pos pos2 : Pos} {e : Expr} {es : List Expr} {al : AM}
theorem dats_reps {T : Tb} {g : Gh} {n : Nat} : ∀ (xs : List SV) (vs : List V) (ds : List D), dats xs = some ds → RSs T g n xs vs → Reps T g.F ds vs := by
  intro xs
  induction xs with
  | nil => intro vs ds h r; cases r; cases h; exact .nil
  | cons s t ih =>
    intro vs ds h r
    cases r with
    | cons h1 r1 =>
      cases s with
      | h k => cases h
      | d y =>
        have h : (dats t).map (y :: ·) = some ds := h
        obtain ⟨ds2, e1, e2⟩ := Option.map_eq_some_iff.mp h
        subst e2
        exact .cons h1 (ih _ _ e1 r1)
theorem flds_two : ∀ c : Nat, 9 ≤ c → (flds c).length ≤ 2 := by
  intro c hc
  unfold flds
  split <;> first | omega | simp
theorem raise_wish {T : Tb} {B : Hp} {Ek : L2.St → XK} {g : Gh} {own : Own} {sd : Sl} {σ : L2.St} {H : Hp} {Dn : Ends} {xs : List SV} {vs : List V} (R : HRel T B g own H) (S : SRel T g own.length sd σ) (rs : RSs T g own.length xs vs)
    (q : SAt ⟨T, B, Ek⟩ g sd own Dn fun sd own => (fldR c xs).map fun ds => .ex c ds sd own) : wishX (T.ct c) (flds c) vs H (Ek σ) := by
  obtain ⟨r, e1, k⟩ := q
  obtain ⟨ds, e2, e3⟩ := Option.map_eq_some_iff.mp e1
  subst e3
  unfold fldR at e2
  cases ed : dats xs with
  | none => simp only [ed] at e2; cases e2
  | some ds2 =>
    simp only [ed] at e2
    by_cases hc : ds2.length = (flds c).length ∧ tellD ds2 = true
    · rw [if_pos hc] at e2
      cases e2
      have rp := dats_reps xs vs _ ed rs
      refine ⟨by rw [← rp.length]; exact hc.1, fun v hv => ?_, fun hz => ?_, fun hz d hd => ?_⟩
      · cases rp with
        | nil => cases hv
        | cons h1 r1 =>
          cases hv
          cases h1 with
          | int i => exact (show i.natAbs.log2 < 1920 from of_decide_eq_true hc.2)
          | non => trivial
          | _ => exact absurd hc.2 Bool.false_ne_true
      · refine k g σ none H R S .rfl' (.inl ⟨?_, rfl⟩)
        have := hc.1
        rw [hz] at this
        exact List.length_eq_zero_iff.mp this
      · obtain ⟨R2, e2⟩ := R.new hd (.xd ((flds c).zip vs))
        exact k _ σ (some d) _ R2 (S.ext e2) e2 (.inr ⟨d, vs, rfl, upd_same, rp.le e2.F⟩)
    · rw [if_neg hc] at e2; cases e2
/-- raise C(e, ..) -/
theorem rs_raise (xc : Xc X.prog X.w X.K X.mg X.base x (Y.T.ct c) (flds c)) (hc9 : 9 ≤ c) (hr : Room 2 X.A) (hcalm : X.calm = true) (tk : Takes X fun cls d σ H => Y.Ek σ cls d H) (ha : PA X (e :: es) (trA Y al)) (hg : Gl X x := by rfl)
    (hdb : (x == ("__debug__" : Str)) = false := by decide) (he : starEach (e :: es) X.env = (false, eval e X.env) :: starEach es X.env := by rfl) (hpl : (backTo pos (starEach es X.env)).any (·.1) = false := by rfl) :
    PS X (.Raise (some (.Call (.Name x p) (e :: es) [] pos)) none pos2) (trS Y (sRaise c al)) := by
  refine PS.imp (ps_raise hcalm tk (pmk_x xc (flds_two c hc9) hr hg ha hdb he hpl)) fun Dn σ H q => ?_
  obtain ⟨g, sd, own, R, S, q⟩ := q
  exact s_bind R S q fun g1 o1 xs vs H1 R1 S1 e1 rs q1 => raise_wish R1 S1 rs q1
theorem rs_raise0 (xc : Xc X.prog X.w X.K X.mg X.base x (Y.T.ct c) (flds c)) (hc9 : 9 ≤ c) (hr : Room 2 X.A) (hcalm : X.calm = true) (tk : Takes X fun cls d σ H => Y.Ek σ cls d H) (hg : Gl X x := by rfl) (hdb : (x == ("__debug__" : Str)) = false := by decide) :
    PS X (.Raise (some (.Call (.Name x p) [] [] pos)) none pos2) (trS Y (sRaise c aNil)) := by
  refine PS.imp (ps_raise hcalm tk (pmk_x0 xc (flds_two c hc9) hr hg hdb)) fun Dn σ H q => ?_
  obtain ⟨g, sd, own, R, S, q⟩ := q
  exact raise_wish (xs := []) (Dn := Dn) R S .nil q
end
end Gx
end T_GxE2
section T_GxE3
set_option Elab.async false
set_option linter.all false
set_option maxRecDepth 100000
set_option maxHeartbeats 4000000
namespace Gx
open PySem PySem.Spec PyProof.Rows L2

/-! ## the shapes of our exceptions' __init__ -/
theorem text_room {i : Int} (h : i.natAbs.log2 < 1920) : (Str.ofString (toString i)).length ≤ 1921 := by
  have e := int_text_length_le (k := 1920) (by decide) h
  rw [PySem.ofString_length]; omega
/-- how super().__init__(..) is read -/
def SupRead (e : Expr) (p0 p1 p2 p3 : Pos) : Prop := ∀ env : Env, ∃ pl, eval (.Call (.Attribute (.Call (.Name "super" p0) [] [] p1) "__init__" p2) [e] [] p3) env = (do
      let ov ← attributeBase (.Call (.Name "super" p0) [] [] p1) "__init__" env (eval (.Call (.Name "super" p0) [] [] p1) env)
      standAt p2.atName
      let (fx, first) ← holding [ov] (getMethod ov "__init__" pl)
      callWith p3 fx first (backTo p3 (starEach [e] env)) [])
section
variable {P : Program} {w : World} {K : PySem.W.Frag} {mg : Str → Option Value} {base : Heap} {qual : Str} {scope : Scope} {C f cc cda : Addr} {fd : FuncData} {params : Arguments} {ar : Arg}
variable {p0 p1 p2 p3 p4 p5 p6 p7 p8 p9 q1 q2 q3 q4 q5 q6 r1 r2 : Pos} {j j1 j2 : Nat} {x y z : Str}
theorem init0 (SD : SupDef P K C f cc cda fd qual params [.Expr (.Call (.Attribute (.Call (.Name "super" p0) [] [] p1) "__init__" p2) [.Constant (.str x) j p5] [] p3) p4] scope) (S : SupScope ["self"] ["self"] scope)
    (hp : (params.posonlyargs ++ params.args).head? = some ar) (har : ar.arg = "self") (hm : mg "super" = none) (hc : SupRead (.Constant (.str x) j p5) p0 p1 p2 p3) : FnOk P w K mg base (L2.CX P w) 1 f fd ["self"] (spX C []) := by
  refine sup_ok (k := 0) SD S (fun vs H Q E h => ?_) (fun A outer s0 H vs Q E s hr h I => ?_)
  · obtain ⟨a, ws, rfl, hl, _⟩ := h
    rw [List.length_cons, hl]; rfl
  · obtain ⟨a, ws, rfl, hl, _, ha, h⟩ := h
    obtain rfl := List.length_eq_zero_iff.mp hl
    have hD : tNext { nx := fun _ H' => Q .non H', rt := Q } (L2.start ["self"] [V.ref a]) H := by
      rcases h with ⟨_, h⟩ | ⟨h, _⟩
      · exact h
      · exact absurd rfl h
    obtain ⟨pl, hc⟩ := hc (cxS P w K mg base ["self"] qual scope f (.ref cda) cc A outer s0 H E).env
    exact sup_body (pl := pl) (ta := fun σ H Q => tC (.str x) σ H fun v H1 => Q [v] H1) (t := tNext) (rest := []) SD S hp (by rw [har]; rfl) (by rw [har]; rfl) (pa_cons pe_str pa_nil) pss_nil I ha rfl hm ⟨(show 1 ≤ 1000 by decide), ha, hD⟩ rfl hc rfl rfl
/-- the fields' names, the rest of the body -/
theorem putS {X : Cx} {n m : Str} {i : Nat} {pa pb pc pd : Pos} (h0 : X.N[0]? = some ("self" : Str)) (hs : X.env.scope.names.lookup ("self" : Str) = some .local) (hi : X.N[i]? = some m) (hl : X.env.scope.names.lookup m = some .local) (hd : (m == ("__debug__" : Str)) = false) (hcd : (m == ("__classdict__" : Str)) = false)
    (hsw : swapsWith (.Name m pb) (some (.Attribute (.Name "self" pa) n pc)) pd.line X.env = pure false) : PS X (.Assign [.Attribute (.Name "self" pa) n pc] (.Name m pb) pd) (tOst X.K n (tVar 0) (tVar i)) :=
  ps_ost (pe_var h0 (.inl hs)) (pe_var hi (.inl hl) hd hcd) hsw
theorem empty_app (x : Str) : (Str.empty ++ x).length = x.length := by
  rw [strLen_append]
  have : Str.empty.length = 0 := rfl
  omega
theorem js_fmt {σ : St} {H : Hp} {v : V} {i : Nat} {ts : List TE} {Q : Str → Hp → Prop} (hv : σ[i]? = some (some v)) (ht : tellV v) (hx : x.length ≤ 1000) (h : ∀ acc : Str, acc.length ≤ 3000 → tJs ts acc σ H Q) : tJs (tC (.str x) :: tFn (tVar i) :: ts) Str.empty σ H Q := by
  refine ⟨x, rfl, by rw [empty_app, sizeLine_eq]; omega, ?_⟩
  have e0 := empty_app x
  cases v with
  | int k =>
    have hk := text_room ht
    refine ⟨.int k, hv, .inl ⟨k, rfl, ht, _, rfl, ?_, h _ ?_⟩⟩
    · rw [strLen_append, e0, sizeLine_eq]; omega
    · rw [strLen_append, e0]; omega
  | non =>
    have hn : ("None" : Str).length = 4 := by decide +kernel
    refine ⟨.non, hv, .inr ⟨rfl, _, rfl, ?_, h _ ?_⟩⟩
    · rw [strLen_append, e0, sizeLine_eq, hn]; omega
    · rw [strLen_append, e0, hn]; omega
  | _ => exact absurd ht (by intro z; exact z)
theorem init1 (SD : SupDef P K C f cc cda fd qual params [.Expr (.Call (.Attribute (.Call (.Name "super" p0) [] [] p1) "__init__" p2) [.JoinedStr [.Constant (.str x) j p5, .FormattedValue (.Name "index" p6) (-1) none p7, .Constant (.str y) j1 p8] p9] [] p3) p4,
      .Assign [.Attribute (.Name "self" q1) "index" q2] (.Name "index" q3) q4] scope) (S : SupScope ["self", "index"] ["self", "index"] scope)
    (hp : (params.posonlyargs ++ params.args).head? = some ar) (har : ar.arg = "self") (hm : mg "super" = none) (hx : x.length ≤ 1000) (hy : y.length ≤ 1000) (hno : PySem.W.findIn K (.ref C) "index" = some none)
    (hc : SupRead (.JoinedStr [.Constant (.str x) j p5, .FormattedValue (.Name "index" p6) (-1) none p7, .Constant (.str y) j1 p8] p9) p0 p1 p2 p3) : FnOk P w K mg base (L2.CX P w) 1 f fd ["self", "index"] (spX C ["index"]) := by
  refine sup_ok (k := 0) SD S (fun vs H Q E h => ?_) (fun A outer s0 H vs Q E s hr h I => ?_)
  · obtain ⟨a, ws, rfl, hl, _⟩ := h
    rw [List.length_cons, hl]; rfl
  · obtain ⟨a, ws, rfl, hl, ht, ha, h⟩ := h
    obtain ⟨v, rfl⟩ := List.length_eq_one_iff.mp hl
    have ht := ht v rfl
    rcases h with ⟨h, _⟩ | ⟨_, h⟩
    · cases h
    have ls : scope.names.lookup ("self" : Str) = some .local := S.par _ (by simp)
    have li : scope.names.lookup ("index" : Str) = some .local := S.par _ (by simp)
    obtain ⟨pl, hc⟩ := hc (cxS P w K mg base ["self", "index"] qual scope f (.ref cda) cc A outer s0 H E).env
    refine sup_body (pl := pl) (t := tOst K "index" (tVar 0) (tVar 1)) SD S hp (by rw [har]; rfl) (by rw [har]; rfl)
      (pa_cons (pe_joined (.cons pe_str (.cons (pe_fmtN (pe_var (i := 1) rfl (.inl li))) (.cons pe_str .nil)))) pa_nil) (pss_one (putS rfl ls rfl li (by decide) (by decide) rfl)) I ha rfl hm ?_ rfl hc rfl rfl
    have fin : tOst K "index" (tVar 0) (tVar 1) { nx := fun _ H' => Q .non H', rt := Q } (L2.start ["self", "index"] [V.ref a, v]) H :=
      ⟨v, rfl, V.ref a, rfl, a, C, rfl, SD.exc, hno, .inl ⟨ha, fun dx n1 n2 => h dx n1 n2⟩⟩
    refine js_fmt (v := v) rfl ht hx fun acc hacc => ⟨y, rfl, ?_, ?_⟩
    · rw [strLen_append, sizeLine_eq]; omega
    · exact ⟨show 1 ≤ 1000 by decide, ha, fin⟩
theorem init1e (SD : SupDef P K C f cc cda fd qual params [.Expr (.Call (.Attribute (.Call (.Name "super" p0) [] [] p1) "__init__" p2) [.JoinedStr [.Constant (.str x) j p5, .FormattedValue (.Name "index" p6) (-1) none p7] p9] [] p3) p4,
      .Assign [.Attribute (.Name "self" q1) "index" q2] (.Name "index" q3) q4] scope) (S : SupScope ["self", "index"] ["self", "index"] scope)
    (hp : (params.posonlyargs ++ params.args).head? = some ar) (har : ar.arg = "self") (hm : mg "super" = none) (hx : x.length ≤ 1000) (hno : PySem.W.findIn K (.ref C) "index" = some none)
    (hc : SupRead (.JoinedStr [.Constant (.str x) j p5, .FormattedValue (.Name "index" p6) (-1) none p7] p9) p0 p1 p2 p3) : FnOk P w K mg base (L2.CX P w) 1 f fd ["self", "index"] (spX C ["index"]) := by
  refine sup_ok (k := 0) SD S (fun vs H Q E h => ?_) (fun A outer s0 H vs Q E s hr h I => ?_)
  · obtain ⟨a, ws, rfl, hl, _⟩ := h
    rw [List.length_cons, hl]; rfl
  · obtain ⟨a, ws, rfl, hl, ht, ha, h⟩ := h
    obtain ⟨v, rfl⟩ := List.length_eq_one_iff.mp hl
    have ht := ht v rfl
    rcases h with ⟨h, _⟩ | ⟨_, h⟩
    · cases h
    have ls : scope.names.lookup ("self" : Str) = some .local := S.par _ (by simp)
    have li : scope.names.lookup ("index" : Str) = some .local := S.par _ (by simp)
    obtain ⟨pl, hc⟩ := hc (cxS P w K mg base ["self", "index"] qual scope f (.ref cda) cc A outer s0 H E).env
    refine sup_body (pl := pl) (t := tOst K "index" (tVar 0) (tVar 1)) SD S hp (by rw [har]; rfl) (by rw [har]; rfl)
      (pa_cons (pe_joined (.cons pe_str (.cons (pe_fmtN (pe_var (i := 1) rfl (.inl li))) .nil))) pa_nil) (pss_one (putS rfl ls rfl li (by decide) (by decide) rfl)) I ha rfl hm ?_ rfl hc rfl rfl
    have fin : tOst K "index" (tVar 0) (tVar 1) { nx := fun _ H' => Q .non H', rt := Q } (L2.start ["self", "index"] [V.ref a, v]) H :=
      ⟨v, rfl, V.ref a, rfl, a, C, rfl, SD.exc, hno, .inl ⟨ha, fun dx n1 n2 => h dx n1 n2⟩⟩
    exact js_fmt (v := v) rfl ht hx fun acc hacc => ⟨show 1 ≤ 1000 by decide, ha, fin⟩
/-- a dict's fields in another order -/
theorem exd_swap {d : Addr} {n m : Str} {a b : V} (h : n ≠ m) : exd d [(m, b), (n, a)] = exd d [(n, a), (m, b)] := by
  have e : ∀ f : Str, List.lookup f [(m, b), (n, a)] = List.lookup f [(n, a), (m, b)] := fun f => by
    rw [lookup_put, lookup_put, lookup_put, lookup_put]
    by_cases c1 : f = m
    · rw [if_pos c1, if_pos c1, if_neg (by rw [c1]; exact Ne.symm h)]
    · rw [if_neg c1, if_neg c1]
  unfold exd
  simp only [e]
theorem init2 (SD : SupDef P K C f cc cda fd qual params [.Expr (.Call (.Attribute (.Call (.Name "super" p0) [] [] p1) "__init__" p2) [.JoinedStr [.Constant (.str x) j p5, .FormattedValue (.Name "line" p6) (-1) none p7, .Constant (.str y) j1 p8] p9] [] p3) p4,
      .Assign [.Attribute (.Name "self" q1) "line" q2] (.Name "line" q3) q4, .Assign [.Attribute (.Name "self" q5) "word" q6] (.Name "word" r1) r2] scope) (S : SupScope ["self", "line", "word"] ["self", "line", "word"] scope)
    (hp : (params.posonlyargs ++ params.args).head? = some ar) (har : ar.arg = "self") (hm : mg "super" = none) (hx : x.length ≤ 1000) (hy : y.length ≤ 1000) (hno : PySem.W.findIn K (.ref C) "line" = some none) (hno2 : PySem.W.findIn K (.ref C) "word" = some none)
    (hc : SupRead (.JoinedStr [.Constant (.str x) j p5, .FormattedValue (.Name "line" p6) (-1) none p7, .Constant (.str y) j1 p8] p9) p0 p1 p2 p3) : FnOk P w K mg base (L2.CX P w) 1 f fd ["self", "line", "word"] (spX C ["line", "word"]) := by
  refine sup_ok (k := 0) SD S (fun vs H Q E h => ?_) (fun A outer s0 H vs Q E s hr h I => ?_)
  · obtain ⟨a, ws, rfl, hl, _⟩ := h
    rw [List.length_cons, hl]; rfl
  · obtain ⟨a, ws, rfl, hl, ht, ha, h⟩ := h
    obtain ⟨v, u, rfl⟩ : ∃ v u, ws = [v, u] := by
      match ws, hl with
      | [v, u], _ => exact ⟨v, u, rfl⟩
    have ht := ht v rfl
    rcases h with ⟨h, _⟩ | ⟨_, h⟩
    · cases h
    have ls : scope.names.lookup ("self" : Str) = some .local := S.par _ (by simp)
    have li : scope.names.lookup ("line" : Str) = some .local := S.par _ (by simp)
    have lw : scope.names.lookup ("word" : Str) = some .local := S.par _ (by simp)
    obtain ⟨pl, hc⟩ := hc (cxS P w K mg base ["self", "line", "word"] qual scope f (.ref cda) cc A outer s0 H E).env
    refine sup_body (pl := pl) (t := tSeq (tOst K "line" (tVar 0) (tVar 1)) (tOst K "word" (tVar 0) (tVar 2))) SD S hp (by rw [har]; rfl) (by rw [har]; rfl)
      (pa_cons (pe_joined (.cons pe_str (.cons (pe_fmtN (pe_var (i := 1) rfl (.inl li))) (.cons pe_str .nil)))) pa_nil) (pss_cons (putS rfl ls rfl li (by decide) (by decide) rfl) (pss_one (putS rfl ls (i := 2) rfl lw (by decide) (by decide) rfl))) I ha rfl hm ?_ rfl hc rfl rfl
    have fin : tSeq (tOst K "line" (tVar 0) (tVar 1)) (tOst K "word" (tVar 0) (tVar 2)) { nx := fun _ H' => Q .non H', rt := Q } (L2.start ["self", "line", "word"] [V.ref a, v, u]) H := by
      refine ⟨v, rfl, V.ref a, rfl, a, C, rfl, SD.exc, hno, .inl ⟨ha, fun dx n1 n2 => ?_⟩⟩
      refine ⟨u, rfl, V.ref a, rfl, a, C, rfl, SD.exc, hno2, .inr ⟨dx, [("line", v)], upd_same, by rw [upd_ne n2, upd_same], (show 1 ≤ 900 by decide), ?_⟩⟩
      have := h dx n1 n2
      have e : upd (upd (upd H dx (exd dx [("line", v)])) a (exo a C (some dx))) dx (exd dx [("word", u), ("line", v)]) = upd (upd H dx (exd dx (([("line" : Str), "word"]).zip [v, u]))) a (exo a C (some dx)) := by
        rw [exd_swap (by decide)]
        funext b
        by_cases c1 : b = dx
        · rw [c1, upd_same, upd_ne n2, upd_same]; rfl
        · rw [upd_ne c1]
          by_cases c2 : b = a
          · rw [c2, upd_same, upd_same]
          · rw [upd_ne c2, upd_ne c2, upd_ne c1, upd_ne c1]
      rw [e]; exact this
    refine js_fmt (v := v) rfl ht hx fun acc hacc => ⟨y, rfl, ?_, ?_⟩
    · rw [strLen_append, sizeLine_eq]; omega
    · exact ⟨show 1 ≤ 1000 by decide, ha, fin⟩
end
end Gx
end T_GxE3
section T_GxE4
set_option Elab.async false
set_option linter.all false
set_option maxRecDepth 100000
set_option maxHeartbeats 4000000
namespace Gx
open PySem PySem.Spec PyProof.Rows L2

/-! ## try: .. except A as e: .. except B as e: .. -/
abbrev TSx := Addr → Value → Option Addr → TS
/-- the ends behind a suite: e is gone -/
def lessE (i : Nat) (D : Ends) : Ends := { nx := fun σ' H' => D.nx (σ'.set i none) H', rt := D.rt, bk := fun σ' H' => D.bk (σ'.set i none) H', ct := fun σ' H' => D.ct (σ'.set i none) H' }
/-- what the clauses wish of an exception of the body -/
def wAll (K : PySem.W.Frag) (i : Nat) (D : Ends) (Wout : WX) : List (Value × TSx) → WX
  | [] => Wout
  | (c, ts) :: r => fun cls d σ H => ∃ b, PySem.W.exmOne K cls c = some b ∧ (b = true → ∀ a, H a = none → ts a cls d (lessE i D) (σ.set i (some (.ref a))) H) ∧ (b = false → wAll K i D Wout r cls d σ H)
/-- the clauses -/
inductive Clauses (X : Cx) (n : Str) : List ExceptHandler → List (Value × TSx) → Prop
  | nil : Clauses X n [] []
  | cons {x : Str} {c : Value} {b₀ : Stmt} {suite : List Stmt} {np pos' : Pos} {ts : TSx} {hs : List ExceptHandler} {l : List (Value × TSx)} (hc : Names X x c)
      (hsu : ∀ (a : Addr) (oe : Obj) (cls : Value) (d : Option Addr) (pn : List (Addr × Obj)), Zc cls d oe → (∃ vs, oe.data = .fields vs) → PSs (X.suite a ((a, oe) :: pn)) (b₀ :: suite) (ts a cls d)) (r : Clauses X n hs l) :
      Clauses X n (.ExceptHandler (some (.Name x np)) (some n) (b₀ :: suite) pos' :: hs) ((c, ts) :: l)
section
variable {X : Cx} {n : Str} {i : Nat} {pins : List (Addr × Obj)} {σ : St} {H : Hp} {sI s : Shared} {D : Ends} {Wout : WX} {B : Heap} {a : Addr} {cls : Value} {d : Option Addr}
theorem nameE (hc : Names X x c) {Y : Cx} {Q : Value → Shared → Prop} {E : Value → Shared → Prop} {p : List (Addr × Obj)} {np : Pos} (I : Inv (X.suite a p) [] σ H s) (q : Q c s) : wpAny (model X.prog X.w) (X.A.mark (some (.ref a))) (eval (.Name x np) X.env) Q E s := by
  rcases hc with ⟨hg, hd, hm | ⟨hm, hv, hn⟩⟩
  · exact ld_glob (X := X.suite a p) I hg hm q hd
  · exact ld_blt (X := X.suite a p) I hg hm hv q hn hd
/-- an exception in the air meets the clauses -/
theorem meets (hs : X.stack = X.env :: X.outer) (hf : X.env.frame = some X.env.locals) (hN : X.N.Nodup) (hi : X.N[i]? = some n) (hln : X.env.kindOf n = some .local) (tk : Takes X Wout) (os : s.os = sI.os) (ag : AllBare s.gens)
    (J : Inv X pins σ H sI) (na : H a = none) (nb : ∀ b o, sI.heap.get? b = some o → b ∉ frs X.stack → B.get? b = some o) :
    ∀ (h : Heap) (hl : List ExceptHandler) (l : List (Value × TSx)), Clauses X n hl l → HandSPX.FlyingZ B (X.env :: X.outer) a (Zc cls d) h → sI.heap.UpToSlots h → wAll X.K i D Wout l cls d σ H →
      wpAny (model X.prog X.w) X.A (handleBy (.ref a) X.env hl) (SP X pins D) X.xe { s with heap := h } := by
  have ok := J.ok
  intro h hl l cl
  induction cl with
  | nil =>
    intro fl up hw
    refine wpAny_handleBy_nil ?_
    obtain ⟨k1, k2, k3, oe, vs, T, oT, ts', he, hz, hd, h1, hr⟩ := id fl
    unfold PySem.passOn
    refine wpAny_bind (wpAny_field he hd h1 ?_)
    rw [if_neg (by simp)]
    have fin : wpAny (model X.prog X.w) X.A (setFlight (.ref a) X.env.frame) (fun _ s4 => wpAny (model X.prog X.w) X.A (throw (.ref a) : Sem Flow) (SP X pins D) X.xe s4) X.xe { s with heap := h } := by
      rw [hf]
      refine HandSPX.setFlight_upZ fl fun h4 hh4 up4 => wpAny_throw (tk _ _ ?_)
      exact ⟨a, B, sI, pins, σ, H, cls, d, rfl, J, nb, up.trans up4, .inr (.inr (by rw [hs]; exact hh4)), na, os, ag, hw⟩
    first
      | exact wpAny_bind (wpAny_pure (wpAny_bind fin))
      | exact wpAny_bind fin
  | @cons x c b₀ suite np pos' ts hl l hc hsu r ih =>
    intro fl up hw
    obtain ⟨b, hb1, hyes, hno⟩ := hw
    have J3 : Inv X pins σ H { s with heap := h } := J.landed nb fl.1 up os ag
    obtain ⟨oe3, vs3, he3, hz3, hd3⟩ := fl.there
    have nfr : a ∉ frs (X.env :: X.outer) := fun hm => by
      obtain ⟨_, o', e', hnf⟩ := fl.2.2.1.mem hm
      rw [he3] at e'; cases e'
      exact hnf _ hd3
    have nL : a ≠ X.env.locals := fun z => nfr (List.mem_filterMap.mpr ⟨X.env, List.mem_cons_self, by rw [hf, z]⟩)
    have nF : a ∉ X.fs := fun hm => by
      obtain ⟨e, he, q⟩ := List.mem_filterMap.mp hm
      exact nfr (List.mem_filterMap.mpr ⟨e, List.mem_cons_of_mem _ he, q⟩)
    have S3 := J3.suite he3 hd3 na nL nF
    refine wpAny_handleBy_cons (codeAny_handlers_test ?_) (by intro q; cases q)
    have LT : PySem.W.Looks (model X.prog X.w) h (typeOf (.ref a)) cls := fun A Q E s k q => wpAny_typeOf_ref (k _ _ he3) (by rw [hz3.1]; exact q)
    have LM := PySem.W.exm_one (M := model X.prog X.w) J3.kIn LT hb1
    refine nameE (Y := X) hc S3 (LM.here ?_)
    cases b with
    | false => exact ih fl up (hno rfl)
    | true =>
      refine codeAny_handlers_suite_as ?_
      refine HandSPX.lands_againZ fl fun h4 fl4 up4 => ?_
      have J4 : Inv X pins σ H { s with heap := h4 } := J.landed nb fl4.1 (up.trans up4) os ag
      obtain ⟨oe4, vs4, he4, hz4, hd4⟩ := fl4.there
      have S4 := J4.suite he4 hd4 na nL nF
      refine store_ok (X := X.suite a ((a, oe4) :: (X.pn ++ pins))) (v := .ref a) S4 hN hi (.inl hln) rfl (fun s5 S5 => ?_) (.inr hln)
      refine wpAny_mono ((hsu a oe4 cls d (X.pn ++ pins) hz4 ⟨_, hd4⟩).run [] s5 _ H _ S5 (hyes rfl a na)) (fun f s6 hsp => ?_) (fun _ _ z => False.elim z)
      have gone : ∀ {σ6 : St} {H6 : Hp} {Q : Shared → Prop}, Inv (X.suite a ((a, oe4) :: (X.pn ++ pins))) [] σ6 H6 s6 → (∀ s7, Inv X pins (σ6.set i none) H6 s7 → Q s7) →
          wpAny (model X.prog X.w) X.A (do bindName X.env n .none; unbindBehindTheSuite X.env n pos') (fun _ s7 => Q s7) X.xe s6 := fun {σ6 H6 Q} S6 hq => gone_ok (S6.unsuite ok) hN hi hln hq
      match f, hsp with
      | .next, hsp =>
        obtain ⟨σ6, H6, S6, q6⟩ := hsp
        exact gone S6 fun s7 J7 => ⟨_, _, J7, q6⟩
      | .brk, hsp =>
        obtain ⟨σ6, H6, S6, q6⟩ := hsp
        exact gone S6 fun s7 J7 => ⟨_, _, J7, q6⟩
      | .cont, hsp =>
        obtain ⟨σ6, H6, S6, q6⟩ := hsp
        exact gone S6 fun s7 J7 => ⟨_, _, J7, q6⟩
      | .ret u, hsp =>
        obtain ⟨v6, σ6, H6, S6, r6, q6⟩ := hsp
        exact gone S6 fun s7 J7 => ⟨_, _, _, J7, r6, q6⟩
/-- the statement -/
theorem ps_tries {body : List Stmt} {pos : Pos} {h₀ : ExceptHandler} {hl : List ExceptHandler} {l : List (Value × TSx)} {tb : WX → TS} (hs : X.stack = X.env :: X.outer) (hf : X.env.frame = some X.env.locals) (hN : X.N.Nodup) (hi : X.N[i]? = some n) (hln : X.env.kindOf n = some .local) (tk : Takes X Wout)
    (hb : ∀ (W : WX) (pn : List (Addr × Obj)) (xe : Value → Shared → Prop), Takes (X.tr pn xe) W → PassesOwn (model X.prog X.w) X.A X.env xe → PSs (X.tr pn xe) body (tb W)) (cl : Clauses X n (h₀ :: hl) l) :
    PS X (.Try body (h₀ :: hl) [] [] pos) (fun D σ H => tb (wAll X.K i D Wout l) D σ H) := by
  constructor
  intro pins s σ H D I h
  have ok := I.ok
  have hfr : X.A.frames = some (X.env :: X.outer) := by rw [ok.frames, hs]
  refine wpAny_Try_except ?_
  refine wpAny_mono ((hb (wAll X.K i D Wout l) (X.pn ++ pins) (fun e s₁ => wpAny (model X.prog X.w) X.A (noteFrame e X.env) (fun _ s₂ => wpAny (model X.prog X.w) X.A (setFlight e none) (fun _ s₃ =>
    wpAny (model X.prog X.w) X.A (handleBy e X.env (h₀ :: hl)) (SP X pins D) X.xe s₃) X.xe s₂) X.xe s₁) (fun u s' xx => ?_) PassesOwn.looking).run [] s σ H D (I.toTry _) h) (fun f s1 hsp => ?_) (fun e s1 he => he)
  · obtain ⟨a, B, sI, pins', σ', H', cls, d, rfl, J', nb, up, sky, na, os, ag, hw⟩ := xx
    have sky' : Sky B (X.env :: X.outer) a (Zc cls d) X.env.locals s'.heap := by rw [← hs]; exact sky
    show wpAny (model X.prog X.w) X.A (noteFrame (.ref a) X.env) _ _ _
    exact Sky.land Zc.steady hfr hf sky' fun h3 fl3 up3 => meets hs hf hN hi hln tk os ag (J'.ofTry ok) na nb h3 _ _ cl fl3 (up.trans up3) hw
  · match f, hsp with
    | .next, hsp =>
      obtain ⟨σ', H', J', q⟩ := hsp
      exact wpAny_execs_nil ⟨σ', H', J'.ofTry ok, q⟩
    | .brk, hsp =>
      obtain ⟨σ', H', J', q⟩ := hsp
      exact ⟨σ', H', J'.ofTry ok, q⟩
    | .cont, hsp =>
      obtain ⟨σ', H', J', q⟩ := hsp
      exact ⟨σ', H', J'.ofTry ok, q⟩
    | .ret u, hsp =>
      obtain ⟨v, σ', H', J', r, q⟩ := hsp
      exact ⟨v, σ', H', J'.ofTry ok, r, q⟩
end
end Gx
end T_GxE4
section T_GxE5
set_option Elab.async false
set_option linter.all false
set_option maxRecDepth 100000
set_option maxHeartbeats 4000000
namespace Gx
open PySem PySem.Spec PyProof.Rows L2

/-! ## isinstance(e, C) for an exception with a dict or without -/
section
open PySem.W PySem.Calls
variable {prog : Program} {w : World} {A : Around} {E : Value → Shared → Prop} {s : Shared} {K : PySem.W.Frag} {x D : Addr} {ox : Obj} {od : Option Obj}
/-- the data descriptor on the class comes first -/
theorem found_desc {C : Addr} {name : Str} {a g : Value} (hc : (clsIn K C).isSome = true) (ha : findIn K (.ref C) name = some (some a)) (hg : specialIn K a "__get__" = some (some g)) (ht : takesIn K a = some true) : findObj K C od name = some (.bind g a) := by
  cases e : clsIn K C with
  | none => rw [e] at hc; cases hc
  | some cd =>
    simp only [findObj, e, ha, hg, ht, Option.bind_some]
theorem ask_class {Q : Option Value → Shared → Prop} (C : ExcC K D) (X : K.In s.heap) (I : PySem.W.InstAt s.heap x ox D od) (h : Q (some (.ref D)) { s with toks := s.toks + 1 }) : wpAny (model prog w) A (getAttr? (.ref x) "__class__") Q E s :=
  PySem.W.kx_classE X I C.hg C.hk C.hs (found_desc (by obtain ⟨cd, hc, _⟩ := any_some C.hd; rw [hc]; rfl) C.ha C.hn C.ht) C.hm h
theorem kit_exc (C : ExcC K D) : KitX K (.ref x) (.ref D) (fun h => PySem.W.InstAt h x ox D od) where
  ty := fun _ _ _ I => I.type
  it := fun _ _ X _ => by
    obtain ⟨cd, hc, _⟩ := any_some C.hd
    unfold clsIn at hc
    split at hc
    · rename_i c' d' cd' sl' ho
      intro A' Q' E' s' k q
      unfold isType loadHead
      exact wpAny_bind (wpAny_loadPart (k _ _ (X _ _ ho)) (wpAny_pure q))
    · cases hc
  ne := fun h tp dd its n sl X htp => by
    obtain ⟨cd, hc, _⟩ := any_some C.hd
    by_cases e : D = tp
    · subst e
      unfold clsIn at hc
      split at hc
      · rename_i c' d' cd' sl' ho
        have z := (X _ _ ho).symm.trans htp
        cases z
      · cases hc
    · simp [e]
  ca := fun X I k => ask_class C X I k
end
/-- isinstance(e, c), e the exception that the suite holds -/
def rIsX (K : PySem.W.Frag) (cls : Value) (d : Option Addr) (a : Addr) : List V → Hp → VK → Prop := fun xs H Q => ∃ (D : Addr) (c : V) (cv : Value) (b : Bool), cls = .ref D ∧ ExcC K D ∧ xs = [.ref a, c] ∧ (∀ u, RelV c u → u = cv) ∧ PySem.W.kitOne K (.ref D) cv = some b ∧
  (∀ dd, d = some dd → ∃ fs, H dd = some (.xd fs)) ∧ Q (.bl b) H
theorem call_isX {X : Cx} {a : Addr} {cls : Value} {d : Option Addr} {oe : Obj} {pn : List (Addr × Obj)} (hz : Zc cls d oe) (hf : ∃ vs, oe.data = .fields vs) : CallR (X.suite a ((a, oe) :: pn)) (.builtin "isinstance") (rIsX X.K cls d a) := by
  intro pins s σ H xs us Q I r h
  obtain ⟨D, c, cv, b, rfl, C, rfl, hcv, e, hd, q⟩ := h
  cases r with
  | cons rx rr =>
    cases rr with
    | cons rt rr =>
      cases rr
      cases rx
      obtain rfl := hcv _ rt
      obtain ⟨hget, _⟩ := I.pin (a, oe) (List.mem_append.mpr (.inl List.mem_cons_self))
      obtain ⟨vs, hv⟩ := hf
      obtain ⟨od, J⟩ : ∃ od, PySem.W.InstAt s.heap a oe D od := by
        obtain ⟨oc, odd, oda, osl⟩ := oe
        obtain ⟨h1, h2⟩ := hz
        dsimp only at h1 h2 hv
        subst h1 h2 hv
        cases odd with
        | none => exact ⟨none, hget, rfl, rfl, trivial⟩
        | some dd =>
          obtain ⟨fs, hdd⟩ := hd dd rfl
          have hx : ObjOk X.prog X.w H s.heap dd (.xd fs) := I.hok dd _ hdd
          obtain ⟨mA, hns, hr⟩ := hx
          obtain ⟨od, ho, hl⟩ := lookIn_ns hns
          exact ⟨some od, hget, rfl, rfl, ho⟩
      exact PySem.W.kia_one (kit_exc C) I.kIn J e (fun z => nomatch z) fun tk => ⟨.bl b, H, I.kept (t' := tk) fun _ _ z => z, rfl, q⟩

/-! ## readings in a suite -/
/-- the exception that is held: its slot, its address, its class, its fields -/
structure Held where
  i : Nat
  a : Addr
  c : Nat
  fs : List D
  d : Option Addr
def HeldAt (T : Tb) (g : Gh) (H : Hp) (σ : L2.St) (e : Held) : Prop := σ[e.i]? = some (some (.ref e.a)) ∧ XD T g H e.d e.c e.fs
section
variable {α β γ δ : Type}
def trX (Y : Cy) (e : Held) (rel : Gh → Nat → α → β → Prop) (f : M α) : L2.St → Hp → (β → Hp → Prop) → Prop := fun σ H Q =>
  ∃ g sd own, HRel Y.T Y.B g own H ∧ SRel Y.T g own.length sd σ ∧ HeldAt Y.T g H σ e ∧ At Y rel g sd own σ Q f
theorem XD.ext {T : Tb} {B : Hp} {g g1 : Gh} {n n1 : Nat} {H H1 : Hp} {d : Option Addr} {c : Nat} {fs : List D} (e : GExt B g n g1 n1) (h : XD T g H d c fs) : XD T g1 H1 d c fs := by
  rcases h with h | ⟨a, ws, h1, h2, h3⟩
  · exact .inl h
  · exact .inr ⟨a, ws, h1, e.F _ _ h2, h3.le e.F⟩
theorem HeldAt.ext {T : Tb} {B : Hp} {g g1 : Gh} {n n1 : Nat} {H H1 : Hp} {σ : L2.St} {e : Held} (x : GExt B g n g1 n1) (h : HeldAt T g H σ e) : HeldAt T g1 H1 σ e := ⟨h.1, h.2.ext x⟩
section
variable {Y : Cy} {relA : Gh → Nat → α → β → Prop} {relC : Gh → Nat → γ → δ → Prop} {g g1 : Gh} {n n1 : Nat} {σ : L2.St} {own : Own} {sd : Sl} {H : Hp} {e : Held}
theorem atx_bind {f : M α} {k : α → M γ} {Q : δ → Hp → Prop} {Q1 : β → Hp → Prop} (R1 : HRel Y.T Y.B g own H) (S1 : SRel Y.T g own.length sd σ) (x1 : HeldAt Y.T g H σ e) (h : At Y relC g sd own σ Q (f.bind k))
    (c : ∀ g1 o1 x v H1, HRel Y.T Y.B g1 o1 H1 → SRel Y.T g1 o1.length sd σ → HeldAt Y.T g1 H1 σ e → GExt Y.B g own.length g1 o1.length → relA g1 o1.length x v → At Y relC g1 sd o1 σ Q (k x) → Q1 v H1) : trX Y e relA f σ H Q1 := by
  obtain ⟨g', sd', own', R', S', q⟩ := at_bind (relA := relA) R1 S1 h fun g1 o1 x v H1 r s ex rx q1 => c g1 o1 x v H1 r s (x1.ext ex) ex rx q1
  obtain ⟨r, own2, e2, q2⟩ := h
  refine ⟨g, sd, own, R1, S1, x1, ?_⟩
  unfold M.bind at e2
  cases ef : f sd own with
  | none => rw [ef] at e2; cases e2
  | some p =>
    obtain ⟨r0, o1⟩ := p
    rw [ef] at e2
    cases r0 with
    | ok x => exact ⟨.ok x, o1, ef, fun g' v H' R' x' rx => c g' o1 x v H' R' (S1.ext x') (x1.ext x') x' rx ⟨r, own2, e2, q2.shift x'⟩⟩
    | ex k fs =>
      cases e2
      exact ⟨.ex k fs, _, ef, q2⟩
end
end
section
variable {X : Cx} {Y : Cy} {pos : Pos} {a b c : Expr} {f g : EM} {t : TM} {ε : Held} {es : List Expr} {al : AM}
theorem trX.drop {α β : Type} {rel : Gh → Nat → α → β → Prop} {f : M α} {σ : L2.St} {H : Hp} {Q : β → Hp → Prop} (h : trX Y ε rel f σ H Q) : trM Y rel f σ H Q := by
  obtain ⟨g, sd, own, R, S, _, q⟩ := h
  exact ⟨g, sd, own, R, S, q⟩
theorem x_of (h : PE X a (trE Y f)) : PE X a (trX Y ε (RS Y.T) f) := PE.imp h fun _ _ _ q => q.drop
theorem x_if (hc : PT X c (trX Y ε relB t)) (ha : PE X a (trX Y ε (RS Y.T) f)) (hb : PE X b (trX Y ε (RS Y.T) g)) : PE X (.IfExp c a b pos) (trX Y ε (RS Y.T) (eIf t f g)) := by
  refine PE.imp (pe_ifExp hc ha hb) fun σ H Q q => ?_
  obtain ⟨gh, sd, own, R, S, x0, q⟩ := q
  refine atx_bind R S x0 q fun g1 o1 x v H1 R1 S1 x1 e1 rx q1 => ?_
  obtain rfl : x = v := rx
  cases x with
  | true => rw [if_pos rfl]; exact ⟨g1, sd, o1, R1, S1, x1, q1⟩
  | false => rw [if_neg (by decide)]; exact ⟨g1, sd, o1, R1, S1, x1, q1⟩
theorem x_val (h : PE X a (trX Y ε (RS Y.T) f)) (he : ∀ whole, isTrue a X.env whole = (do let v ← whole; standAt a.pos; holding [v] (truthy v)) := by intro _; rfl) : PT X a (trX Y ε relB (tE f)) := by
  refine PT.imp (pt_val h he) fun σ H Q q => ?_
  obtain ⟨gh, sd, own, R, S, x0, q⟩ := q
  refine atx_bind R S x0 q fun g1 o1 x v H1 R1 S1 x1 e1 rx q1 => ?_
  match x, rx, q1 with
  | .d (.bl k), rx, q1 =>
    have rx : Rep Y.T g1.F (.bl k) v := rx
    cases rx
    exact ⟨k, rfl, at_ret q1 g1 k H1 R1 .rfl' rfl⟩
  | .h k, rx, q1 => exact (at_fail q1).elim
  | .d .non, rx, q1 => exact (at_fail q1).elim
  | .d (.int _), rx, q1 => exact (at_fail q1).elim
  | .d (.str _), rx, q1 => exact (at_fail q1).elim
  | .d (.ty _), rx, q1 => exact (at_fail q1).elim
  | .d (.cls _), rx, q1 => exact (at_fail q1).elim
  | .d (.tup _), rx, q1 => exact (at_fail q1).elim
  | .d (.lst _), rx, q1 => exact (at_fail q1).elim
  | .d (.dic _ _), rx, q1 => exact (at_fail q1).elim
  | .d (.obj _ _), rx, q1 => exact (at_fail q1).elim
theorem xa_nil : PA X [] (trX Y ε (RSs Y.T) aNil) := PA.imp ra_nil fun _ _ _ q => q.drop
theorem xa_cons (ha : PE X a (trX Y ε (RS Y.T) f)) (hr : PA X es (trX Y ε (RSs Y.T) al)) (hs : starEach (a :: es) X.env = (false, eval a X.env) :: starEach es X.env := by rfl) : PA X (a :: es) (trX Y ε (RSs Y.T) (aCons f al)) := by
  refine PA.imp (pa_cons ha hr hs) fun σ H Q q => ?_
  obtain ⟨gh, sd, own, R, S, x0, q⟩ := q
  refine atx_bind R S x0 q fun g1 o1 x v H1 R1 S1 x1 e1 rx q1 => ?_
  refine atx_bind R1 S1 x1 q1 fun g2 o2 xs vs H2 R2 S2 x2 e2 rs q2 => ?_
  exact at_ret q2 g2 _ H2 R2 .rfl' (.cons (rx.ext e2) rs)
theorem x_lst (ha : PA X es (trX Y ε (RSs Y.T) al)) : PE X (.List es pos) (trX Y ε (RS Y.T) (eLst al)) := by
  refine PE.imp (pe_lst ha) fun σ H Q q => ?_
  obtain ⟨gh, sd, own, R, S, x0, q⟩ := q
  refine atx_bind R S x0 q fun g1 o1 xs vs H1 R1 S1 x1 e1 rs q1 => ?_
  obtain ⟨s, es, q2⟩ := at_ask q1
  obtain ⟨ds, ed, e3⟩ := Option.bind_eq_some_iff.mp es
  have rd := dats_rel rs ed
  by_cases hl : ds.length ≤ sizeLine
  · rw [if_pos hl] at e3
    cases e3
    refine ⟨by rw [← rd.length]; exact hl, fun p hp => ?_⟩
    obtain ⟨R2, e2⟩ := R1.new hp (.lst vs)
    exact q2 _ _ _ R2 e2 (Rep.lst upd_same (rd.le e2.F))
  · rw [if_neg hl] at e3; cases e3
theorem x_add (om : O2 Y r m) (ho : OpR X (binaryOp .Add) r) (ha : PE X a (trX Y ε (RS Y.T) f)) (hb : PE X b (trX Y ε (RS Y.T) g)) : PE X (.BinOp a .Add b pos) (trX Y ε (RS Y.T) (eB m f g)) := by
  refine PE.imp (pe_op ho ha hb) fun σ H Q q => ?_
  obtain ⟨gh, sd, own, R, S, x0, q⟩ := q
  refine atx_bind R S x0 q fun g1 o1 x v H1 R1 S1 x1 e1 rx q1 => ?_
  refine atx_bind R1 S1 x1 q1 fun g2 o2 y w H2 R2 S2 x2 e2 ry q2 => ?_
  obtain ⟨s, es, k⟩ := at_ask q2
  obtain ⟨z, ez, e3⟩ := Option.map_eq_some_iff.mp es
  subst e3
  exact om g2 o2 H2 x y v w z _ R2 (rx.ext e2) ry ez fun g3 u H3 R3 e3 rz => k g3 u H3 R3 e3 rz
end
end Gx
end T_GxE5
section T_GxE6
set_option Elab.async false
set_option linter.all false
set_option maxRecDepth 100000
set_option maxHeartbeats 4000000
namespace Gx
open PySem PySem.Spec PyProof.Rows L2

/-- the subclasses among our exceptions -/
def excSub (c c' : Nat) : Bool := c == c' || c' == 9
def xIs (L : List Nat) (bf : Nat → Bool) (ε : Held) : EM := if ε.c ∈ L then M.ret (.d (.bl (bf ε.c))) else M.fail
def xFld (c0 j : Nat) (ε : Held) : EM := if ε.c = c0 then M.ask fun _ => (ε.fs[j]?).map SV.d else M.fail
section
variable {X : Cx} {Y : Cy} {pos p p1 p2 : Pos} {ε : Held} {oe : Obj} {pn : List (Addr × Obj)} {en n : Str}
theorem x_is {L : List Nat} {bf : Nat → Bool} {cv : Value} {cV : V} {ce : Expr} (hz : Zc (.ref (Y.T.ct ε.c)) ε.d oe) (hf : ∃ vs, oe.data = .fields vs) (hE : ∀ c ∈ L, ExcC X.K (Y.T.ct c)) (hK : ∀ c ∈ L, PySem.W.kitOne X.K (.ref (Y.T.ct c)) cv = some (bf c))
    (hcv : ∀ u, RelV cV u → u = cv) (hb : X.mg "isinstance" = none) (hg : Gl X "isinstance") (hN : X.N[ε.i]? = some en) (hv : Vis X.env.scope en) (hce : PE (X.suite ε.a ((ε.a, oe) :: pn)) ce (tC cV)) (hd : (en == ("__debug__" : Str)) = false := by decide) (hcd : (en == ("__classdict__" : Str)) = false := by decide)
    (he : starEach [.Name en p, ce] X.env = (false, eval (.Name en p) X.env) :: starEach [ce] X.env := by rfl) (he2 : starEach [ce] X.env = (false, eval ce X.env) :: starEach [] X.env := by rfl) (hpl : (backTo pos (starEach [ce] X.env)).any (·.1) = false := by rfl) :
    PE (X.suite ε.a ((ε.a, oe) :: pn)) (.Call (.Name "isinstance" p1) [.Name en p, ce] [] pos) (trX Y ε (RS Y.T) (xIs L bf ε)) := by
  refine PE.imp (pe_callB (call_isX hz hf) hg hb PyProof.Rows.Boot.isinstance (pa_cons (pe_var hN hv hd hcd) (pa_cons hce pa_nil he2) he) (by decide) (by decide) he hpl) fun σ H Q q => ?_
  obtain ⟨gh, sd, own, R, S, ⟨hs, xd⟩, q⟩ := q
  unfold xIs at q
  by_cases hL : ε.c ∈ L
  · rw [if_pos hL] at q
    have k := at_ret q
    refine ⟨.ref ε.a, hs, Y.T.ct ε.c, cV, cv, bf ε.c, rfl, hE _ hL, rfl, hcv, hK _ hL, fun dd hdd => ?_, k gh _ H R .rfl' (Rep.bl _)⟩
    rcases xd with ⟨_, z⟩ | ⟨a, ws, z, h2, _⟩
    · rw [z] at hdd; cases hdd
    · rw [z] at hdd; cases hdd
      exact ⟨_, R.f _ _ h2⟩
  · rw [if_neg hL] at q; exact (at_fail q).elim
theorem x_fld {c0 j : Nat} (hz : Zc (.ref (Y.T.ct ε.c)) ε.d oe) (hf : ∃ vs, oe.data = .fields vs) (T : XfC X.K (Y.T.ct c0)) (hno : PySem.W.findIn X.K (.ref (Y.T.ct c0)) n = some none) (hn : (flds c0)[j]? = some n) (hN : X.N[ε.i]? = some en) (hv : Vis X.env.scope en)
    (hd : (en == ("__debug__" : Str)) = false := by decide) (hcd : (en == ("__classdict__" : Str)) = false := by decide) (hb : attributeBase (.Name en p) n X.env (eval (.Name en p) X.env) = eval (.Name en p) X.env := by rfl) :
    PE (X.suite ε.a ((ε.a, oe) :: pn)) (.Attribute (.Name en p) n pos) (trX Y ε (RS Y.T) (xFld c0 j ε)) := by
  refine PE.imp (pe_xf T hno hz hf (pe_var hN hv hd hcd) hb) fun σ H Q q => ?_
  obtain ⟨gh, sd, own, R, S, ⟨hs, xd⟩, q⟩ := q
  unfold xFld at q
  by_cases hc : ε.c = c0
  · rw [if_pos hc] at q
    obtain ⟨s, es, k⟩ := at_ask q
    obtain ⟨d, e2, e3⟩ := Option.map_eq_some_iff.mp es
    subst e3
    rcases xd with ⟨z, _⟩ | ⟨a, ws, z, h2, h3⟩
    · rw [z] at e2; cases e2
    · obtain ⟨v, e4, r4⟩ := h3.get e2
      refine ⟨.ref ε.a, hs, rfl, by rw [hc], a, _, v, z, R.f _ _ h2, ?_, k gh v H R .rfl' r4⟩
      rw [hc]
      exact zip_look (flds_nd _) hn e4
  · rw [if_neg hc] at q; exact (at_fail q).elim
/-- a suite's reading -/
def trXS (Y : Cy) (ε : Held) (f : SM) : TS := fun D σ H => ∃ g sd own, HRel Y.T Y.B g own H ∧ SRel Y.T g own.length sd σ ∧ HeldAt Y.T g H σ ε ∧ SAt Y g sd own D f
theorem trXS.drop {f : SM} {D : Ends} {σ : L2.St} {H : Hp} (h : trXS Y ε f D σ H) : trS Y f D σ H := by
  obtain ⟨g, sd, own, R, S, _, q⟩ := h
  exact ⟨g, sd, own, R, S, q⟩
theorem sx_bind {α β : Type} {relA : Gh → Nat → α → β → Prop} {g : Gh} {sd : Sl} {own : Own} {σ : L2.St} {H : Hp} {f : M α} {k : α → SM} {Dn : Ends} {Q1 : β → Hp → Prop} (R1 : HRel Y.T Y.B g own H) (S1 : SRel Y.T g own.length sd σ) (x1 : HeldAt Y.T g H σ ε) (h : SAt Y g sd own Dn (SM.bind f k))
    (c : ∀ g1 o1 x v H1, HRel Y.T Y.B g1 o1 H1 → SRel Y.T g1 o1.length sd σ → GExt Y.B g own.length g1 o1.length → relA g1 o1.length x v → SAt Y g1 sd o1 Dn (k x) → Q1 v H1) : trX Y ε relA f σ H Q1 := by
  obtain ⟨r, e, q⟩ := h
  refine ⟨g, sd, own, R1, S1, x1, ?_⟩
  unfold SM.bind at e
  cases ef : f sd own with
  | none => rw [ef] at e; cases e
  | some p =>
    obtain ⟨r0, o1⟩ := p
    rw [ef] at e
    cases r0 with
    | ok x => exact ⟨.ok x, o1, ef, fun g' v H' R' x' rx => c g' o1 x v H' R' (S1.ext x') x' rx ⟨r, e, q.shift x'⟩⟩
    | ex k fs =>
      cases e
      exact ⟨.ex k fs, o1, ef, fun g' d H' R' e' x => q g' σ d H' R' (S1.ext e') e' x⟩
theorem xs_set {i : Nat} {x : Str} {pos' : Pos} {a : Expr} {f : EM} (hN : X.N.Nodup) (h : PE X a (trX Y ε (RS Y.T) f)) (hi : X.N[i]? = some x := by rfl) (hx : Loc X.env.scope x := by first | exact Or.inl rfl | exact Or.inr rfl) (hs : swapsWith a (some (.Name x pos')) pos.line X.env = pure false := by rfl)
    (hf : X.fn x = true ∨ X.env.scope.names.lookup x = some .local := by first | exact .inl rfl | exact .inr rfl) : PS X (.Assign [.Name x pos'] a pos) (trXS Y ε (sSet i f)) := PS.imp (ps_set hN hi hx h hs hf) fun D σ H q => by
  obtain ⟨gh, sd, own, R, S, x0, q⟩ := q
  refine sx_bind R S x0 q fun g1 o1 x v H1 R1 S1 e1 rx q1 => ?_
  exact sat_nx q1 rfl g1 _ H1 R1 (S1.set rx) .rfl'
end

/-! ## the try statement -/
abbrev XSt := Nat → List D → SM
/-- behind a suite -/
def aft (i : Nat) : Option Fl → Option Fl
  | some (.nx sd o) => some (.nx (sd.set i none) o)
  | some (.bk sd o) => some (.bk (sd.set i none) o)
  | some (.ct sd o) => some (.ct (sd.set i none) o)
  | some (.rt s o) => some (.rt s o)
  | _ => none
def hndl (i : Nat) : List ((Nat → Bool) × XSt) → Nat → List D → SM
  | [], c, fs => fun sd own => some (.ex c fs sd own)
  | h :: r, c, fs => if h.1 c then fun sd own => if i < sd.length then aft i (h.2 c fs (sd.set i none) own) else none else hndl i r c fs
def sTry (L : List Nat) (i : Nat) (body : SM) (hs : List ((Nat → Bool) × XSt)) : SM := fun sd own => match body sd own with
  | some (.ex c fs sd' own') => if c ∈ L then hndl i hs c fs sd' own' else none
  | r => r
/-- the clauses with their readings -/
inductive HX (X : Cx) (Y : Cy) (n : Str) (i : Nat) (L : List Nat) : List ExceptHandler → List ((Nat → Bool) × XSt) → Prop
  | nil : HX X Y n i L [] []
  | cons {x : Str} {cv : Value} {bf : Nat → Bool} {st : XSt} {b₀ : Stmt} {suite : List Stmt} {np pos' : Pos} {hs : List ExceptHandler} {l : List ((Nat → Bool) × XSt)} (hc : Names X x cv) (hM : ∀ c ∈ L, PySem.W.exmOne X.K (.ref (Y.T.ct c)) cv = some (bf c))
      (hsu : ∀ (a : Addr) (oe : Obj) (c : Nat) (fs : List D) (d : Option Addr) (pn : List (Addr × Obj)), Zc (.ref (Y.T.ct c)) d oe → (∃ vs, oe.data = .fields vs) → PSs (X.suite a ((a, oe) :: pn)) (b₀ :: suite) (trXS Y ⟨i, a, c, fs, d⟩ (st c fs))) (r : HX X Y n i L hs l) :
      HX X Y n i L (.ExceptHandler (some (.Name x np)) (some n) (b₀ :: suite) pos' :: hs) ((bf, st) :: l)
def WY (Y : Cy) : WX := fun cls d σ H => Y.Ek σ cls d H
section
variable {X : Cx} {Y : Cy} {n : Str} {i : Nat} {L : List Nat}
theorem fok_less {g : Gh} {m : Nat} {Dn : Ends} {r r2 : Fl} (ha : aft i (some r) = some r2) (h : FOk Y g m Dn r2) : FOk Y g m (lessE i Dn) r := by
  cases r with
  | nx sd o => cases ha; exact fun g' σ' H' R' S' e' => h g' _ H' R' S'.unset e'
  | bk sd o => cases ha; exact fun g' σ' H' R' S' e' => h g' _ H' R' S'.unset e'
  | ct sd o => cases ha; exact fun g' σ' H' R' S' e' => h g' _ H' R' S'.unset e'
  | rt s o => cases ha; exact h
  | ex k fs sd o => cases ha
theorem hx_wish {hs : List ExceptHandler} {sem : List ((Nat → Bool) × XSt)} (h : HX X Y n i L hs sem) : ∃ l, Clauses X n hs l ∧ ∀ (g : Gh) (sd : Sl) (own : Own) (σ : L2.St) (d : Option Addr) (c : Nat) (fs : List D) (Dn : Ends) (H : Hp),
    HRel Y.T Y.B g own H → SRel Y.T g own.length sd σ → XD Y.T g H d c fs → c ∈ L → SAt Y g sd own Dn (hndl i sem c fs) → wAll X.K i Dn (WY Y) l (.ref (Y.T.ct c)) d σ H := by
  induction h with
  | nil => exact ⟨[], .nil, fun g sd own σ d c fs Dn H R S x hL q => by
      obtain ⟨r, e, k⟩ := q
      cases e
      exact k g σ d H R S .rfl' x⟩
  | @cons x cv bf st b₀ suite np pos' hs l hc hM hsu r ih =>
    obtain ⟨l2, cl, hw⟩ := ih
    refine ⟨(cv, fun a cls d Dn σ H => ∃ c fs, cls = .ref (Y.T.ct c) ∧ trXS Y ⟨i, a, c, fs, d⟩ (st c fs) Dn σ H) :: l2, .cons hc (fun a oe cls d pn hz hf => ⟨fun pins s σ H Dn I q => ?_⟩) cl, fun g sd own σ d c fs Dn H R S x hL q => ?_⟩
    · obtain ⟨c, fs, rfl, q⟩ := q
      exact (hsu a oe c fs d pn hz hf).run pins s σ H Dn I q
    · refine ⟨bf c, hM c hL, fun hb a ha => ?_, fun hb => ?_⟩
      · obtain ⟨r, e, k⟩ := q
        rw [show hndl i ((bf, st) :: l) c fs sd own = (if i < sd.length then aft i (st c fs (sd.set i none) own) else none) from by unfold hndl; rw [if_pos hb]] at e
        by_cases hi : i < sd.length
        · rw [if_pos hi] at e
          cases er : st c fs (sd.set i none) own with
          | none => rw [er] at e; cases e
          | some r1 =>
            rw [er] at e
            refine ⟨c, fs, rfl, g, sd.set i none, own, R, S.unset, ⟨?_, x⟩, r1, er, fok_less e k⟩
            rw [List.getElem?_set_self (by rw [S.1]; exact hi)]
        · rw [if_neg hi] at e; cases e
      · refine hw g sd own σ d c fs Dn H R S x hL ?_
        obtain ⟨r, e, k⟩ := q
        rw [show hndl i ((bf, st) :: l) c fs sd own = hndl i l c fs sd own from by
          show (if bf c = true then _ else hndl i l c fs : SM) sd own = _
          rw [if_neg (by rw [hb]; decide)]] at e
        exact ⟨r, e, k⟩
/-- try: body / except .. as n: suite / .. -/
theorem rs_try {body : List Stmt} {pos : Pos} {h₀ : ExceptHandler} {hl : List ExceptHandler} {sem : List ((Nat → Bool) × XSt)} {fb : SM} (hs : X.stack = X.env :: X.outer) (hf : X.env.frame = some X.env.locals) (hN : X.N.Nodup) (tk : Takes X (WY Y))
    (hb : ∀ (Ek : L2.St → XK) (pn : List (Addr × Obj)) (xe : Value → Shared → Prop), Takes (X.tr pn xe) (WY ⟨Y.T, Y.B, Ek⟩) → PassesOwn (model X.prog X.w) X.A X.env xe → PSs (X.tr pn xe) body (trS ⟨Y.T, Y.B, Ek⟩ fb)) (hx : HX X Y n i L (h₀ :: hl) sem)
    (hi : X.N[i]? = some n := by rfl) (hln : X.env.kindOf n = some .local := by rfl) : PS X (.Try body (h₀ :: hl) [] [] pos) (trS Y (sTry L i fb sem)) := by
  obtain ⟨l, cl, hw⟩ := hx_wish hx
  refine PS.imp (ps_tries (tb := fun W => trS ⟨Y.T, Y.B, fun σ cls d H => W cls d σ H⟩ fb) hs hf hN hi hln tk (fun W pn xe t p => hb _ pn xe t p) cl) fun D σ H q => ?_
  obtain ⟨g, sd, own, R, S, r, e, k⟩ := q
  unfold sTry at e
  cases eb : fb sd own with
  | none => rw [eb] at e; cases e
  | some r0 =>
    rw [eb] at e
    refine ⟨g, sd, own, R, S, r0, eb, ?_⟩
    cases r0 with
    | ex c fs sd2 o2 =>
      have e : (if c ∈ L then hndl i sem c fs sd2 o2 else none) = some r := e
      by_cases hL : c ∈ L
      · rw [if_pos hL] at e
        exact fun g' σ' d H' R' S' e' x => hw g' sd2 o2 σ' d c fs D H' R' S' x hL ⟨r, e, k.shift e'⟩
      · rw [if_neg hL] at e; cases e
    | nx sd2 o2 => cases e; exact k
    | rt s o2 => cases e; exact k
    | bk sd2 o2 => cases e; exact k
    | ct sd2 o2 => cases e; exact k
theorem cx_tr {K : PySem.W.Frag} (tk : Takes X (WY Y)) (hK : X.K = Y.T.K) : CxOk X Y := ⟨hK, fun σ => passAt tk σ⟩
end
end Gx
end T_GxE6
section T_GxN1
set_option Elab.async false
set_option linter.all false
set_option maxRecDepth 100000
set_option maxHeartbeats 4000000
namespace Gx
open PySem PySem.Spec PyProof.Rows L2
open AutoSeq1 (wpAny_loadPart')

/-! ## enumerate(v): v a tuple or a list -/
theorem enum_new1 {v : Value} {o : Obj} {Hh : Heap → Prop} (B : Begins v o Hh) :
    Meets (Builtin.«enumerate.__new__» ⟨[.type "enumerate", v], []⟩) (fun _ R s => Hh s.heap ∧
      R (.ok (.ret (.ref (s.heap.push o).objs.size))) { s with heap := (s.heap.push o).push { cls := .type "enumerate", data := .fields #[.none, .bool false, .ref s.heap.objs.size, rawInt 0, .none, .none] } }) :=
  .of_wp fun prog w A R s h => by
    obtain ⟨hp, g, d, tk, os⟩ := s; obtain ⟨h1, h⟩ := h
    have hsub := sub_enumerate
    have q1 : ∀ {A' : Around} {E : Value → Shared → Prop} {Q : Value → Shared → Prop}, Q (.ref hp.objs.size) ⟨hp.push o, g, d, tk, os⟩ → wpAny (model prog w) A' (pyIter v) Q E ⟨hp, g, d, tk, os⟩ :=
      fun {A' E Q} q => B.iter prog w A' E ⟨hp, g, d, tk, os⟩ Q h1 q
    wp_walk
    refine wpAny_stack_any fun st => wpAny_pure ?_
    split
    · rename_i c _ _ _ _ _
      cases (c == Value.type "enumerate")
      · wp_walk using q1
        exact ⟨_, rfl, h⟩
      · wp_walk using q1
        exact ⟨_, rfl, h⟩
    · wp_walk using q1
      exact ⟨_, rfl, h⟩
theorem enum_of {prog : Program} {w : World} {A : Around} {E : Value → Shared → Prop} {s : Shared} {v : Value} {o : Obj} {Hh : Heap → Prop} {Q : Value → Shared → Prop} (B : Begins v o Hh) (h1 : Hh s.heap)
    (h : ∀ h', IsEnum h' (s.heap.objs.size + 1) s.heap.objs.size 0 .none → h'.get? s.heap.objs.size = some o → h'.objs.size = s.heap.objs.size + 2 → (∀ b o, s.heap.get? b = some o → h'.get? b = some o) → Q (.ref (s.heap.objs.size + 1)) { s with heap := h' }) :
    wpAny (model prog w) A (call (.type "enumerate") [v]) Q E s := by
  refine callType_new F.called_enumerate (by decide) (F.typeCall_enumerate_1 _) (F.newCall_enumerate_1 _) (fun obj => F.args_object_init_2 obj _) F.entry_enumerate_new (enum_new1 B) ⟨h1, ?_⟩
  have hz : (s.heap.push o).objs.size = s.heap.objs.size + 1 := Heap.size_push ..
  show _ ∧ _
  rw [hz]
  have e2 := Heap.get?_push_at (h := s.heap.push o) (o := { cls := .type "enumerate", data := .fields #[.none, .bool false, .ref s.heap.objs.size, rawInt 0, .none, .none] }) rfl rfl
  rw [hz] at e2
  refine ⟨⟨_, e2, rfl⟩, ?_⟩
  refine h _ e2 (Heap.get?_push_of_some _ (Heap.get?_push_size _ B.free)) (by rw [Heap.size_push, hz]) fun b o q => Heap.get?_push_of_some _ (Heap.get?_push_of_some _ q)
/-- the tuple at a, each item in a new pair -/
def Itf (K : PySem.W.Frag) (a : Addr) : It :=
  ⟨fun i H => ∃ (xs : List V) (x : V), SqT K H a xs ∧ xs[i]? = some x, fun i H v H' => ∃ T x, v = .ref T ∧ H T = none ∧ H' = upd H T (.tup [.int (i : Nat), x]) ∧ ∀ xs, SqT K H a xs → xs[i]? = some x, fun i H => ∃ xs : List V, SqT K H a xs ∧ xs.length ≤ i⟩
theorem turn_enumT {P : Program} {w : World} {K : PySem.W.Frag} {elts : List Expr} {kk : Nat} {tpos : Pos} (a e it : Addr) (hae : a ≠ e) (hai : a ≠ it) :
    Turn P w K (.Tuple elts kk tpos) (Itf K a) [e, it] e (fun i h => (∃ old, IsEnum h e it ((i : Nat) : Int) old) ∧ h.IsTupleIter it a i ∧ e ≠ it) where
  mem := by simp
  obj := by
    rintro i h ⟨⟨old, he⟩, ⟨o, ho, hc, hd⟩, _⟩ b hb
    rcases List.mem_cons.mp hb with rfl | hb
    · exact ⟨_, he, fun v q => nomatch q⟩
    · obtain rfl := List.mem_singleton.mp hb
      exact ⟨o, ho, fun v q => by rw [hd] at q; cases q⟩
  keep := by
    rintro i h h' ⟨⟨old, he⟩, hi, hne⟩ k
    exact ⟨⟨old, k e (by simp) _ he⟩, hi.at fun o q => k it (by simp) o q, hne⟩
  item := by
    intro X hP hw hK hc i pins s σ H E I hf st hg
    subst hP hw hK
    obtain ⟨⟨old, he⟩, hit, hne⟩ := st
    obtain ⟨xs, x, hq, hx⟩ := hg
    obtain ⟨its, rv, p, hz⟩ := I.tuple hq
    obtain ⟨u, hu, ru⟩ := rv.get hx
    have hel : e < s.heap.objs.size := Heap.lt_size he
    have hil : it < s.heap.objs.size := by obtain ⟨_, q, _⟩ := hit; exact Heap.lt_size q
    have hi : i < its.toArray.size := by
      have := (List.getElem?_eq_some_iff.mp hu).1
      simpa using this
    refine wpAny_pyNext_enum_itemD (Draws.tuple (A := X.A.in1) (I.ok.hd hc) it a hai its.toArray) he ⟨hit, p⟩ hi hne (by simp [hne, Ne.symm hae]) fun y h' tk hy ho ⟨hit', _⟩ hT hsz hk => ?_
    have hyu : y = u := by
      have hy : its.toArray[i]? = some y := hy
      rw [List.getElem?_toArray, hu] at hy
      cases hy; rfl
    subst hyu
    refine ⟨_, rfl, wpAny_letOwnedTupleGo_enum (s := { s with heap := h', toks := tk + 1 }) ho fun h'' he' sb => ?_⟩
    have hT2 : h''.get? s.heap.objs.size = some { cls := .type "tuple", data := .seq #[.int i tk, y] } := (sb.2 _ (Nat.ne_of_gt hel)).trans hT
    have new : ObjOk X.prog X.w (upd H s.heap.objs.size (.tup [.int (i : Nat), x])) h'' s.heap.objs.size (.tup [.int (i : Nat), x]) :=
      ⟨by show 2 ≤ sizeLine; decide, [.int i tk, y], .cons ⟨_, rfl⟩ (.cons ru .nil), ⟨_, hT2, rfl, _, rfl⟩⟩
    have I1 : Inv X pins σ (upd H s.heap.objs.size (.tup [.int (i : Nat), x])) { s with heap := h'', toks := tk + 1 } :=
      I.turnedNew (ch := [e, it]) (fun b ob hb q => (sb.2 b (fun z => hb (by simp [z]))).trans (hk b ob (fun z => hb (by simp [z])) (fun z => hb (by simp [z])) q)) hf (Nat.le_refl _) new
    refine ⟨.ref s.heap.objs.size, _, I1, rfl, ⟨_, x, rfl, I.hok.fresh (Nat.le_refl _), rfl, fun ys hy => by rw [I.tuple_inj hy hq]; exact hx⟩, ⟨⟨y, ?_⟩, hit'.at fun o q => (sb.2 it (Ne.symm hne)).trans q, hne⟩, fun b hb => ?_⟩
    · rw [show ((i + 1 : Nat) : Int) = (i : Int) + 1 by omega]
      exact he'
    · have hb' : b < s.heap.objs.size := by
        rcases List.mem_cons.mp hb with rfl | hb
        · exact hel
        · obtain rfl := List.mem_singleton.mp hb
          exact hil
      rw [upd_ne (Nat.ne_of_lt hb')]
      exact (hf b hb).1
  done := by
    intro X hP hw hK hc i pins s σ H E I hf st hg
    subst hP hw hK
    obtain ⟨⟨old, he⟩, hit, hne⟩ := st
    obtain ⟨xs, hq, hx⟩ := hg
    obtain ⟨its, rv, p, hz⟩ := I.tuple hq
    obtain ⟨f0, f1, f2, f3, f4, f5⟩ := hf it (by simp)
    have hl := rv.length
    unfold pyNext
    refine wpAny_bind (wpAny_attempt (wpAny_callSpecial?_slot (name := Str.ofString "__next__") (show s.TypeIs (.ref e) "enumerate" from ⟨_, he, rfl⟩) F.slot_enumerate_next
      (wpAny_call_entry F.slot_enumerate_next (show s.TypeIs (.ref e) "enumerate" from ⟨_, he, rfl⟩) F.entry_enumerate_next ?_ (F.args_enumerate_next_1 _))))
    show wpAny _ _ (field (.ref e) 2 >>= _) _ _ _
    refine wpAny_bind (wpAny_field he rfl (x := .ref it) rfl (wpAny_bind (wpAny_nextOf_tuple_end (A := X.A.in1) (I.ok.hd hc) hit p (by simp; omega) fun h' x he' hx' => ?_)))
    obtain ⟨o, ho, hcl⟩ := hx'
    refine wpAny_bind (wpAny_isInstance (T := "StopIteration") (b := true) ⟨o, ho, hcl⟩ isSubtype_stop (wpAny_pure ?_))
    exact ⟨rfl, I.turned (t' := s.toks) (fun b o hb q => he' b o hb q) f0 f1 f3 f4 f5⟩
  self := fun A i s Q E st h => let ⟨⟨_, he⟩, _⟩ := st; wpAny_pyIter_enum he h
/-- enumerate of a list or of a tuple -/
def iEnumA (K : PySem.W.Frag) (ta : TA) : TI := fun σ H R => ta σ H fun vs H1 => (∃ a xs, vs = [.ref a] ∧ SqL K H1 a xs ∧ R (Ite K a) H1) ∨ (∃ a xs, vs = [.ref a] ∧ SqT K H1 a xs ∧ R (Itf K a) H1)
theorem pi_enumA {X : Cx} {e : Expr} {ta : TA} {p pos tpos : Pos} {elts : List Expr} {kk : Nat} (hg : Gl X "enumerate") (hm : X.mg "enumerate" = none) (ha : PA X [e] ta) (hs : starEach [e] X.env = [(false, eval e X.env)] := by rfl) :
    PI X (.Tuple elts kk tpos) (.Call (.Name "enumerate" p) [e] [] pos) (iEnumA X.K ta) := by
  constructor
  intro pins s σ H R I h
  refine Call_ (ld_blt I hg hm boot_enumerate (PyProof.Rows.callWith_type1 (thn (ha.run pos pins s σ H _ I h) fun us s1 ⟨vs, H1, I1, r1, q1⟩ => ?_) hs rfl))
  have apart : ∀ b, b = s1.heap.objs.size + 1 ∨ b = s1.heap.objs.size → FpOk X pins H1 b := fun b hb => by
    have hle : s1.heap.objs.size ≤ b := by
      rcases hb with z | z
      · rw [z]; exact Nat.le_add_right _ _
      · rw [z]; exact Nat.le_refl _
    exact I1.fpOk hle (I1.hok.fresh hle)
  rcases q1 with ⟨a, xs, ex, hq, q⟩ | ⟨a, xs, ex, hq, q⟩
  · subst ex
    cases r1 with
    | cons r rr =>
      cases rr
      cases r
      obtain ⟨its, rv, p', hz⟩ := I1.list hq
      refine call_enumerate_list p'.isList fun h' he hit hsz hk => wpAny_pyIter_enum he ?_
      exact ⟨_, [s1.heap.objs.size + 1, s1.heap.objs.size], _, _, H1, rfl, I1.kept (t' := s1.toks) hk, turn_enum a (s1.heap.objs.size + 1) s1.heap.objs.size, ⟨⟨.none, he⟩, hit, Nat.succ_ne_self _⟩, fun b hb => apart b (by simpa using hb), q⟩
  · subst ex
    cases r1 with
    | cons r rr =>
      cases rr
      cases r
      obtain ⟨its, rv, p', hz⟩ := I1.tuple hq
      have hl : a < s1.heap.objs.size := by obtain ⟨o, ho, _⟩ := p'; exact Heap.lt_size ho
      refine enum_of (begins_tuple a its.toArray) p' fun h' he hit hsz hk => wpAny_pyIter_enum he ?_
      exact ⟨_, [s1.heap.objs.size + 1, s1.heap.objs.size], _, _, H1, rfl, I1.kept (t' := s1.toks) hk, turn_enumT a (s1.heap.objs.size + 1) s1.heap.objs.size (Nat.ne_of_lt (Nat.lt_succ_of_lt hl)) (Nat.ne_of_lt hl), ⟨⟨.none, he⟩, ⟨_, hit, rfl, rfl⟩, Nat.succ_ne_self _⟩, fun b hb => apart b (by simpa using hb), q⟩
def enumD (xs : List D) : List D := xs.zipIdx.map fun p => .tup [.int (p.2 : Nat), p.1]
def iEnum (f : EM) : IM := f.bind fun x => match x with
  | .d (.lst xs) => M.ret (enumD xs)
  | .d (.tup xs) => M.ret (enumD xs)
  | _ => M.fail
section
variable {X : Cx} {Y : Cy} {a : Expr} {f : EM} {p pos tpos : Pos} {elts : List Expr} {kk : Nat}
theorem enumD_get {xs : List D} {i : Nat} {d : D} (h : (enumD xs)[i]? = some d) : ∃ x, xs[i]? = some x ∧ d = .tup [.int (i : Nat), x] := by
  unfold enumD at h
  rw [List.getElem?_map, List.getElem?_zipIdx] at h
  cases e : xs[i]? with
  | none => rw [e] at h; cases h
  | some x =>
    rw [e] at h
    simp at h
    exact ⟨x, rfl, h.symm⟩
theorem enumD_len (xs : List D) : (enumD xs).length = xs.length := by unfold enumD; simp
theorem enum_yld {T : Tb} {B : Hp} {g : Gh} {own : Own} {H H2 : Hp} {i : Nat} {x v : V} {d : D} {Tt : Addr} (R : HRel T B g own H) (hT : H Tt = none) (e2 : H2 = upd H Tt (.tup [.int (i : Nat), v])) (r : Rep T g.F d v) :
    ∃ g2, HRel T B g2 own H2 ∧ GExt B g own.length g2 own.length ∧ Rep T g2.F (.tup [.int (i : Nat), d]) (.ref Tt) := by
  subst e2
  obtain ⟨R2, e2⟩ := R.new hT (.tup [.int (i : Nat), v])
  exact ⟨_, R2, e2, .tup (SqT.of upd_same) (.cons (.int _) (.cons (r.le e2.F) .nil))⟩
theorem ri_enum (hm : X.mg "enumerate" = none) (h : PE X a (trE Y f)) (hK : X.K = Y.T.K := by rfl) (hg : Gl X "enumerate" := by rfl) (hs : starEach [a] X.env = [(false, eval a X.env)] := by rfl) : PI X (.Tuple elts kk tpos) (.Call (.Name "enumerate" p) [a] [] pos) (trI Y (iEnum f)) := by
  refine PI.imp (pi_enumA hg hm (pa_cons h pa_nil hs) hs) fun σ H Q q => ?_
  obtain ⟨gh, sd, own, R, S, q⟩ := q
  refine at_bind R S q fun g1 o1 x v H1 R1 S1 e1 rx q1 => ?_
  match x, rx, q1 with
  | .d (.lst xs), rx, q1 =>
    have rx : Rep Y.T g1.F (.lst xs) v := rx
    have k := at_ret q1
    cases rx with
    | @lst pa vs _ h1 h2 =>
      rw [hK]
      refine .inl ⟨pa, vs, rfl, SqL.of (R1.f _ _ h1), k g1 _ H1 R1 .rfl' ⟨fun _ i g own H R l hi => ?_, fun _ i g own H R l hi => ?_, fun _ i g own H x H2 d R l y hd => ?_⟩⟩
      · rw [enumD_len] at hi
        obtain ⟨v, hv⟩ : ∃ v, vs[i]? = some v := ⟨vs[i]'(by rw [← h2.length]; exact hi), by simp⟩
        exact ⟨vs, v, SqL.of (R.f _ _ (l _ _ h1)), hv⟩
      · rw [enumD_len] at hi
        exact ⟨vs, SqL.of (R.f _ _ (l _ _ h1)), by rw [← h2.length]; exact hi⟩
      · obtain ⟨T, v, e1, e2, e3, e4⟩ := y
        obtain ⟨z, hz, rfl⟩ := enumD_get hd
        obtain ⟨w, hw, rw'⟩ := h2.get hz
        have := e4 vs (SqL.of (R.f _ _ (l _ _ h1)))
        rw [hw] at this
        cases this
        subst e1
        exact enum_yld (x := v) R e2 e3 (rw'.le l)
  | .d (.tup xs), rx, q1 =>
    have rx : Rep Y.T g1.F (.tup xs) v := rx
    have k := at_ret q1
    cases rx with
    | @tup pa vs _ h1 h2 =>
      rw [hK]
      refine .inr ⟨pa, vs, rfl, SqT.le R1.f h1, k g1 _ H1 R1 .rfl' ⟨fun _ i g own H R l hi => ?_, fun _ i g own H R l hi => ?_, fun _ i g own H x H2 d R l y hd => ?_⟩⟩
      · rw [enumD_len] at hi
        obtain ⟨v, hv⟩ : ∃ v, vs[i]? = some v := ⟨vs[i]'(by rw [← h2.length]; exact hi), by simp⟩
        exact ⟨vs, v, SqT.le R.f (SqT.le l h1), hv⟩
      · rw [enumD_len] at hi
        exact ⟨vs, SqT.le R.f (SqT.le l h1), by rw [← h2.length]; exact hi⟩
      · obtain ⟨T, v, e1, e2, e3, e4⟩ := y
        obtain ⟨z, hz, rfl⟩ := enumD_get hd
        obtain ⟨w, hw, rw'⟩ := h2.get hz
        have := e4 vs (SqT.le R.f (SqT.le l h1))
        rw [hw] at this
        cases this
        subst e1
        exact enum_yld (x := v) R e2 e3 (rw'.le l)
  | .h k, rx, q1 => exact (at_fail q1).elim
  | .d .non, rx, q1 => exact (at_fail q1).elim
  | .d (.bl _), rx, q1 => exact (at_fail q1).elim
  | .d (.int _), rx, q1 => exact (at_fail q1).elim
  | .d (.str _), rx, q1 => exact (at_fail q1).elim
  | .d (.ty _), rx, q1 => exact (at_fail q1).elim
  | .d (.cls _), rx, q1 => exact (at_fail q1).elim
  | .d (.dic _ _), rx, q1 => exact (at_fail q1).elim
  | .d (.obj _ _), rx, q1 => exact (at_fail q1).elim
end
end Gx
end T_GxN1
section T_GxN2
set_option Elab.async false
set_option linter.all false
set_option maxRecDepth 100000
set_option maxHeartbeats 4000000
namespace Gx
open PySem PySem.Spec PyProof.Rows L2

/-! ## operators of ints by name -/
section
variable {X : Cx} {Y : Cy} {pos : Pos} {a b : Expr} {f g : EM}
theorem o2_lt : O2 Y (rI0 fun i j => .bl (decide (i < j))) mLt := o2_I0 fun _ _ _ => .bl _
theorem o2_le : O2 Y (rI0 fun i j => .bl (decide (i ≤ j))) mLe := o2_I0 fun _ _ _ => .bl _
theorem o2_gt : O2 Y (rI0 fun i j => .bl (decide (j < i))) mGt := o2_I0 fun _ _ _ => .bl _
theorem o2_ge : O2 Y (rI0 fun i j => .bl (decide (j ≤ i))) mGe := o2_I0 fun _ _ _ => .bl _
theorem r_sub (ha : PE X a (trE Y f)) (hb : PE X b (trE Y g)) : PE X (.BinOp a .Sub b pos) (trE Y (eB mSub f g)) := r_bin op_sub (o2_I0 fun _ _ _ => .int _) ha hb
theorem r_mul (ha : PE X a (trE Y f)) (hb : PE X b (trE Y g)) : PE X (.BinOp a .Mult b pos) (trE Y (eB mMul f g)) := r_bin op_mul (o2_I (fun i j h => show (-(2 ^ 64) < i ∧ i < 2 ^ 64) ∨ (-(2 ^ 64) < j ∧ j < 2 ^ 64) from of_decide_eq_true h) fun _ _ _ => .int _) ha hb
theorem r_fdiv (ha : PE X a (trE Y f)) (hb : PE X b (trE Y g)) : PE X (.BinOp a .FloorDiv b pos) (trE Y (eB mFdiv f g)) := r_bin op_fdiv (o2_I (fun i j h => show 0 < j ∧ j < 1073741824 from of_decide_eq_true h) fun _ _ _ => .int _) ha hb
theorem r_mod (ha : PE X a (trE Y f)) (hb : PE X b (trE Y g)) : PE X (.BinOp a .Mod b pos) (trE Y (eB mMod f g)) := r_bin op_mod (o2_I (fun i j h => show 0 < j from of_decide_eq_true h) fun _ _ _ => .int _) ha hb
theorem r_pow (ha : PE X a (trE Y f)) (hb : PE X b (trE Y g)) : PE X (.BinOp a .Pow b pos) (trE Y (eB mPow f g)) := r_bin op_pow (o2_I (fun i j h => show 0 ≤ j ∧ j ≤ 1000000 ∧ i.natAbs < 2 ^ 64 from of_decide_eq_true h) fun _ _ _ => .int _) ha hb
theorem _root_.L2.Room.u64 {k : Nat} {A : Around} (r : Room k A) : A.units + 64 < cLine := by have := r.un; omega
theorem _root_.L2.Room.u1 {k : Nat} {A : Around} (r : Room k A) : A.units + 1 < cLine := by have := r.un; omega
theorem rs_doc {x j pos pos'} : PS X (.Expr (.Constant (.str x) j pos) pos') (trS Y sNil) := PS.imp ps_doc fun D σ H q => by
  obtain ⟨g, sd, own, R, S, q⟩ := q
  obtain ⟨r, e, k⟩ := q
  cases e
  exact k g σ H R S .rfl'
end

/-! ## own classes: isinstance, ==, len -/
/-- an own class whose instances may be asked for their class -/
structure Oc (K : PySem.W.Frag) (C : Addr) : Prop where
  cl : Cls K C
  ha : PySem.W.findIn K (.ref C) "__class__" = some (some (.builtin "object.__class__"))
  hn : PySem.W.specialIn K (.builtin "object.__class__") "__get__" = some (some (.builtin "getset_descriptor.__get__"))
  ht : PySem.W.takesIn K (.builtin "object.__class__") = some true
  hm : PySem.W.mroIn K C (.type "object") = some true
/-- the own classes L, one among the others and among the built-in ones -/
structure OwnF (T : Tb) (L : List Nat) : Prop where
  oc : ∀ c ∈ L, Oc T.K (T.ct c)
  own : ∀ c ∈ L, ∀ c2 ∈ L, PySem.W.kitOne T.K (.ref (T.ct c)) (.ref (T.ct c2)) = some (c == c2)
  base : ∀ k < 7, ∀ c ∈ L, PySem.W.kitOne T.K (.type (tyName k)) (.ref (T.ct c)) = some false
  none_ : ∀ k < 7, ∀ c ∈ L, PySem.W.kitOne T.K (.ref (T.ct c)) (.type (tyName k)) = some false
  first : ∀ k < 7, ∀ c ∈ L, PySem.W.notFirst T.K (T.ct c) (.type (tyName k)) = true
  firstO : ∀ c ∈ L, ∀ c2 ∈ L, PySem.W.notFirst T.K (T.ct c) (.ref (T.ct c2)) = true
/-- a value's type: by the base, or its own class -/
def tyO (L : List Nat) (own : Own) (x : SV) : Option (Nat ⊕ Nat) := match x with
  | .d (.obj c _) => if c ∈ L then some (.inr c) else none
  | x => (datV own x).bind fun d => (tyOf d).map .inl
def tyV (T : Tb) : Nat ⊕ Nat → Value
  | .inl k => .type (tyName k)
  | .inr c => .ref (T.ct c)
/-- isinstance(x, c), own classes too -/
def mIsiO (L : List Nat) : Own → SV → SV → Option D := fun own x c => match c with
  | .d (.ty k) => if k < 7 then (tyO L own x).map fun t => .bl (match t with
    | .inl t => isTy t k
    | .inr _ => false) else none
  | .d (.cls c) => if c ∈ L then (tyO L own x).map fun t => .bl (match t with
    | .inl _ => false
    | .inr c1 => c1 == c) else none
  | _ => none
section
variable {T : Tb} {L : List Nat} {B : Hp} {g : Gh} {own : Own} {H : Hp}
theorem tyO_of (O : OwnF T L) (R : HRel T B g own H) {x : SV} {v : V} {t : Nat ⊕ Nat} (r : RS T g own.length x v) (e : tyO L own x = some t) : TyX T.K H v (tyV T t) ∧ (∀ k, t = .inl k → k < 7) ∧ (∀ c, t = .inr c → c ∈ L) := by
  have base : ((datV own x).bind fun d => (tyOf d).map .inl) = some t → TyX T.K H v (tyV T t) ∧ (∀ k, t = .inl k → k < 7) ∧ (∀ c, t = .inr c → c ∈ L) := fun e => by
    obtain ⟨d, e1, e⟩ := Option.bind_eq_some_iff.mp e
    obtain ⟨k, e2, e3⟩ := Option.map_eq_some_iff.mp e
    subst e3
    exact ⟨tyX_of R r e1 e2, fun k' z => by cases z; exact tyOf_lt e2, fun c z => by cases z⟩
  cases x with
  | h k => exact base e
  | d x =>
    cases x with
    | obj c vs =>
      have e : (if c ∈ L then some (.inr c) else none) = some t := e
      by_cases hc : c ∈ L
      · rw [if_pos hc] at e
        cases e
        have r : Rep T g.F (.obj c vs) v := r
        cases r with
        | obj h1 h2 h3 =>
          have o := O.oc c hc
          exact ⟨.base (.ins (R.f _ _ h1) o.cl o.ha o.hn o.ht o.hm), ⟨fun k z => (by cases z), fun c' z => (by cases z; exact hc)⟩⟩
      · rw [if_neg hc] at e; cases e
    | _ => exact base e
theorem ob_isiO {Y : Cy} (O : OwnF Y.T L) : OB Y (rIsi Y.T.K) (m2 (mIsiO L)) := by
  refine ob_2 (r := fun v w H Q => rIsi Y.T.K [v, w] H Q) (fun gh own H x c v w z Q R rx rc h k => ?_) fun _ _ _ _ h => h
  match c, rc, h with
  | .d (.ty kk), rc, h =>
    have h : (if kk < 7 then (tyO L own x).map fun t => D.bl (match t with | .inl t => isTy t kk | .inr _ => false) else none) = some z := h
    by_cases c : kk < 7
    · rw [if_pos c] at h
      obtain ⟨t, e1, e2⟩ := Option.map_eq_some_iff.mp h
      subst e2
      obtain ⟨ty, l1, l2⟩ := tyO_of O R rx e1
      have rc : Rep Y.T gh.F (.ty kk) w := rc
      cases rc
      cases t with
      | inl t => exact ⟨v, _, _, _, isTy t kk, rfl, .ty _, ty, kit_ty (kit_tys t kk (l1 t rfl) c), k gh _ H R .rfl' (.bl _)⟩
      | inr c1 => exact ⟨v, _, _, _, false, rfl, .ty _, ty, O.none_ kk c c1 (l2 c1 rfl), k gh _ H R .rfl' (.bl _)⟩
    · rw [if_neg c] at h; cases h
  | .d (.cls c2), rc, h =>
    have h : (if c2 ∈ L then (tyO L own x).map fun t => D.bl (match t with | .inl _ => false | .inr c1 => c1 == c2) else none) = some z := h
    by_cases c : c2 ∈ L
    · rw [if_pos c] at h
      obtain ⟨t, e1, e2⟩ := Option.map_eq_some_iff.mp h
      subst e2
      obtain ⟨ty, l1, l2⟩ := tyO_of O R rx e1
      have rc : Rep Y.T gh.F (.cls c2) w := rc
      cases rc
      cases t with
      | inl t => exact ⟨v, _, _, _, false, rfl, .own _, ty, O.base t (l1 t rfl) c2 c, k gh _ H R .rfl' (.bl _)⟩
      | inr c1 => exact ⟨v, _, _, _, c1 == c2, rfl, .own _, ty, O.own c1 (l2 c1 rfl) c2 c, k gh _ H R .rfl' (.bl _)⟩
    · rw [if_neg c] at h; cases h
end

/-- a method of the class c by its special name -/
structure Spec (P : Program) (w : World) (K : PySem.W.Frag) (mg : Str → Option Value) (base : Heap) (T : Tb) (k c n : Nat) (nm : Str) (Ff : FM) : Prop where
  ex : ∃ (f : Addr) (fd : FuncData) (ps : List Str), PySem.W.findIn K (.ref (T.ct c)) nm = some (some (.ref f)) ∧ PySem.W.isFn K (.ref f) = true ∧ Binds K fd ps [] ∧ FnOk P w K mg base (L2.CX P w) k f fd ps (spF T n Ff)
/-- a callee that raises nothing, on data alone: its value -/
def callV0 (Ff : FM) (xs : List SV) : Option D := match dats xs with
  | none => none
  | some _ => match Ff xs [] with
    | some (.ok s, own') => resD own' s
    | _ => none
theorem call_V0 {T : Tb} {B : Hp} {Ff : FM} {n : Nat} {g1 : Gh} {own : Own} {H : Hp} {Q : VK} {E : XK} {xs : List SV} {vs : List V} {z : D} (R : HRel T B g1 own H) (rs : RSs T g1 own.length xs vs) (hl : xs.length = n) (e : callV0 Ff xs = some z)
    (k : ∀ g' u H', HRel T B g' own H' → GExt B g1 own.length g' own.length → Rep T g'.F z u → Q u H') : spF T n Ff vs H Q E := by
  unfold callV0 at e
  cases ed : dats xs with
  | none => rw [ed] at e; cases e
  | some ds =>
    rw [ed] at e
    cases ef : Ff xs [] with
    | none => simp only [ef] at e; cases e
    | some p =>
      obtain ⟨rf, of⟩ := p
      simp only [ef] at e
      cases rf with
      | ex c fs => simp only at e; cases e
      | ok s =>
        have er : resD of s = some z := e
        refine ⟨H, ⟨g1.F, g1.ρ⟩, [], xs, hrel_fresh R.f, dats_rss Le.rfl' xs vs ds ed rs, hl, .ok s, of, ef, fun g' v H' R' e' rv => ?_⟩
        cases s with
        | d y =>
          cases er
          obtain ⟨R2, e2⟩ := R.after R'.b e'.F R'.f e'.fb
          exact k _ v H' R2 e2 rv
        | h kk =>
          obtain ⟨o, eo, ez⟩ := Option.bind_eq_some_iff.mp er
          obtain ⟨ho, eh, rz⟩ := frz_rel R' eo ez
          obtain ⟨R3, e3⟩ := R'.freeze eo (frzO_live ez) eh
          have e4 := e'.trans e3
          obtain ⟨R2, e2⟩ := R.after (F' := L2.upd g'.F (g'.ρ kk) ho) R'.b e4.F R3.f e4.fb
          have hv := rv.2
          subst hv
          exact k _ _ H' R2 e2 rz
/-- len(x): x a list, a tuple, .., or an instance with its own __len__ -/
def mLenO (FL : Nat → Option FM) : Own → SV → Option D := fun own x => match x with
  | .d (.obj c _) => (FL c).bind fun Ff => match callV0 Ff [x] with
    | some (.int n) => if 0 ≤ n ∧ n < 2 ^ 63 then some (.int n) else none
    | _ => none
  | x => mLen own x
abbrev rLenO (X : Cx) (T : Tb) (k : Nat) (FL : Nat → Option FM) : List V → Hp → VK → Prop := fun xs H Q => ∃ (c : Nat) (Ff : FM) (a dx : Addr) (fs : List (Str × V)), FL c = some Ff ∧ xs = [.ref a] ∧ H a = some (.ins (T.ct c) dx fs) ∧ Spec X.prog X.w X.K X.mg X.base T k c 1 "__len__" Ff ∧
  spF T 1 Ff [.ref a] H (fun v H' => ∃ n, v = .int n ∧ 0 ≤ n ∧ n < 2 ^ 63 ∧ Q (.int n) H') (fun _ _ _ => False)
theorem call_lenO {X : Cx} {T : Tb} {k : Nat} {FL : Nat → Option FM} (hr : Room (k + 1) X.A) : CallR X (.builtin "len") (rLenO X T k FL) := by
  intro pins s σ H xs us Q I r h
  obtain ⟨c, Ff, a, dx, fs, _, rfl, ha, ⟨f, fd, ps, hs, hf, hb, F⟩, q⟩ := h
  obtain ⟨u, rfl, ru⟩ := vals1 r
  obtain rfl : u = Value.ref a := ru
  obtain ⟨mA, J, _⟩ := ins_get I.hok ha
  obtain ⟨od, J, _⟩ := J.look
  obtain ⟨m, hF⟩ := I.fr
  refine PySem.W.len_K hF I.ok.mod.kin J hs hf ?_
  have hl := F.len _ _ _ _ q
  have bnd := hb s [.ref a] I.kIn (by simpa using hl)
  rw [List.append_nil] at bnd
  refine wpAny_call (codeAny_mono (F.run X.A.in1 X.stack s H ⟨[.ref a], []⟩ [.ref a] [.ref a] _ _ hr.in1 I.env0.in1 bnd (.cons rfl .nil) q) fun r s' hq => ?_)
  match r, hq with
  | .error e, hq => exact passL pins σ H s e s' I hq
  | .ok (.ret w), hq =>
    obtain ⟨z, H', I', rz, n, ez, n0, n1, q2⟩ := I.after hq
    subst ez
    obtain ⟨t, rfl⟩ := rz
    exact ⟨⟨n0, n1⟩, .int n, H', I'.tok _, ⟨_, rfl⟩, q2⟩
  | .ok .next, hq => exact (show False from hq).elim
  | .ok .brk, hq => exact (show False from hq).elim
  | .ok .cont, hq => exact (show False from hq).elim

/-! ### == -/
def mEqO (L : List Nat) (FE : Nat → Option FM) (neg : Bool) : Own → SV → SV → Option D := fun own x y => match x with
  | .d (.obj c _) => if c ∈ L then (match neg with
    | false => (FE c).bind fun Ff => (tyO L own y).bind fun _ => match callV0 Ff [x, y] with
      | some (.bl b) => some (.bl b)
      | _ => none
    | true => none) else none
  | x => match neg with
    | false => mEq own x y
    | true => mNe own x y
abbrev rEqO (X : Cx) (T : Tb) (k : Nat) (FE : Nat → Option FM) : R2 := fun x y H Q => ∃ (c : Nat) (Ff : FM) (a dx : Addr) (fs : List (Str × V)) (t : Value), FE c = some Ff ∧ x = .ref a ∧ H a = some (.ins (T.ct c) dx fs) ∧ Spec X.prog X.w X.K X.mg X.base T k c 2 "__eq__" Ff ∧ TyX X.K H y t ∧ PySem.W.notFirst X.K (T.ct c) t = true ∧
  spF T 2 Ff [.ref a, y] H (fun v H' => ∃ b, v = .bl b ∧ Q (.bl b) H') (fun _ _ _ => False)
theorem op_eqO {X : Cx} {T : Tb} {k : Nat} {FE : Nat → Option FM} (hr : Room (k + 1) X.A) : OpR X (compareOp .Eq) (rEqO X T k FE) := by
  intro pins s σ H x y v u Q I rx ry h
  obtain ⟨c, Ff, a, dx, fs, t, _, rfl, ha, ⟨f, fd, ps, hs, hf, hb, F⟩, ty, nf, q⟩ := h
  obtain rfl : v = Value.ref a := rx
  show wpAny (model X.prog X.w) X.A (richCompare .Eq (.ref a) u) (EP X pins σ Q) X.xe s
  obtain ⟨mA, J, _⟩ := ins_get I.hok ha
  obtain ⟨od, J, _⟩ := J.look
  obtain ⟨m, hF⟩ := I.fr
  obtain ⟨Pk, Z, pk, _⟩ := kit_of I ry ty
  refine PySem.W.cmp_K (op := .Eq) (tb := t) hr.units0 hF I.ok.mod.kin J (Z.ty _ _ I.kIn pk) nf hs hf ?_
  have hl := F.len _ _ _ _ q
  have bnd := hb s [.ref a, u] I.kIn (by simpa using hl)
  rw [List.append_nil] at bnd
  refine wpAny_call (codeAny_mono (F.run X.A X.stack s H ⟨[.ref a, u], []⟩ [.ref a, u] [.ref a, y] _ _ (hr.mono (Nat.le_succ k)) I.env0 bnd (.cons rfl (.cons ry .nil)) q) fun r s' hq => ?_)
  match r, hq with
  | .error e, hq => exact passL pins σ H s e s' I hq
  | .ok (.ret w), hq =>
    obtain ⟨z, H', I', rz, b, ez, q2⟩ := I.after hq
    subst ez
    obtain rfl : w = Value.bool b := rz
    exact ⟨.bl b, H', I', rfl, q2⟩
  | .ok .next, hq => exact (show False from hq).elim
  | .ok .brk, hq => exact (show False from hq).elim
  | .ok .cont, hq => exact (show False from hq).elim
/-- the classes' own == and len, as the text has them -/
structure OwnM (P : Program) (w : World) (K : PySem.W.Frag) (mg : Str → Option Value) (base : Heap) (T : Tb) (k : Nat) (L : List Nat) (FE FL : Nat → Option FM) : Prop where
  o : OwnF T L
  hK : K = T.K
  eq : ∀ c Ff, FE c = some Ff → Spec P w K mg base T k c 2 "__eq__" Ff
  len : ∀ c Ff, FL c = some Ff → Spec P w K mg base T k c 1 "__len__" Ff
section
variable {X : Cx} {Y : Cy} {k j : Nat} {L : List Nat} {FE FL : Nat → Option FM}
theorem o2_eqO (O : OwnM X.prog X.w X.K X.mg X.base Y.T k L FE FL) : O2 Y (fun x y H Q => rEqD Y.T.K x y H Q ∨ rEqO X Y.T k FE x y H Q) (mEqO L FE false) := by
  intro gh own H x y v w z Q R rx ry h kk
  match x, rx, h with
  | .d (.obj c vs), rx, h =>
    have h : (if c ∈ L then (FE c).bind fun Ff => (tyO L own y).bind fun _ => match callV0 Ff [.d (.obj c vs), y] with | some (.bl b) => some (.bl b) | _ => none else none) = some z := h
    by_cases hc : c ∈ L
    · rw [if_pos hc] at h
      obtain ⟨Ff, e1, h⟩ := Option.bind_eq_some_iff.mp h
      obtain ⟨t, e2, h⟩ := Option.bind_eq_some_iff.mp h
      obtain ⟨ty, l1, l2⟩ := tyO_of O.o R ry e2
      cases e3 : callV0 Ff [.d (.obj c vs), y] with
      | none => rw [e3] at h; cases h
      | some d =>
        rw [e3] at h
        cases d with
        | bl b =>
          cases h
          have rx' : Rep Y.T gh.F (.obj c vs) v := rx
          have q := call_V0 (n := 2) (E := fun _ _ _ => False) (Q := fun v H' => ∃ b, v = .bl b ∧ Q (.bl b) H') R (.cons rx (.cons ry .nil)) rfl e3 fun g' u H' R' e' ru => by
            cases ru
            exact ⟨b, rfl, kk g' _ H' R' e' (.bl _)⟩
          cases rx' with
          | obj h1 h2 h3 =>
            refine .inr ⟨c, Ff, _, _, _, _, e1, rfl, R.f _ _ h1, O.eq c Ff e1, by rw [O.hK]; exact ty, ?_, q⟩
            rw [O.hK]
            cases t with
            | inl t => exact O.o.first t (l1 t rfl) c hc
            | inr c2 => exact O.o.firstO c hc c2 (l2 c2 rfl)
        | _ => cases h
    · rw [if_neg hc] at h; cases h
  | .h _, rx, h => exact .inl (o2_eq gh own H _ y v w z Q R rx ry h kk)
  | .d .non, rx, h => exact .inl (o2_eq gh own H _ y v w z Q R rx ry h kk)
  | .d (.bl _), rx, h => exact .inl (o2_eq gh own H _ y v w z Q R rx ry h kk)
  | .d (.int _), rx, h => exact .inl (o2_eq gh own H _ y v w z Q R rx ry h kk)
  | .d (.str _), rx, h => exact .inl (o2_eq gh own H _ y v w z Q R rx ry h kk)
  | .d (.ty _), rx, h => exact .inl (o2_eq gh own H _ y v w z Q R rx ry h kk)
  | .d (.cls _), rx, h => exact .inl (o2_eq gh own H _ y v w z Q R rx ry h kk)
  | .d (.tup _), rx, h => exact .inl (o2_eq gh own H _ y v w z Q R rx ry h kk)
  | .d (.lst _), rx, h => exact .inl (o2_eq gh own H _ y v w z Q R rx ry h kk)
  | .d (.dic _ _), rx, h => exact .inl (o2_eq gh own H _ y v w z Q R rx ry h kk)
theorem op_eqOA (hr : Room j X.A) (hj : k + 1 ≤ j) (hK : X.K = Y.T.K := by rfl) : OpR X (compareOp .Eq) (fun x y H Q => rEqD Y.T.K x y H Q ∨ rEqO X Y.T k FE x y H Q) := by
  rw [← hK]
  exact (op_eqD hr.u64).or (op_eqO (hr.mono hj))
theorem ob_lenO (O : OwnM X.prog X.w X.K X.mg X.base Y.T k L FE FL) {rr : List V → Hp → VK → Prop} (hA : OB Y rr (m1 mLen)) : OB Y (fun xs H Q => rr xs H Q ∨ rLenO X Y.T k FL xs H Q) (m1 (mLenO FL)) := by
  intro gh own H xs vs z Q R rs h kk
  match xs, rs, h with
  | [x], rs, h =>
    have old : m1 mLen own [x] = some z → _ := fun h => Or.inl (b := rLenO X Y.T k FL vs H Q) (hA gh own H [x] vs z Q R rs h kk)
    match x, rs, h with
    | .d (.obj c ys), rs, h =>
      obtain ⟨d, hd, e0⟩ := Option.map_eq_some_iff.mp (show (mLenO FL own (.d (.obj c ys))).map SV.d = some z from h)
      subst e0
      clear h old
      have h : ((FL c).bind fun Ff => match callV0 Ff [.d (.obj c ys)] with | some (.int n) => if 0 ≤ n ∧ n < 2 ^ 63 then some (D.int n) else none | _ => none) = some d := hd
      obtain ⟨Ff, e1, h⟩ := Option.bind_eq_some_iff.mp h
      cases e3 : callV0 Ff [.d (.obj c ys)] with
      | none => rw [e3] at h; cases h
      | some d2 =>
        rw [e3] at h
        cases d2 with
        | int n =>
          have h : (if 0 ≤ n ∧ n < 2 ^ 63 then some (D.int n) else none) = some d := h
          by_cases hn : 0 ≤ n ∧ n < 2 ^ 63
          · rw [if_pos hn] at h
            cases h
            have q := call_V0 (n := 1) (E := fun _ _ _ => False) (Q := fun v H' => ∃ n, v = .int n ∧ 0 ≤ n ∧ n < 2 ^ 63 ∧ Q (.int n) H') R rs rfl e3 fun g' u H' R' e' ru => by
              cases ru
              exact ⟨n, rfl, hn.1, hn.2, kk g' _ H' R' e' (Rep.int _)⟩
            obtain ⟨v, rfl, rx⟩ := rss1 rs
            have rx' : Rep Y.T gh.F (.obj c ys) v := rx
            cases rx' with
            | obj h1 h2 h3 => exact .inr ⟨c, Ff, _, _, _, e1, rfl, R.f _ _ h1, O.len c Ff e1, q⟩
          · rw [if_neg hn] at h; cases h
        | _ => cases h
    | .h _, rs, h => exact old h
    | .d .non, rs, h => exact old h
    | .d (.bl _), rs, h => exact old h
    | .d (.int _), rs, h => exact old h
    | .d (.str _), rs, h => exact old h
    | .d (.ty _), rs, h => exact old h
    | .d (.cls _), rs, h => exact old h
    | .d (.tup _), rs, h => exact old h
    | .d (.lst _), rs, h => exact old h
    | .d (.dic _ _), rs, h => exact old h
theorem call_lenOA (hr : Room j X.A) (hj : k + 1 ≤ j) {rr : List V → Hp → VK → Prop} (h : CallR X (.builtin "len") rr) : CallR X (.builtin "len") (fun xs H Q => rr xs H Q ∨ rLenO X Y.T k FL xs H Q) := h.or (call_lenO (hr.mono hj))
end

/-! ### properties -/
def eProp (c : Nat) (Ff : FM) (f : EM) : EM := f.bind fun x => M.ask fun _ => match x with
  | .d (.obj c' _) => if c' = c then (callV0 Ff [x]).map SV.d else none
  | _ => none
/-- a property of the class c -/
structure Prp (P : Program) (w : World) (K : PySem.W.Frag) (mg : Str → Option Value) (base : Heap) (T : Tb) (k c : Nat) (nm : Str) (Ff : FM) : Prop where
  cl : Cls K (T.ct c)
  ex : ∃ (p f : Addr) (fd : FuncData) (ps : List Str), PropOf K (T.ct c) nm p f ∧ Binds K fd ps [] ∧ FnOk P w K mg base (L2.CX P w) k f fd ps (spF T 1 Ff)
section
variable {X : Cx} {Y : Cy} {k j c : Nat} {nm : Str} {Ff : FM} {e : Expr} {pos : Pos} {f : EM}
theorem r_prop (pr : Prp X.prog X.w X.K X.mg X.base Y.T k c nm Ff) (hr : Room j X.A) (hj : k + 1 ≤ j) (he : PE X e (trE Y f)) (hab : attributeBase e nm X.env (eval e X.env) = eval e X.env := by rfl) : PE X (.Attribute e nm pos) (trE Y (eProp c Ff f)) := by
  obtain ⟨p, fa, fd, ps, hp, hb, F⟩ := pr.ex
  refine PE.imp (pe_prop (E := fun _ _ _ => False) he pr.cl hp F (hr.mono hj) hb .nil passL hab) fun σ H Q q => ?_
  obtain ⟨gh, sd, own, R, S, q⟩ := q
  refine at_bind R S q fun g1 o1 x v H1 R1 S1 e1 rx q1 => ?_
  obtain ⟨s, es, kq⟩ := at_ask q1
  match x, rx, es with
  | .d (.obj c' ys), rx, es =>
    have es2 : (if c' = c then (callV0 Ff [.d (.obj c' ys)]).map SV.d else none) = some s := es
    clear es
    by_cases hc : c' = c
    · rw [if_pos hc] at es2
      subst hc
      obtain ⟨z, e3, e4⟩ := Option.map_eq_some_iff.mp es2
      subst e4
      have q := call_V0 (n := 1) (E := fun _ _ _ => False) (Q := Q) R1 (.cons rx .nil) rfl e3 fun g' u H' R' e' ru => kq g' u H' R' e' ru
      have rx' : Rep Y.T g1.F (.obj c' ys) v := rx
      cases rx' with
      | obj h1 h2 h3 => exact ⟨_, _, _, rfl, R1.f _ _ h1, q⟩
    · rw [if_neg hc] at es2; cases es2
end
end Gx
end T_GxN2
section T_GxN3
set_option Elab.async false
set_option linter.all false
set_option maxRecDepth 100000
set_option maxHeartbeats 4000000
namespace Gx
open PySem PySem.Spec PyProof.Rows L2

/-! ## a list of one's own, walked as it stands at each turn -/
def forH (k : Nat) (tg : GM) (body : SM) : Nat → Nat → SM
  | 0, _ => sNo
  | n + 1, i => fun sd own => match own[k]? with
    | some (.lst ys) => (match ys[i]? with
      | none => some (.nx sd own)
      | some x => (match tg x sd with
        | none => none
        | some sd1 => (match body sd1 own with
          | some (.nx sd2 own2) => forH k tg body n (i + 1) sd2 own2
          | some (.ct sd2 own2) => forH k tg body n (i + 1) sd2 own2
          | some (.bk sd2 own2) => some (.nx sd2 own2)
          | r => r)))
    | _ => none
def sForH (n : Nat) (f : EM) (tg : GM) (body : SM) : SM := SM.bind f fun x => match x with
  | .h k => forH k tg body n 0
  | .d _ => sNo
theorem at_own {T : Tb} {B : Hp} {g : Gh} {own : Own} {H : Hp} {k : Nat} {ys : List D} (R : HRel T B g own H) (e : own[k]? = some (.lst ys)) : ∃ vs, H (g.ρ k) = some (.lst vs) ∧ Reps T g.F ys vs := R.o k _ e
theorem rs_forH {X : Cx} {Y : Cy} {t iter : Expr} {body : List Stmt} {pos : Pos} {f : EM} {tg : GM} {gg : TG} {is : List Nat} {p : SM} (n : Nat) (hp : PassesOwn (model X.prog X.w) X.A X.env X.xe) (hi : PE X iter (trE Y f)) (hg : PG X t gg) (og : OG Y.T gg tg is) (hb : PSs X body (trS Y p)) (hc : X.calm = true := by rfl)
    (hs : ∀ x, foldedSetIterable iter X.env x = pure x := by intro _; rfl) : PS X (.For t iter body [] pos) (trS Y (sForH n f tg p)) := PS.imp (ps_for hp hc (pi_list hi) hg hb hs) fun Dn σ H q => by
  obtain ⟨gh, sd, own, R, S, q⟩ := q
  refine s_bind R S q fun g1 o1 x v H1 R1 S1 e1 rx q1 => ?_
  match x, rx, q1 with
  | .d d, rx, q1 => obtain ⟨r, e, _⟩ := q1; cases e
  | .h k, rx, q1 =>
    obtain ⟨hk, rfl⟩ := rx
    have first : ∃ ys, o1[k]? = some (.lst ys) := by
      obtain ⟨r, e, _⟩ := q1
      cases n with
      | zero => cases e
      | succ n =>
        have e : forH k tg p (n + 1) 0 sd o1 = some r := e
        unfold forH at e
        cases eo : o1[k]? with
        | none => rw [eo] at e; cases e
        | some o =>
          cases o with
          | lst ys => exact ⟨ys, rfl⟩
          | _ => rw [eo] at e; cases e
    obtain ⟨ys, eo⟩ := first
    obtain ⟨vs0, hv0, _⟩ := at_own R1 eo
    refine ⟨g1.ρ k, rfl, ⟨vs0, SqL.of hv0⟩, fun i m σ H => ∃ g2 sd2 o2, HRel Y.T Y.B g2 o2 H ∧ SRel Y.T g2 o2.length sd2 σ ∧ g2.ρ k = g1.ρ k ∧ k < o2.length ∧ SAt Y g2 sd2 o2 Dn (forH k tg p m i), ⟨n, g1, sd, o1, R1, S1, rfl, hk, q1⟩, ?_⟩
    rintro i m σ2 H2 ⟨g2, sd2, o2, R2, S2, l2, hk2, r, er, kk⟩
    cases m with
    | zero => cases er
    | succ m =>
      unfold forH at er
      cases eo : o2[k]? with
      | none => rw [eo] at er; cases er
      | some o =>
        cases o with
        | dead => rw [eo] at er; cases er
        | dic _ _ => rw [eo] at er; cases er
        | ins _ _ => rw [eo] at er; cases er
        | lst ys =>
          simp only [eo] at er
          obtain ⟨vs, hv, rv⟩ := at_own R2 eo
          rw [l2] at hv
          cases ey : ys[i]? with
          | none =>
            simp only [ey] at er
            cases er
            refine .inl ⟨⟨vs, SqL.of hv, ?_⟩, kk g2 σ2 H2 R2 S2 .rfl'⟩
            rw [← rv.length]
            exact List.getElem?_eq_none_iff.mp ey
          | some d =>
            simp only [ey] at er
            obtain ⟨w, hw, rw'⟩ := rv.get ey
            refine .inr ⟨⟨vs, w, SqL.of hv, hw⟩, fun σ' H' => ∃ g2 sd2 o2, HRel Y.T Y.B g2 o2 H' ∧ SRel Y.T g2 o2.length sd2 σ' ∧ g2.ρ k = g1.ρ k ∧ k < o2.length ∧ SAt Y g2 sd2 o2 Dn (forH k tg p m (i + 1)),
              fun σ' H' z => ⟨m, Nat.lt_succ_self m, z⟩, fun x H' y => ?_⟩
            obtain ⟨y1, y2⟩ := y
            subst y1
            have hx := y2 vs (SqL.of hv)
            rw [hw] at hx
            cases hx
            cases et : tg d sd2 with
            | none => simp only [et] at er; cases er
            | some sd3 =>
              simp only [et] at er
              refine og _ g2 o2 _ d w sd2 sd3 σ2 _ R2 rw' S2 et fun σ3 S4 _ => ?_
              cases eb : p sd3 o2 with
              | none => simp only [eb] at er; cases er
              | some rb =>
                simp only [eb] at er
                refine ⟨g2, sd3, o2, R2, S4, rb, eb, ?_⟩
                cases rb with
                | nx sd5 o5 => exact fun g5 σ5 H5 R5 S5 e5 => ⟨g5, sd5, o5, R5, S5, (e5.ρ k hk2).trans l2, Nat.lt_of_lt_of_le hk2 e5.le, r, er, kk.shift e5⟩
                | ct sd5 o5 => exact fun g5 σ5 H5 R5 S5 e5 => ⟨g5, sd5, o5, R5, S5, (e5.ρ k hk2).trans l2, Nat.lt_of_lt_of_le hk2 e5.le, r, er, kk.shift e5⟩
                | bk sd5 o5 => cases er; exact kk
                | rt s o5 => cases er; exact kk
                | ex cc fs sd5 o5 => cases er; exact kk
/-! ### .. in a comprehension -/
def lcH (k : Nat) (tg : GM) (t : TM) (f : EM) (sd0 : Sl) : Nat → Nat → Own → Option (List D × Own)
  | 0, _, _ => none
  | n + 1, i, own => match own[k]? with
    | some (.lst ys) => (match ys[i]? with
      | none => some ([], own)
      | some x => (match tg x sd0 with
        | none => none
        | some sd1 => (match t sd1 own with
          | some (.ok true, o1) => (match f sd1 o1 with
            | some (.ok (.d d), o2) => (match lcH k tg t f sd0 n (i + 1) o2 with
              | some (ds, o3) => some (d :: ds, o3)
              | none => none)
            | _ => none)
          | some (.ok false, o1) => lcH k tg t f sd0 n (i + 1) o1
          | _ => none)))
    | _ => none
def eLCH (n : Nat) (src : EM) (vs : List Nat) (tg : GM) (t : TM) (f : EM) : EM := src.bind fun x => match x with
  | .h k => fun sd own => (match lcH k tg t f (wipeD sd vs) n 0 own with
    | some (ds, o) => if ds.length < sizeLine then some (.ok (.d (.lst ds)), o) else none
    | none => none)
  | .d _ => M.fail
section
variable {X : Cx} {Y : Cy} {tgx iter elt : Expr} {ifs : List Expr} {scope : Scope} {own : List (Str × Nat)} {pos : Pos} {src : EM} {tg : GM} {gg : TG} {is : List Nat} {t : TM} {f : EM}
theorem guard_none {B : Hp} {g g' : Gh} {n n' : Nat} {p : Addr} {u : HO} (e : GExt (upd B p u) g n g' n') (h : g.F p = none) : g'.F p = none := by
  cases q : g'.F p with
  | none => rfl
  | some w =>
    rcases e.fb _ _ q with z | z
    · rw [h] at z; cases z
    · rw [upd_same] at z; cases z
theorem lcH_at (n : Nat) (og : OG Y.T gg tg is) (hv : ∀ i ∈ is, i ∈ own.map (·.2)) {σ : L2.St} {H : Hp} {Q : VK} (q : trE Y (eLCH n src (own.map (·.2)) tg t f) σ H Q) : tLc (iList Y.T.K (trE Y src)) gg (anyT Y.T t) (anyB Y.T f) (own.map (·.2)) σ H Q := by
  obtain ⟨gh, sd, own0, R, S, q⟩ := q
  refine at_bind R S q fun g1 o1 x v H1 R1 S1 e1 rx q1 => ?_
  match x, rx, q1 with
  | .d d, rx, q1 => exact (at_fail q1).elim
  | .h k, rx, q1 =>
    obtain ⟨hk, rfl⟩ := rx
    obtain ⟨r, own', e, kq⟩ := q1
    cases el : lcH k tg t f (wipeD sd (own.map (·.2))) n 0 o1 with
    | none => simp only [el] at e; cases e
    | some p =>
      obtain ⟨ds, oF⟩ := p
      simp only [el] at e
      by_cases hz : ds.length < sizeLine
      case neg => rw [if_neg hz] at e; cases e
      rw [if_pos hz] at e
      cases e
      have first : ∃ ys, o1[k]? = some (.lst ys) := by
        cases n with
        | zero => cases el
        | succ n =>
          unfold lcH at el
          cases eo : o1[k]? with
          | none => rw [eo] at el; cases el
          | some o =>
            cases o with
            | lst ys => exact ⟨ys, rfl⟩
            | _ => rw [eo] at el; cases el
      obtain ⟨ys, eo⟩ := first
      obtain ⟨vs0, hv0, _⟩ := at_own R1 eo
      refine ⟨g1.ρ k, rfl, ⟨vs0, SqL.of hv0⟩, fun Dn hD => ?_⟩
      obtain ⟨hB, hF⟩ := R1.free hD
      refine ⟨fun i m H => ∃ (acc : List D) (accV : List V) (rest : List D) (g2 : Gh) (o2 : Own), HRel Y.T (upd Y.B Dn (.lst accV)) g2 o2 H ∧ g2.F Dn = none ∧ Reps Y.T g2.F acc accV ∧
        GExt Y.B g1 o1.length g2 o2.length ∧ lcH k tg t f (wipeD sd (own.map (·.2))) m i o2 = some (rest, own') ∧ acc ++ rest = ds,
        ⟨n, [], [], ds, g1, o1, R1.guard hD, hF, .nil, .rfl', el, rfl⟩, ?_⟩
      rintro i m H2 ⟨acc, accV, rest, g2, o2, R2, F2, r2, e2, l2, ea⟩
      cases m with
      | zero => cases l2
      | succ m =>
        unfold lcH at l2
        cases eo : o2[k]? with
        | none => rw [eo] at l2; cases l2
        | some o =>
          cases o with
          | dead => rw [eo] at l2; cases l2
          | dic _ _ => rw [eo] at l2; cases l2
          | ins _ _ => rw [eo] at l2; cases l2
          | lst ys =>
            simp only [eo] at l2
            obtain ⟨vs, hvs, rv⟩ := at_own R2 eo
            rw [e2.ρ k hk] at hvs
            cases ey : ys[i]? with
            | none =>
              simp only [ey] at l2
              cases l2
              rw [List.append_nil] at ea
              subst ea
              obtain ⟨R3, e3⟩ := R2.unguard F2 hB
              refine .inl ⟨⟨vs, SqL.of hvs, ?_⟩, kq _ _ H2 R3 (e2.trans e3) (Rep.lst upd_same (r2.le e3.F))⟩
              rw [← rv.length]
              exact List.getElem?_eq_none_iff.mp ey
            | some d =>
              simp only [ey] at l2
              obtain ⟨w, hw, rw'⟩ := rv.get ey
              refine .inr ⟨⟨vs, w, SqL.of hvs, hw⟩, fun H' => ∃ (acc : List D) (accV : List V) (rest : List D) (g2 : Gh) (o2 : Own), HRel Y.T (upd Y.B Dn (.lst accV)) g2 o2 H' ∧ g2.F Dn = none ∧ Reps Y.T g2.F acc accV ∧
                GExt Y.B g1 o1.length g2 o2.length ∧ lcH k tg t f (wipeD sd (own.map (·.2))) m (i + 1) o2 = some (rest, own') ∧ acc ++ rest = ds, fun H' z => ⟨m, Nat.lt_succ_self m, z⟩, fun x H' y => ?_⟩
              obtain ⟨y1, y2⟩ := y
              subst y1
              have hx := y2 vs (SqL.of hvs)
              rw [hw] at hx
              cases hx
              have S3 : SRel Y.T g2 o2.length sd σ := S1.ext e2
              cases et : tg d (wipeD sd (own.map (·.2))) with
              | none => simp only [et] at l2; cases l2
              | some sd3 =>
                simp only [et] at l2
                refine og _ g2 o2 _ d w _ sd3 _ _ R2 rw' (srel_wipe S3 _) et fun σ3 S4 u => ⟨wipe_eq u hv, ?_⟩
                cases ec : t sd3 o2 with
                | none => simp only [ec] at l2; cases l2
                | some pc =>
                  obtain ⟨rc, o3⟩ := pc
                  cases rc with
                  | ex cc fs => simp only [ec] at l2; cases l2
                  | ok bb =>
                    simp only [ec] at l2
                    refine ⟨upd Y.B Dn (.lst accV), g2, sd3, o2, R2, S4, .ok bb, o3, ec, fun g4 b' H4 R4 e4 eb => ?_⟩
                    obtain rfl : bb = b' := eb
                    have F4 : g4.F Dn = none := guard_none e4 F2
                    have e34 := e4.less (B := Y.B) (Le.upd hB)
                    cases bb with
                    | false =>
                      rw [if_neg (by decide)]
                      simp only at l2
                      exact ⟨acc, accV, rest, g4, o3, R4, F4, r2.le e4.F, e2.trans e34, l2, ea⟩
                    | true =>
                      rw [if_pos rfl]
                      simp only at l2
                      cases ef : f sd3 o3 with
                      | none => simp only [ef] at l2; cases l2
                      | some pf =>
                        obtain ⟨rf, o4⟩ := pf
                        cases rf with
                        | ex cc fs => simp only [ef] at l2; cases l2
                        | ok s =>
                          cases s with
                          | h kk => simp only [ef] at l2; cases l2
                          | d d2 =>
                            simp only [ef] at l2
                            cases er : lcH k tg t f (wipeD sd (own.map (·.2))) m (i + 1) o4 with
                            | none => simp only [er] at l2; cases l2
                            | some pr =>
                              obtain ⟨rs, o5⟩ := pr
                              simp only [er] at l2
                              cases l2
                              refine ⟨upd Y.B Dn (.lst accV), g4, sd3, o3, R4, S4.ext e4, .ok (.d d2), o4, ef, fun g5 v H5 R5 e5 rv => ?_⟩
                              have F5 : g5.F Dn = none := guard_none e5 F4
                              have e345 := (e4.trans e5).less (B := Y.B) (Le.upd hB)
                              have r5 := r2.le (e4.F.trans e5.F)
                              have hlen : acc.length < ds.length := by rw [← ea]; simp
                              exact ⟨accV, R5.b _ _ upd_same, by rw [← r2.length]; omega, acc ++ [d2], accV ++ [v], rs, g5, o4, R5.reb F5, F5, r5.snoc rv, e2.trans e345, er, by rw [← ea]; simp⟩
theorem r_lcH (n : Nat) (hN : X.N.Nodup) (hi : PE X iter (trE Y src)) (ok : BlkOk X.N X.env.scope scope own) (hg : ∀ (s : Shared) (H : Hp) (C : Addr) (cl : List (Str × Addr)) (fp : List Addr), PG (X.blk s H scope (compEnvC scope cl C X.env) fp) tgx gg) (og : OG Y.T gg tg is) (hv : ∀ i ∈ is, i ∈ own.map (·.2))
    (ht : ∀ (B : Hp) (s : Shared) (H : Hp) (C : Addr) (cl : List (Str × Addr)) (fp : List Addr), PTs (X.blk s H scope (compEnvC scope cl C X.env) fp) ifs (trT ⟨Y.T, B, E00⟩ t))
    (he : ∀ (B : Hp) (s : Shared) (H : Hp) (C : Addr) (cl : List (Str × Addr)) (fp : List Addr), PE (X.blk s H scope (compEnvC scope cl C X.env) fp) elt (trE ⟨Y.T, B, E00⟩ f)) (hc : X.calm = true := by rfl) (hK : X.K = Y.T.K := by rfl) (hs : ∀ x, foldedSetIterable iter X.env x = pure x := by intro _; rfl) :
    PE X (.ListComp elt [⟨tgx, iter, ifs, 0⟩] scope pos) (trE Y (eLCH n src (own.map (·.2)) tg t f)) :=
  PE.imp (pe_lc hc hN (pi_list hi) ok hg (fun s H C cl fp => pt_any fun B => ht B s H C cl fp) (fun s H C cl fp => pe_any fun B => he B s H C cl fp) hs) fun _ _ _ q => by rw [hK]; exact lcH_at n og hv q
theorem rs_setLcH {i : Nat} {y : Str} {py spos : Pos} (n : Nat) (hN : X.N.Nodup) (hi : PE X iter (trE Y src)) (ok : BlkOk X.N X.env.scope scope own)
    (hg : ∀ (s : Shared) (H : Hp) (C : Addr) (cl : List (Str × Addr)) (fp : List Addr), PG (X.blk s H scope (compEnvC scope cl C X.env) fp) tgx gg) (og : OG Y.T gg tg is) (hv : ∀ i ∈ is, i ∈ own.map (·.2))
    (ht : ∀ (B : Hp) (s : Shared) (H : Hp) (C : Addr) (cl : List (Str × Addr)) (fp : List Addr), PTs (X.blk s H scope (compEnvC scope cl C X.env) fp) ifs (trT ⟨Y.T, B, E00⟩ t))
    (he : ∀ (B : Hp) (s : Shared) (H : Hp) (C : Addr) (cl : List (Str × Addr)) (fp : List Addr), PE (X.blk s H scope (compEnvC scope cl C X.env) fp) elt (trE ⟨Y.T, B, E00⟩ f)) (hy : X.N[i]? = some y := by rfl) (hyl : X.env.scope.names.lookup y = some .local := by rfl)
    (hsw : swapsWith (.ListComp elt [⟨tgx, iter, ifs, 0⟩] scope pos) (some (.Name y py)) spos.line X.env = pure true := by exact sw_true rfl rfl rfl (by decide +kernel)) (hc : X.calm = true := by rfl) (hK : X.K = Y.T.K := by rfl) (hs : ∀ x, foldedSetIterable iter X.env x = pure x := by intro _; rfl) :
    PS X (.Assign [.Name y py] (.ListComp elt [⟨tgx, iter, ifs, 0⟩] scope pos) spos) (trS Y (sSet i (eLCH n src (own.map (·.2)) tg t f))) :=
  PS.imp (ps_setLc hc hN hy hyl hsw (pi_list hi) ok hg (fun s H C cl fp => pt_any fun B => ht B s H C cl fp) (fun s H C cl fp => pe_any fun B => he B s H C cl fp) hs) fun D σ H q => by
    rw [hK]
    refine lcH_at n og hv ?_
    obtain ⟨gh, sd, own0, R, S, q⟩ := q
    refine s_bind R S q fun g1 o1 x v H1 R1 S1 e1 rx q1 => ?_
    exact sat_nx q1 rfl g1 _ H1 R1 (S1.set rx) .rfl'
end
end Gx
end T_GxN3
section T_GxN4
set_option Elab.async false
set_option linter.all false
set_option maxRecDepth 100000
set_option maxHeartbeats 4000000
namespace Gx
open PySem PySem.Spec PyProof.Rows L2

/-! ## contexts -/
theorem cx_blk {X : Cx} {T : Tb} {B : Hp} (hK : X.K = T.K := by rfl) : CxOk X ⟨T, B, E00⟩ := ⟨hK, fun σ pins H s e s' I h => passL pins σ H s e s' I h⟩
section
variable {P : Program} {w : World} {K : PySem.W.Frag} {mg : Str → Option Value} {base : Heap} {N : List Str} {qual : Str} {sc : Scope} {f : Addr} {cdv : Value} {A : Around} {outer : List Env} {s : Shared} {H : Hp} {E : XK} {T : Tb} {B : Hp}
theorem tk_def : Takes (cxOf (L2.CX P w) P w K mg base N qual sc f cdv A outer s H E) (WY ⟨T, B, fun _ => E⟩) := takes_of rfl rfl rfl rfl
theorem cx_def (hK : K = T.K := by rfl) : CxOk (cxOf (L2.CX P w) P w K mg base N qual sc f cdv A outer s H E) ⟨T, B, fun _ => E⟩ := ⟨hK, fun σ => passAt (W := WY ⟨T, B, fun _ => E⟩) tk_def σ⟩
end
/-! ## constants -/
/-- a tuple of texts that the module's top has written -/
structure TupC (K : PySem.W.Frag) (mg : Str → Option Value) (x : Str) (ys : List Str) : Prop where
  ex : ∃ (a : Addr) (o : Obj) (its : Array Value) (n : Nat), mg x = some (.ref a) ∧ K.lookup a = some o ∧ o.cls = .type "tuple" ∧ o.data = .seq its n ∧ its.size ≤ sizeLine ∧ Vals (ys.map V.str) its.toList
theorem reps_str {T : Tb} {F : Hp} : ∀ ys : List Str, Reps T F (ys.map D.str) (ys.map V.str)
  | [] => .nil
  | y :: ys => .cons (.str y) (reps_str ys)
theorem r_gt {X : Cx} {Y : Cy} {x : Str} {ys : List Str} {pos : Pos} {ds : List D} (c : TupC X.K X.mg x ys) (hK : X.K = Y.T.K := by rfl) (hd : ds = ys.map D.str := by rfl) (hg : Gl X x := by rfl) (hdb : (x == ("__debug__" : Str)) = false := by decide) : PE X (.Name x pos) (trE Y (eK (.tup ds))) := by
  obtain ⟨a, o, its, n, hm, hk, hc, hdt, hz, hv⟩ := c.ex
  rw [hd]
  exact r_k (pe_glob hg hm (v := .ref a) rfl hdb) fun F => .tup (.inr ⟨o, its, n, by rw [← hK]; exact hk, hc, hdt, hz, hv⟩) (reps_str ys)
/-! ## the drawing of the row, the law -/
/-- _law_draws: a copy of the script, then 0, 0, 7 -/
def spDraw (K : PySem.W.Frag) : Sp := fun vs H Q _ => ∃ (a : Addr) (ns : List Int), vs = [.ref a] ∧ SqL K H a (ns.map V.int) ∧ ∀ l p, H l = none → H p = none → p ≠ l → Q (.ref p) (upd (upd H l (.lst (ns.map V.int))) p (.lst [.ref l, .int 0, .int 0, .int 7]))
def spLaw (K : PySem.W.Frag) : Sp := fun vs H Q _ => ∃ (a : Addr) (ns : List Int), vs = [.ref a] ∧ ns.length ≤ 63 ∧ SqL K H a (ns.map V.int) ∧ ∀ H', Q (.bl true) H'
section
variable {P : Program} {w : World} {K : PySem.W.Frag} {mg : Str → Option Value} {base : Heap}
theorem draws_ok {st : Stmt} {f : Addr} {fd : FuncData} {p1 p2 p3 p4 p5 p6 p7 p8 : Pos} {j1 j2 j3 : Nat} (F : Fun K "_law_draws" "_law_draws" st f fd) (S : FnScope ["_law_script"] ["_law_script"] (defScope st)) (hl : mg "list" = none) (hg : (defScope st).names.lookup ("list" : Str) = some .globalImplicit)
    (hs : (defScope st).names.lookup ("_law_script" : Str) = some .local)
    (hb : defBody st = [.Return (some (.List [.Call (.Name "list" p1) [.Name "_law_script" p2] [] p3, .Constant (.int 0) j1 p4, .Constant (.int 0) j2 p5, .Constant (.int 7) j3 p6] p7)) p8]) : FnOk P w K mg base (L2.CX P w) 1 f fd ["_law_script"] (spDraw K) := by
  refine F.okX (k := 0) S (fun vs H Q E h => ?_) (fun cdv A outer s H vs Q E hr h => ?_)
  · obtain ⟨a, ns, rfl, _⟩ := h
    rfl
  · obtain ⟨a, ns, rfl, hS, h⟩ := h
    rw [hb]
    refine ⟨_, pss_one (ps_ret (pe_lst (pa_cons (pe_callTy call_list_of hg hl (by decide +kernel) (pa_cons (pe_var (i := 0) rfl (.inl hs)) pa_nil)) (pa_cons pe_int (pa_cons pe_int (pa_cons pe_int pa_nil)))))), ?_⟩
    refine ⟨_, rfl, a, _, rfl, .inl hS, fun l hl => ?_⟩
    refine ⟨(by show 4 ≤ sizeLine; rw [sizeLine_eq]; decide), fun p hp => ?_⟩
    have hpl : p ≠ l := fun z => by rw [z, upd_same] at hp; cases hp
    exact h l p hl (by rw [← upd_ne (H := H) (o := .lst (ns.map V.int)) hpl]; exact hp) hpl
/-- the law's names at the second statement: the script is not looked at again -/
def lawSl (n : Nat) : Sl := none :: some (.h 0) :: List.replicate (n - 2) none
def lawRow (ns : List Int) : Own := [.lst [.lst (ns.map D.int), .int 0, .int 0, .int 7]]
theorem reps_int {T : Tb} {F : Hp} : ∀ ns : List Int, Reps T F (ns.map D.int) (ns.map V.int)
  | [] => .nil
  | y :: ys => .cons (.int y) (reps_int ys)
theorem law_of {T : Tb} {st : Stmt} {f : Addr} {fd : FuncData} {N : List Str} {k : Nat} {rest : List Stmt} {Lr : SM} {p1 p2 p3 p4 p5 : Pos} (F : Fun K "law" "law" st f fd) (S : FnScope N ["_law_script"] (defScope st)) (hk : 1 ≤ k) (h0 : N[0]? = some ("_law_script" : Str)) (h1 : N[1]? = some ("_law_row" : Str))
    (v0 : (defScope st).names.lookup ("_law_script" : Str) = some .local) (v1 : (defScope st).names.lookup ("_law_row" : Str) = some .local) (vg : (defScope st).names.lookup ("_law_draws" : Str) = some .globalImplicit)
    (dr : ∃ (f' : Addr) (fd' : FuncData), mg "_law_draws" = some (.ref f') ∧ PySem.W.keepIn K (.ref f') = true ∧ Binds K fd' ["_law_script"] [] ∧ FnOk P w K mg base (L2.CX P w) 1 f' fd' ["_law_script"] (spDraw K))
    (hb : defBody st = .Assign [.Name "_law_row" p1] (.Call (.Name "_law_draws" p2) [.Name "_law_script" p3] [] p4) p5 :: rest)
    (hsw : ∀ env : Env, swapsWith (.Call (.Name "_law_draws" p2) [.Name "_law_script" p3] [] p4) (some (.Name "_law_row" p1)) p5.line env = pure false)
    (hrest : ∀ (cdv : Value) (A : Around) (outer : List Env) (s : Shared) (H : Hp) (E : XK) (B : Hp), Room k (A.deeper (envOfC "law" (defScope st) s.heap.objs.size f cdv)) →
      PSs (cxOf (L2.CX P w) P w K mg base N "law" (defScope st) f cdv A outer s H E) rest (trS ⟨T, B, fun _ => E⟩ Lr))
    (hsem : ∀ ns : List Int, ns.length ≤ 63 → ∃ own', Lr (lawSl N.length) (lawRow ns) = some (.rt (.d (.bl true)) own')) :
    FnOk P w K mg base (L2.CX P w) (k + 1) f fd ["_law_script"] (spLaw K) := by
  obtain ⟨f', fd', hm, hkp, hbd, FD⟩ := dr
  refine F.okX (k := k) S (fun vs H Q E h => ?_) (fun cdv A outer s H vs Q E hr h => ?_)
  · obtain ⟨a, ns, rfl, _⟩ := h
    rfl
  · obtain ⟨a, ns, rfl, hl, hS, hQ⟩ := h
    rw [hb]
    have hN2 : 2 ≤ N.length := by
      have := (List.getElem?_eq_some_iff.mp h1).1
      omega
    refine ⟨_, pss_cons (ps_set (i := 1) S.nd h1 (.inl v1) (pe_call FD (hr.mono hk) vg hm hkp hbd .nil passL (pa_cons (pe_var h0 (.inl v0)) pa_nil)) (hsw _)) (hrest cdv A outer s H E H hr), ?_⟩
    refine ⟨.ref a, rfl, a, ns, rfl, hS, fun l p hl0 hp0 hpl => ?_⟩
    obtain ⟨own', hs⟩ := hsem ns hl
    have R0 : HRel T H ⟨fun _ => none, fun _ => 0⟩ [] H := hrel_fresh (F := fun _ => none) fun a o e => by cases e
    obtain ⟨R1, e1⟩ := R0.new hl0 (.lst (ns.map V.int))
    have hp1 : upd H l (.lst (ns.map V.int)) p = none := by rw [upd_ne hpl]; exact hp0
    obtain ⟨R2, e2⟩ := R1.made (ho := .lst [.ref l, .int 0, .int 0, .int 7]) (o := .lst [.lst (ns.map D.int), .int 0, .int 0, .int 7]) hp1
      ⟨[.ref l, .int 0, .int 0, .int 7], upd_same, .cons (.lst upd_same (reps_int ns)) (.cons (.int 0) (.cons (.int 0) (.cons (.int 7) .nil)))⟩
    refine ⟨_, lawSl N.length, lawRow ns, R2, ⟨?_, fun i sv e => ?_⟩, _, hs, fun g' v H' R' e' rv => ?_⟩
    · show ((L2.start N [V.ref a]).set 1 (some (V.ref p))).length = (lawSl N.length).length
      rw [List.length_set]
      unfold L2.start lawSl
      simp
      omega
    · match i, e with
      | 0, e => cases e
      | 1, e =>
        have e : some (SV.h 0) = some sv := by
          unfold lawSl at e
          simpa using e
        cases e
        refine ⟨.ref p, ?_, (show 0 < 1 by decide), rfl⟩
        rw [List.getElem?_set_self]
        unfold L2.start
        simp
        omega
      | i + 2, e =>
        unfold lawSl at e
        simp only [List.getElem?_cons_succ, List.getElem?_replicate] at e
        split at e <;> cases e
    · have rv : Rep T g'.F (.bl true) v := rv
      cases rv
      exact hQ H'
end
end Gx
end T_GxN4
section T_GxN5
set_option Elab.async false
set_option linter.all false
set_option maxRecDepth 100000
set_option maxHeartbeats 4000000
namespace Gx
open PySem PySem.Spec PyProof.Rows L2
section
variable {X : Cx} {Y : Cy} {pos : Pos} {a : Expr} {f : EM}
theorem r_neg (h : PE X a (trE Y f)) : PE X (.UnaryOp .USub a pos) (trE Y (eU mNeg f)) := by
  refine PE.imp (pe_un un_neg h) fun σ H Q q => ?_
  obtain ⟨gh, sd, own, R, S, q⟩ := q
  refine at_bind R S q fun g1 o1 x v H1 R1 S1 e1 rx q1 => ?_
  obtain ⟨s, es, k⟩ := at_ask q1
  obtain ⟨d, e2, e3⟩ := Option.map_eq_some_iff.mp es
  subst e3
  cases x with
  | h k => cases e2
  | d x =>
    cases x with
    | int i => cases e2; exact ⟨i, sv_int rx, k g1 _ H1 R1 .rfl' (Rep.int _)⟩
    | _ => cases e2
/-- {} that is not to change -/
def eDic0 : EM := M.ret (.d (.dic [] []))
theorem r_dic0 : PE X (.Dict [] [] pos) (trE Y eDic0) := by
  refine PE.imp pe_dnewK fun σ H Q q => ?_
  obtain ⟨gh, sd, own, R, S, q⟩ := q
  have k := at_ret q
  intro p hp
  obtain ⟨R2, e2⟩ := R.new hp (.dK [])
  exact k _ _ _ R2 e2 (Rep.dic (kvs := []) (.inl upd_same) rfl .nil)
/-- {} of one's own -/
def eDicH : EM := fun _ own => some (.ok (.h own.length), own ++ [.dic [] []])
theorem r_dicH : PE X (.Dict [] [] pos) (trE Y eDicH) := by
  refine PE.imp pe_dnewK fun σ H Q q => ?_
  obtain ⟨gh, sd, own, R, S, r, own', e, k⟩ := q
  cases e
  intro p hp
  obtain ⟨R2, e2⟩ := R.made (ho := .dK []) (o := .dic [] []) hp ⟨[], upd_same, rfl, .nil⟩
  exact k _ _ _ R2 e2 ⟨by simp, by simp⟩
variable {x : Str}
theorem r_ty (k : Nat) (hm : X.mg x = none) (hv : bootBuiltins x = some (.type (tyName k)) := by decide +kernel) (hg : Gl X x := by rfl) (hn : x ≠ "__name__" := by decide) (hdb : (x == ("__debug__" : Str)) = false := by decide) : PE X (.Name x pos) (trE Y (eK (.ty k))) :=
  r_k (v := .ty (tyName k)) (pe_bltn hg hm hv rfl hn hdb) fun _ => .ty k
theorem r_ci (i : Int) (hm : ∃ t, X.mg x = some (.int i t)) (hg : Gl X x := by rfl) (hdb : (x == ("__debug__" : Str)) = false := by decide) : PE X (.Name x pos) (trE Y (eK (.int i))) := by
  obtain ⟨t, hm⟩ := hm
  exact r_k (v := .int i) (pe_glob hg hm ⟨t, rfl⟩ hdb) fun _ => .int i
theorem r_cs (i : Str) (hm : ∃ t, X.mg x = some (.str i t)) (hg : Gl X x := by rfl) (hdb : (x == ("__debug__" : Str)) = false := by decide) : PE X (.Name x pos) (trE Y (eK (.str i))) := by
  obtain ⟨t, hm⟩ := hm
  exact r_k (v := .str i) (pe_glob hg hm ⟨t, rfl⟩ hdb) fun _ => .str i
theorem r_cl (c : Nat) (hm : X.mg x = some (.ref (Y.T.ct c))) (hg : Gl X x := by rfl) (hdb : (x == ("__debug__" : Str)) = false := by decide) : PE X (.Name x pos) (trE Y (eK (.cls c))) :=
  r_k (v := .ref (Y.T.ct c)) (pe_glob hg hm rfl hdb) fun _ => .cls c
end
end Gx
end T_GxN5
section T_GxN6
set_option Elab.async false
set_option linter.all false
set_option maxRecDepth 100000
set_option maxHeartbeats 4000000
namespace Gx
open PySem PySem.Spec PyProof.Rows L2

/-! ## what the written part says, put together -/
def ctOf (l : List (Nat × Addr)) : Nat → Addr := fun c => (l.lookup c).getD 0
/-- an own class in raw words -/
structure OwnK (K : PySem.W.Frag) (C : Addr) : Prop where
  pg : PySem.W.plainGet K C Str.empty = true
  hd : PySem.W.hasDictIn K C = true
  po : PySem.W.plainOver K C = true
  sa : PySem.W.findIn K (.ref C) "__setattr__" = some (some (.builtin "object.__setattr__"))
  ha : PySem.W.findIn K (.ref C) "__class__" = some (some (.builtin "object.__class__"))
  hn : PySem.W.specialIn K (.builtin "object.__class__") "__get__" = some (some (.builtin "getset_descriptor.__get__"))
  ht : PySem.W.takesIn K (.builtin "object.__class__") = some true
  hm : PySem.W.mroIn K C (.type "object") = some true
  ic : PySem.W.isClsIn K C = true
  ty : PySem.W.typeIn K (.ref C) = some (.type "type")
  sf : PySem.W.subIn K (.ref C) (.ref C) = some true
  b0 : PySem.W.subIn K (.type "int") (.ref C) = some false
  b1 : PySem.W.subIn K (.type "bool") (.ref C) = some false
  b2 : PySem.W.subIn K (.type "str") (.ref C) = some false
  b3 : PySem.W.subIn K (.type "tuple") (.ref C) = some false
  b4 : PySem.W.subIn K (.type "list") (.ref C) = some false
  b5 : PySem.W.subIn K (.type "dict") (.ref C) = some false
  b6 : PySem.W.subIn K (.type "NoneType") (.ref C) = some false
  n0 : PySem.W.subIn K (.ref C) (.type "int") = some false
  n1 : PySem.W.subIn K (.ref C) (.type "bool") = some false
  n2 : PySem.W.subIn K (.ref C) (.type "str") = some false
  n3 : PySem.W.subIn K (.ref C) (.type "tuple") = some false
  n4 : PySem.W.subIn K (.ref C) (.type "list") = some false
  n5 : PySem.W.subIn K (.ref C) (.type "dict") = some false
  n6 : PySem.W.subIn K (.ref C) (.type "NoneType") = some false
section
variable {K : PySem.W.Frag} {C C2 : Addr}
theorem kit_cl {t : Value} {b : Bool} (ic : PySem.W.isClsIn K C = true) (ty : PySem.W.typeIn K (.ref C) = some (.type "type")) (sf : PySem.W.subIn K (.ref C) (.ref C) = some true) (h : PySem.W.subIn K t (.ref C) = some b) : PySem.W.kitOne K t (.ref C) = some b := by
  have ic2 : (PySem.W.clsIn K C).isSome = true := ic
  unfold PySem.W.kitOne
  by_cases e : (t == Value.ref C) = true
  · rw [if_pos e]
    have e2 : t = .ref C := beq_iff_eq.mp e
    rw [e2, sf] at h
    exact h
  · rw [if_neg e]
    show (if ((PySem.W.clsIn K C).isSome && PySem.W.typeIn K (.ref C) == some (.type "type")) = true then PySem.W.subIn K t (.ref C) else none) = some b
    rw [ic2, ty]
    exact h
theorem kit_bt {n : String} {b : Bool} (hn : PySem.W.kitMeta n = true) (h : PySem.W.subIn K (.ref C) (.type n) = some b) : PySem.W.kitOne K (.ref C) (.type n) = some b := by
  unfold PySem.W.kitOne
  rw [if_neg (by simp)]
  show (if PySem.W.kitMeta n = true then PySem.W.subIn K (.ref C) (.type n) else none) = some b
  rw [if_pos hn]
  exact h
theorem OwnK.base (o : OwnK K C) : ∀ k < 7, PySem.W.subIn K (.type (tyName k)) (.ref C) = some false := by
  intro k hk
  match k, hk with
  | 0, _ => exact o.b0
  | 1, _ => exact o.b1
  | 2, _ => exact o.b2
  | 3, _ => exact o.b3
  | 4, _ => exact o.b4
  | 5, _ => exact o.b5
  | 6, _ => exact o.b6
theorem meta7 : ∀ k < 7, PySem.W.kitMeta (tyName k) = true := by
  intro k hk
  match k, hk with
  | 0, _ => decide +kernel
  | 1, _ => decide +kernel
  | 2, _ => decide +kernel
  | 3, _ => decide +kernel
  | 4, _ => decide +kernel
  | 5, _ => decide +kernel
  | 6, _ => decide +kernel
theorem OwnK.none_ (o : OwnK K C) : ∀ k < 7, PySem.W.subIn K (.ref C) (.type (tyName k)) = some false := by
  intro k hk
  match k, hk with
  | 0, _ => exact o.n0
  | 1, _ => exact o.n1
  | 2, _ => exact o.n2
  | 3, _ => exact o.n3
  | 4, _ => exact o.n4
  | 5, _ => exact o.n5
  | 6, _ => exact o.n6
theorem OwnK.cls (o : OwnK K C) : Cls K C := ⟨o.pg, o.hd, o.po, o.sa⟩
theorem first_of {t : Value} (h : PySem.W.subIn K t (.ref C) = some false) : PySem.W.notFirst K C t = true := by
  unfold PySem.W.notFirst
  rw [h]
  simp
theorem ownF_of {ct : Nat → Addr} {L : List Nat} (o : ∀ c ∈ L, OwnK K (ct c)) (p : ∀ c ∈ L, ∀ c2 ∈ L, PySem.W.subIn K (.ref (ct c)) (.ref (ct c2)) = some (c == c2)) : OwnF ⟨K, ct⟩ L := by
  refine ⟨fun c hc => ⟨(o c hc).cls, (o c hc).ha, (o c hc).hn, (o c hc).ht, (o c hc).hm⟩, fun c hc c2 hc2 => kit_cl (o c2 hc2).ic (o c2 hc2).ty (o c2 hc2).sf (p c hc c2 hc2), fun k hk c hc => kit_cl (o c hc).ic (o c hc).ty (o c hc).sf ((o c hc).base k hk),
    fun k hk c hc => kit_bt (meta7 k hk) ((o c hc).none_ k hk), fun k hk c hc => first_of ((o c hc).base k hk), fun c hc c2 hc2 => ?_⟩
  have h := p c2 hc2 c hc
  by_cases e : c2 = c
  · subst e
    show PySem.W.notFirst K (ct c2) (.ref (ct c2)) = true
    unfold PySem.W.notFirst
    simp
  · rw [beq_false_of_ne e] at h
    exact first_of h
/-- an exception class in raw words -/
structure ExcK (K : PySem.W.Frag) (C : Addr) : Prop where
  hg : PySem.W.findIn K (.ref C) "__getattribute__" = some (some (.builtin "BaseException.__getattribute__"))
  hk : PySem.W.findIn K (.ref C) "__getattr__" = some none
  hs : PySem.W.subIn K (.ref C) (.type "BaseException") = some true
  hd : PySem.W.hasDictIn K C = true
  ha : PySem.W.findIn K (.ref C) "__class__" = some (some (.builtin "object.__class__"))
  hn : PySem.W.specialIn K (.builtin "object.__class__") "__get__" = some (some (.builtin "getset_descriptor.__get__"))
  ht : PySem.W.takesIn K (.builtin "object.__class__") = some true
  hm : PySem.W.mroIn K C (.type "object") = some true
  ic : PySem.W.isClsIn K C = true
  ty : PySem.W.typeIn K (.ref C) = some (.type "type")
  sf : PySem.W.subIn K (.ref C) (.ref C) = some true
theorem ExcK.excC (o : ExcK K C) : ExcC K C := ⟨o.hg, o.hk, o.hs, o.hd, o.ha, o.hn, o.ht, o.hm⟩
theorem ExcK.xfC (o : ExcK K C) : XfC K C := ⟨o.hg, o.hk, o.hs, o.hd⟩
theorem ExcK.kit {t : Value} {b : Bool} (o : ExcK K C) (h : PySem.W.subIn K t (.ref C) = some b) : PySem.W.kitOne K t (.ref C) = some b := kit_cl o.ic o.ty o.sf h
theorem ExcK.exm {t : Value} {b : Bool} (o : ExcK K C) (h : PySem.W.subIn K t (.ref C) = some b) : PySem.W.exmOne K t (.ref C) = some b := PySem.W.exm_ref o.hs o.hd o.ty h
end

/-- def_ok with what the body's rules ask of the context -/
theorem def_ok2 {P : Program} {w : World} {K : PySem.W.Frag} {mg : Str → Option Value} {base : Heap} {x qual : Str} {st : Stmt} {f : Addr} {fd : FuncData} {N ps : List Str} {k n : Nat} {ct : Nat → Addr} {body : SM}
    (F : Fun K x qual st f fd) (S : FnScope N ps (defScope st)) (hn : ps.length = n)
    (h : ∀ (cdv : Value) (A : Around) (outer : List Env) (s : Shared) (H : Hp) (E : XK) (B : Hp), Room k (A.deeper (envOfC qual (defScope st) s.heap.objs.size f cdv)) →
      Takes (cxOf (L2.CX P w) P w K mg base N qual (defScope st) f cdv A outer s H E) (WY ⟨⟨K, ct⟩, B, fun _ => E⟩) → PassesOwn (model P w) (A.deeper (envOfC qual (defScope st) s.heap.objs.size f cdv)) (envOfC qual (defScope st) s.heap.objs.size f cdv) (cxOf (L2.CX P w) P w K mg base N qual (defScope st) f cdv A outer s H E).xe →
      CxOk (cxOf (L2.CX P w) P w K mg base N qual (defScope st) f cdv A outer s H E) ⟨⟨K, ct⟩, B, fun _ => E⟩ → PSs (cxOf (L2.CX P w) P w K mg base N qual (defScope st) f cdv A outer s H E) (defBody st) (trS ⟨⟨K, ct⟩, B, fun _ => E⟩ body)) :
    FnOk P w K mg base (L2.CX P w) (k + 1) f fd ps (spF ⟨K, ct⟩ n (runDef N.length body)) :=
  def_ok F S hn fun cdv A outer s H E B hr => h cdv A outer s H E B hr tk_def (passes_of rfl) cx_def
theorem law_of2 {P : Program} {w : World} {K : PySem.W.Frag} {mg : Str → Option Value} {base : Heap} {ct : Nat → Addr} {st : Stmt} {f : Addr} {fd : FuncData} {N : List Str} {k : Nat} {rest : List Stmt} {Lr : SM} {p1 p2 p3 p4 p5 : Pos} (F : Fun K "law" "law" st f fd) (S : FnScope N ["_law_script"] (defScope st)) (hk : 1 ≤ k) (h0 : N[0]? = some ("_law_script" : Str)) (h1 : N[1]? = some ("_law_row" : Str))
    (v0 : (defScope st).names.lookup ("_law_script" : Str) = some .local) (v1 : (defScope st).names.lookup ("_law_row" : Str) = some .local) (vg : (defScope st).names.lookup ("_law_draws" : Str) = some .globalImplicit)
    (dr : ∃ (f' : Addr) (fd' : FuncData), mg "_law_draws" = some (.ref f') ∧ PySem.W.keepIn K (.ref f') = true ∧ Binds K fd' ["_law_script"] [] ∧ FnOk P w K mg base (L2.CX P w) 1 f' fd' ["_law_script"] (spDraw K))
    (hb : defBody st = .Assign [.Name "_law_row" p1] (.Call (.Name "_law_draws" p2) [.Name "_law_script" p3] [] p4) p5 :: rest)
    (hsw : ∀ env : Env, swapsWith (.Call (.Name "_law_draws" p2) [.Name "_law_script" p3] [] p4) (some (.Name "_law_row" p1)) p5.line env = pure false)
    (hrest : ∀ (cdv : Value) (A : Around) (outer : List Env) (s : Shared) (H : Hp) (E : XK) (B : Hp), Room k (A.deeper (envOfC "law" (defScope st) s.heap.objs.size f cdv)) →
      Takes (cxOf (L2.CX P w) P w K mg base N "law" (defScope st) f cdv A outer s H E) (WY ⟨⟨K, ct⟩, B, fun _ => E⟩) → PassesOwn (model P w) (A.deeper (envOfC "law" (defScope st) s.heap.objs.size f cdv)) (envOfC "law" (defScope st) s.heap.objs.size f cdv) (cxOf (L2.CX P w) P w K mg base N "law" (defScope st) f cdv A outer s H E).xe →
      CxOk (cxOf (L2.CX P w) P w K mg base N "law" (defScope st) f cdv A outer s H E) ⟨⟨K, ct⟩, B, fun _ => E⟩ → PSs (cxOf (L2.CX P w) P w K mg base N "law" (defScope st) f cdv A outer s H E) rest (trS ⟨⟨K, ct⟩, B, fun _ => E⟩ Lr))
    (hsem : ∀ ns : List Int, ns.length ≤ 63 → ∃ own', Lr (lawSl N.length) (lawRow ns) = some (.rt (.d (.bl true)) own')) :
    FnOk P w K mg base (L2.CX P w) (k + 1) f fd ["_law_script"] (spLaw K) :=
  law_of (T := ⟨K, ct⟩) F S hk h0 h1 v0 v1 vg dr hb hsw (fun cdv A outer s H E B hr => hrest cdv A outer s H E B hr tk_def (passes_of rfl) cx_def) hsem
theorem sup_free {l : List (Str × NameKind)} (h : (l.all fun p => p.2 != .free || p.1 == ("__class__" : Str)) = true) (_ : True = True) : ∀ x, l.lookup x = some .free → x = "__class__" := by
  intro x hx
  have hm := PySem.mem_of_lookup hx
  have h2 := List.all_eq_true.mp h _ hm
  simpa using h2
theorem cx_end {P : Program} {w : World} {H : Hp} {s : Shared} {e : Value} {s' : Shared} (z : L2.CX P w [] H s (fun _ _ _ => False) e s') : False := by
  obtain ⟨_, _, _, _, _, _, _, _, _, _, _, _, z⟩ := z
  exact z.elim
section
variable {K : PySem.W.Frag}
theorem vI_mk {x : Str} {i : Int} {t : Tok} (h : PySem.W.nsIn K mainGlobals x = some (some (.int i t))) : ∃ t, PySem.W.nsIn K mainGlobals x = some (some (.int i t)) := ⟨t, h⟩
theorem vS_mk {x : Str} {i : Str} {t : Tok} (h : PySem.W.nsIn K mainGlobals x = some (some (.str i t))) : ∃ t, PySem.W.nsIn K mainGlobals x = some (some (.str i t)) := ⟨t, h⟩
theorem vT_mk {x : Str} {ys : List Str} {a : Addr} {dd : Option Addr} {its : List Value} {n : Nat} {sl : Array (Option Value)} (h : PySem.W.nsIn K mainGlobals x = some (some (.ref a))) (l : K.lookup a = some ⟨.type "tuple", dd, .seq its.toArray n, sl⟩) (z : its.length ≤ sizeLine) (v : Vals (ys.map V.str) its) :
    ∃ (a : Addr) (o : Obj) (its : Array Value) (n : Nat), PySem.W.nsIn K mainGlobals x = some (some (.ref a)) ∧ K.lookup a = some o ∧ o.cls = .type "tuple" ∧ o.data = .seq its n ∧ its.size ≤ sizeLine ∧ Vals (ys.map V.str) its.toList :=
  ⟨a, _, its.toArray, n, h, l, rfl, rfl, by simpa using z, by simpa using v⟩
end
theorem oexc_mk {K : PySem.W.Frag} {C N : Addr} {nm q : Str} {bs bm : List Value} {sn : List Str} {sub : List Value} {ab : Bool} {col : Option Bool} {dd : Option Addr} {k0 k1 k2 k3 k5 : Option Value}
    (l : K.lookup C = some (excClassObj nm q C N bs bm true sn sub ab col dd k0 k1 k2 k3 k5 "ValueError.__new__")) (r : PySem.HandSPX.refsVE bm = true) (sa : PySem.W.findIn K (.ref C) "__setattr__" = some (some (.builtin "object.__setattr__")))
    (ex : PySem.W.subIn K (.ref C) (.type "BaseException") = some true) (ty : PySem.W.typeIn K (.ref C) = some (.type "type")) (kp : PySem.W.keepIn K (.ref C) = true) : OexC K C := ⟨⟨_, _, _, _, _, _, _, _, _, _, _, _, _, _, _, l, r⟩, sa, ex, ty, kp⟩
theorem sup_mk {P : Program} {K : PySem.W.Frag} {C f cc cda : Addr} {name qual : Str} {params : Arguments} {body : List Stmt} {scope : Scope} {kV doc pm ctv oc : Value} {an od : Option Addr} {osl : Array (Option Value)} {ccl cl : Value} {cdd cld : Option Addr} {vs : Array Value} {ccs csl : Array (Option Value)} {file : Str} {tf : Tok}
    (l : K.lookup f = some ⟨oc, od, .func (PySem.W.ksFn name qual params body scope .none kV doc pm an (.ref cda) ctv cc), osl⟩) (c : PySem.W.codeIn K (.ref cda) qual = true) (f1 : K.lookup cda = some ⟨ccl, cdd, .fields vs, ccs⟩) (f2 : vs[2]? = some (.str file tf)) (f3 : ((P.main.file : Str) == file) = true)
    (c1 : K.lookup cc = some ⟨cl, cld, .cell (some (.ref C)), csl⟩) (tp : (P.main.scope.names.lookup ("super" : Str)).isSome = false) (mgs : PySem.W.nsIn K mainGlobals "super" = some none) (op : PySem.W.nsIn K cStatics "thirdparty.any" = some none)
    (su : PySem.W.ks_superIn K C C "__init__" = some (some (.builtin "ValueError.__init__"))) (mr : PySem.W.mroIn K C (.ref C) = some true) (ve : PySem.W.subIn K (.ref C) (.type "ValueError") = some true) (ec : OexC K C) :
    ∃ fd cc cda, SupDef P K C f cc cda fd qual params body scope :=
  ⟨_, cc, cda, ⟨name, kV, doc, pm, ctv, oc, an, od, osl, rfl, l⟩, c, ⟨_, _, vs, _, file, tf, f1, f2, f3⟩, ⟨_, _, _, c1⟩, tp, mgs, op, su, mr, ve, ec⟩
theorem prop_mk {K : PySem.W.Frag} {C p g : Addr} {f : Str} {rest : List Value} (a : PySem.W.findIn K (.ref C) f = some (some (.ref p))) (b : PySem.W.specialIn K (.ref p) "__get__" = some (some (.builtin "property.__get__"))) (c : PySem.W.takesIn K (.ref p) = some true) (d : PySem.W.recIn K p "property" = some (.ref g :: rest)) : PropOf K C f p g := ⟨a, b, c, rest, d⟩
theorem fn_mk {K : PySem.W.Frag} {x qual : Str} {st : Stmt} {f : Addr} {oc : Value} {od an : Option Addr} {osl : Array (Option Value)} {kV doc pm cdv ctv : Value} (l : K.lookup f = some ⟨oc, od, .func (PySem.W.fnOf x qual (defArgs st) (defBody st) (defScope st) .none kV doc pm an cdv ctv), osl⟩)
    (c : PySem.W.codeIn K cdv qual = true) (k : PySem.W.keepIn K (.ref f) = true) : ∃ fd, Fun K x qual st f fd := ⟨_, fun_mk l c k⟩
end Gx
end T_GxN6
section T_M01a
set_option Elab.async false
set_option linter.all false
set_option maxRecDepth 100000
set_option maxHeartbeats 8000000
set_option pp.maxSteps 300
namespace K01
open PySem PySem.Spec PyProof.Rows L2 Gx

def top (i : Nat) : Stmt := PySem.Challenge.pw_shipsrow_k01_fleets_refused.main.body.getD i (.Pass ⟨0, 0, 0, 0⟩)
abbrev LO : List Nat := [0]
/-- what the written part says -/
structure Facts (K : PySem.W.Frag) (mg : Str → Option Value) (ct : Nat → Addr) : Prop where
  b_all : mg "all" = none
  b_bool : mg "bool" = none
  b_int : mg "int" = none
  b_isinstance : mg "isinstance" = none
  b_len : mg "len" = none
  b_range : mg "range" = none
  b_str : mg "str" = none
  b_tuple : mg "tuple" = none
  c_MOST_LENGTH : ∃ t, mg "MOST_LENGTH" = some (.int 4 t)
  c_SHAPES : TupC K mg "SHAPES" ["ring", "row"]
  eC : ∀ c ∈ ([10, 11, 12] : List Nat), ExcC K (ct c)
  e_BadGap : ∀ c ∈ ([10, 11, 12] : List Nat), PySem.W.exmOne K (.ref (ct c)) (.ref (ct 12)) = some (excSub c 12)
  e_BadShape : ∀ c ∈ ([10, 11, 12] : List Nat), PySem.W.exmOne K (.ref (ct c)) (.ref (ct 10)) = some (excSub c 10)
  e_BadShips : ∀ c ∈ ([10, 11, 12] : List Nat), PySem.W.exmOne K (.ref (ct c)) (.ref (ct 11)) = some (excSub c 11)
  g_BadGap : mg "BadGap" = some (.ref (ct 12))
  g_BadShape : mg "BadShape" = some (.ref (ct 10))
  g_BadShips : mg "BadShips" = some (.ref (ct 11))
  g_Fleet : mg "Fleet" = some (.ref (ct 0))
  g_SeaError : mg "SeaError" = some (.ref (ct 9))
  k0 : Cls K (ct 0)
  ki_SeaError : ∀ c ∈ ([10, 11, 12] : List Nat), PySem.W.kitOne K (.ref (ct c)) (.ref (ct 9)) = some (excSub c 9)
  n0_form : NoAttr K (ct 0) "form"
  n0_lengths : NoAttr K (ct 0) "lengths"
  n0_room : NoAttr K (ct 0) "room"
  own : OwnF ⟨K, ct⟩ LO
section
variable {P : Program} {w : World} {K : PySem.W.Frag} {mg : Str → Option Value} {base : Heap} {ct : Nat → Addr}
theorem sc_is_integer : FnScope ["value"] ["value"] (defScope (top 8)) := ⟨rfl, rfl, rfl, by decide +kernel, rfl, by decide +kernel, by decide +kernel⟩
def F_is_integer : FM := runDef 1
  ((sRet (eAnd (eCB (m2 mIsi) (aCons (eV 0) (aCons (eK (.ty 0)) aNil))) (eNot (eCB (m2 mIsi) (aCons (eV 0) (aCons (eK (.ty 1)) aNil)))))))
theorem ok_is_integer {f : Addr} {fd : FuncData} (M : Facts K mg ct)  (F : Fun K "is_integer" "is_integer" (top 8) f fd) :
    FnOk P w K mg base (L2.CX P w) 1 f fd ["value"] (spF ⟨K, ct⟩ 1 F_is_integer) :=
  def_ok2 (k := 0) F sc_is_integer rfl fun cdv A outer s H E B hr tk po cx =>
    (rss_one (rs_ret (r_and (r_cb call_isi ob_isi M.b_isinstance (ra_cons (r_v 0 (pv 0)) (ra_cons (r_ty 0 M.b_int) ra_nil))) (r_one (r_not (r_cb call_isi ob_isi M.b_isinstance (ra_cons (r_v 0 (pv 0)) (ra_cons (r_ty 1 M.b_bool) ra_nil))))))))
theorem sc_is_from : FnScope ["value", "low", "high"] ["value", "low", "high"] (defScope (top 9)) := ⟨rfl, rfl, rfl, by decide +kernel, rfl, by decide +kernel, by decide +kernel⟩
def F_is_from : FM := runDef 3
  ((sRet (eAnd (eCallD 1 F_is_integer (aCons (eV 0) aNil)) (eCh mLe mLe (eV 1) (eV 0) (eV 2)))))
theorem ok_is_from {f : Addr} {fd : FuncData} (M : Facts K mg ct) (c_is_integer : Cal P w K mg base ⟨K, ct⟩ 1 "is_integer" 1 F_is_integer) (F : Fun K "is_from" "is_from" (top 9) f fd) :
    FnOk P w K mg base (L2.CX P w) 2 f fd ["value", "low", "high"] (spF ⟨K, ct⟩ 3 F_is_from) :=
  def_ok2 (k := 1) F sc_is_from rfl fun cdv A outer s H E B hr tk po cx =>
    (rss_one (rs_ret (r_and (r_call c_is_integer hr (by decide) cx (ra_cons (r_v 0 (pv 0)) ra_nil)) (r_one (r_ch op_le o2_le op_le o2_le (r_v 1 (pv 1)) (r_v 0 (pv 0)) (r_v 2 (pv 2)))))))
theorem sc_is_one_of : FnScope ["value", "some"] ["value", "some"] (defScope (top 10)) := ⟨rfl, rfl, rfl, by decide +kernel, rfl, by decide +kernel, by decide +kernel⟩
def F_is_one_of : FM := runDef 2
  ((sRet (eAnd (eCB (m2 mIsi) (aCons (eV 0) (aCons (eK (.ty 2)) aNil))) (eB (mIn false) (eV 0) (eV 1)))))
theorem ok_is_one_of {f : Addr} {fd : FuncData} (M : Facts K mg ct)  (F : Fun K "is_one_of" "is_one_of" (top 10) f fd) :
    FnOk P w K mg base (L2.CX P w) 1 f fd ["value", "some"] (spF ⟨K, ct⟩ 2 F_is_one_of) :=
  def_ok2 (k := 0) F sc_is_one_of rfl fun cdv A outer s H E B hr tk po cx =>
    (rss_one (rs_ret (r_and (r_cb call_isi ob_isi M.b_isinstance (ra_cons (r_v 0 (pv 0)) (ra_cons (r_ty 2 M.b_str) ra_nil))) (r_one (r_cmp (op_inA hr.u65) o2_in (r_v 0 (pv 0)) (r_v 1 (pv 1)) (by rfl))))))
theorem sc_Fleet_init : FnScope ["self", "shape", "ships", "gap", "length"] ["self", "shape", "ships", "gap"] (defScope (inClass (top 11) 0)) := ⟨rfl, rfl, rfl, by decide +kernel, rfl, by decide +kernel, by decide +kernel⟩
def F_Fleet_init : FM := runDef 5
  ((sSeq (sIf (tNot (tE (eCallD 2 F_is_one_of (aCons (eV 1) (aCons (eK (.tup [.str "ring", .str "row"])) aNil)))))
    (sRaise 10 aNil)
    sNil)
    (sSeq (sIf (tOr (tNot (tE (eCB (m2 mIsi) (aCons (eV 2) (aCons (eK (.ty 3)) aNil))))) (tNot (tE (eCh mLe mLe (eK (.int 1)) (eCB (m1 mLen) (aCons (eV 2) aNil)) (eK (.int 2))))))
    (sRaise 11 aNil)
    sNil)
    (sSeq (sIf (tOr (tNot (tE (eCB (m1 mAll) (aCons (eLC (iSeq (eV 2)) [4] (tgN 4) tTrue (eCallD 3 F_is_from (aCons (eV 4) (aCons (eK (.int 1)) (aCons (eK (.int 4)) aNil))))) aNil)))) (tE (eB mGt (eB mIx (eV 2) (eK (.int 0))) (eB mIx (eV 2) (eU mNeg (eK (.int 1)))))))
    (sRaise 11 aNil)
    sNil)
    (sSeq (sIf (tNot (tE (eCallD 3 F_is_from (aCons (eV 3) (aCons (eK (.int 0)) (aCons (eK (.int 1)) aNil))))))
    (sRaise 12 aNil)
    sNil)
    (sSeq (sFldS 0 0 (eV 0) (eV 1))
    (sSeq (sFldS 0 1 (eV 0) (eV 2))
    (sFldS 0 2 (eV 0) (eV 3)))))))))
theorem ok_Fleet_init {f : Addr} {fd : FuncData} (M : Facts K mg ct) (c_is_one_of : Cal P w K mg base ⟨K, ct⟩ 1 "is_one_of" 2 F_is_one_of) (c_is_from : Cal P w K mg base ⟨K, ct⟩ 2 "is_from" 3 F_is_from) (x_BadGap : Xc P w K mg base "BadGap" (ct 12) (flds 12)) (x_BadShape : Xc P w K mg base "BadShape" (ct 10) (flds 10)) (x_BadShips : Xc P w K mg base "BadShips" (ct 11) (flds 11)) (F : Fun K "__init__" "Fleet.__init__" (inClass (top 11) 0) f fd) :
    FnOk P w K mg base (L2.CX P w) 3 f fd ["self", "shape", "ships", "gap"] (spF ⟨K, ct⟩ 4 F_Fleet_init) :=
  def_ok2 (k := 2) F sc_Fleet_init rfl fun cdv A outer s H E B hr tk po cx =>
    (rss_cons (rs_if (rt_not (rt_val (r_call c_is_one_of hr (by decide) cx (ra_cons (r_v 1 (pv 1)) (ra_cons (r_gt M.c_SHAPES) ra_nil)))))
      (rss_one (rs_raise0 x_BadShape (by decide) (hr.mono (by decide)) rfl tk))
      rss_nil)
      (rss_cons (rs_if ((rw_or (rt_not (rt_val (r_cb call_isi ob_isi M.b_isinstance (ra_cons (r_v 2 (pv 2)) (ra_cons (r_ty 3 M.b_tuple) ra_nil))))) (rw_or1 (rt_not (rt_ch op_le o2_le op_le o2_le r_int (r_cb call_lenA ob_len M.b_len (ra_cons (r_v 2 (pv 2)) ra_nil)) r_int))))).pt
      (rss_one (rs_raise0 x_BadShips (by decide) (hr.mono (by decide)) rfl tk))
      rss_nil)
      (rss_cons (rs_if ((rw_or (rt_not (rt_val (r_cb (cr_all rfl) ob_all M.b_all (ra_cons (r_lc sc_Fleet_init.nd (ri_seq (r_v 2 (pv 2))) (blkOk_by (own := [(("length" : Str), 4)]) rfl) (fun _ _ _ _ _ => pg_name (i := 4) sc_Fleet_init.nd rfl (by first | exact Or.inl rfl | exact Or.inr rfl)) (og_n 4) (by decide) (fun _ _ _ _ _ _ => rpt_nil) (fun _ _ _ _ _ _ => (r_call c_is_from hr (by decide) cx_blk (ra_cons (r_v 4 (pv 4)) (ra_cons r_int (ra_cons (r_ci 4 M.c_MOST_LENGTH) ra_nil)))))) ra_nil)))) (rw_or1 (rt_cmp op_gt o2_gt (r_ix (ix_A hr.u1) o2_ix (r_v 2 (pv 2)) r_int) (r_ix (ix_A hr.u1) o2_ix (r_v 2 (pv 2)) (r_neg r_int)) (nomark _))))).pt
      (rss_one (rs_raise0 x_BadShips (by decide) (hr.mono (by decide)) rfl tk))
      rss_nil)
      (rss_cons (rs_if (rt_not (rt_val (r_call c_is_from hr (by decide) cx (ra_cons (r_v 3 (pv 3)) (ra_cons r_int (ra_cons r_int ra_nil))))))
      (rss_one (rs_raise0 x_BadGap (by decide) (hr.mono (by decide)) rfl tk))
      rss_nil)
      (rss_cons (rs_fld 0 0 M.k0 M.n0_form (r_v 0 (pv 0)) (r_v 1 (pv 1)))
      (rss_cons (rs_fld 0 1 M.k0 M.n0_lengths (r_v 0 (pv 0)) (r_v 2 (pv 2)))
      (rss_one (rs_fld 0 2 M.k0 M.n0_room (r_v 0 (pv 0)) (r_v 3 (pv 3))))))))))
theorem sc_Fleet_shape : FnScope ["self"] ["self"] (defScope (inClass (top 11) 1)) := ⟨rfl, rfl, rfl, by decide +kernel, rfl, by decide +kernel, by decide +kernel⟩
def F_Fleet_shape : FM := runDef 1
  ((sRet (eFld 0 0 (eV 0))))
theorem ok_Fleet_shape {f : Addr} {fd : FuncData} (M : Facts K mg ct)  (F : Fun K "shape" "Fleet.shape" (inClass (top 11) 1) f fd) :
    FnOk P w K mg base (L2.CX P w) 1 f fd ["self"] (spF ⟨K, ct⟩ 1 F_Fleet_shape) :=
  def_ok2 (k := 0) F sc_Fleet_shape rfl fun cdv A outer s H E B hr tk po cx =>
    (rss_one (rs_ret (r_fld 0 0 M.k0 M.n0_form (r_v 0 (pv 0)))))
theorem sc_Fleet_ships : FnScope ["self"] ["self"] (defScope (inClass (top 11) 2)) := ⟨rfl, rfl, rfl, by decide +kernel, rfl, by decide +kernel, by decide +kernel⟩
def F_Fleet_ships : FM := runDef 1
  ((sRet (eFld 0 1 (eV 0))))
theorem ok_Fleet_ships {f : Addr} {fd : FuncData} (M : Facts K mg ct)  (F : Fun K "ships" "Fleet.ships" (inClass (top 11) 2) f fd) :
    FnOk P w K mg base (L2.CX P w) 1 f fd ["self"] (spF ⟨K, ct⟩ 1 F_Fleet_ships) :=
  def_ok2 (k := 0) F sc_Fleet_ships rfl fun cdv A outer s H E B hr tk po cx =>
    (rss_one (rs_ret (r_fld 0 1 M.k0 M.n0_lengths (r_v 0 (pv 0)))))
theorem sc_Fleet_gap : FnScope ["self"] ["self"] (defScope (inClass (top 11) 3)) := ⟨rfl, rfl, rfl, by decide +kernel, rfl, by decide +kernel, by decide +kernel⟩
def F_Fleet_gap : FM := runDef 1
  ((sRet (eFld 0 2 (eV 0))))
theorem ok_Fleet_gap {f : Addr} {fd : FuncData} (M : Facts K mg ct)  (F : Fun K "gap" "Fleet.gap" (inClass (top 11) 3) f fd) :
    FnOk P w K mg base (L2.CX P w) 1 f fd ["self"] (spF ⟨K, ct⟩ 1 F_Fleet_gap) :=
  def_ok2 (k := 0) F sc_Fleet_gap rfl fun cdv A outer s H E B hr tk po cx =>
    (rss_one (rs_ret (r_fld 0 2 M.k0 M.n0_room (r_v 0 (pv 0)))))
theorem sc_Fleet_eq : FnScope ["self", "other"] ["self", "other"] (defScope (inClass (top 11) 4)) := ⟨rfl, rfl, rfl, by decide +kernel, rfl, by decide +kernel, by decide +kernel⟩
def F_Fleet_eq : FM := runDef 2
  ((sSeq (sIf (tOr (tNot (tE (eCB (m2 (mIsiO LO)) (aCons (eV 1) (aCons (eK (.cls 0)) aNil))))) (tE (eB mNe (eFld 0 0 (eV 0)) (eFld 0 0 (eV 1)))))
    (sRet (eK (.bl false)))
    sNil)
    (sRet (eAnd (eB mEq (eFld 0 1 (eV 0)) (eFld 0 1 (eV 1))) (eB mEq (eFld 0 2 (eV 0)) (eFld 0 2 (eV 1)))))))
theorem ok_Fleet_eq {f : Addr} {fd : FuncData} (M : Facts K mg ct)  (F : Fun K "__eq__" "Fleet.__eq__" (inClass (top 11) 4) f fd) :
    FnOk P w K mg base (L2.CX P w) 1 f fd ["self", "other"] (spF ⟨K, ct⟩ 2 F_Fleet_eq) :=
  def_ok2 (k := 0) F sc_Fleet_eq rfl fun cdv A outer s H E B hr tk po cx =>
    (rss_cons (rs_if ((rw_or (rt_not (rt_val (r_cb call_isi (ob_isiO M.own) M.b_isinstance (ra_cons (r_v 1 (pv 1)) (ra_cons (r_cl 0 M.g_Fleet) ra_nil))))) (rw_or1 (rt_cmp (op_neD hr.u64) o2_ne (r_fld 0 0 M.k0 M.n0_form (r_v 0 (pv 0))) (r_fld 0 0 M.k0 M.n0_form (r_v 1 (pv 1))) (nomark _))))).pt
      (rss_one (rs_ret r_bl))
      rss_nil)
      (rss_one (rs_ret (r_and (r_cmp (op_eqD hr.u64) o2_eq (r_fld 0 1 M.k0 M.n0_lengths (r_v 0 (pv 0))) (r_fld 0 1 M.k0 M.n0_lengths (r_v 1 (pv 1))) (nomark _)) (r_one (r_cmp (op_eqD hr.u64) o2_eq (r_fld 0 2 M.k0 M.n0_room (r_v 0 (pv 0))) (r_fld 0 2 M.k0 M.n0_room (r_v 1 (pv 1))) (nomark _)))))))
def FE : Nat → Option FM
  | 0 => some F_Fleet_eq
  | _ => none
def FL : Nat → Option FM
  | _ => none
theorem sc__law_pick : FnScope ["_law_row", "_law_many", "_law_cell", "_law_found"] ["_law_row", "_law_many"] (defScope (top 14)) := ⟨rfl, rfl, rfl, by decide +kernel, rfl, by decide +kernel, by decide +kernel⟩
def F__law_pick : FM := runDef 4
  ((sSeq (sIf (tE (eB mEq (eB mIx (eV 0) (eK (.int 2))) (eK (.int 0))))
    (sIf (tE (eB mLt (eB mIx (eV 0) (eK (.int 1))) (eCB (m1 mLen) (aCons (eB mIx (eV 0) (eK (.int 0))) aNil))))
    (sSeq (sSet 2 (eB mIx (eB mIx (eV 0) (eK (.int 0))) (eB mIx (eV 0) (eK (.int 1)))))
    (sSeq (sPutL (eV 0) (eK (.int 1)) (eB mAdd (eB mIx (eV 0) (eK (.int 1))) (eK (.int 1))))
    (sIf (tE (eB mGe (eV 2) (eB mPow (eK (.int 10)) (eK (.int 18)))))
    (sPutL (eV 0) (eK (.int 2)) (eV 2))
    (sPutL (eV 0) (eK (.int 3)) (eB mMod (eCB (m1 mInt) (aCons (eB mAdd (eB mAdd (eB mMul (eB mIx (eV 0) (eK (.int 3))) (eK (.int 48271))) (eB mMul (eV 2) (eK (.int 69621)))) (eK (.int 11))) aNil)) (eK (.int 2147483647)))))))
    (sPutL (eV 0) (eK (.int 3)) (eB mMod (eCB (m1 mInt) (aCons (eB mAdd (eB mMul (eB mIx (eV 0) (eK (.int 3))) (eK (.int 48271))) (eK (.int 7))) aNil)) (eK (.int 2147483647)))))
    sNil)
    (sSeq (sIf (tE (eB mGt (eB mIx (eV 0) (eK (.int 2))) (eK (.int 0))))
    (sSeq (sSet 3 (eB mMod (eCB (m1 mInt) (aCons (eB mIx (eV 0) (eK (.int 2))) aNil)) (eV 1)))
    (sSeq (sPutL (eV 0) (eK (.int 2)) (eB mFdiv (eB mIx (eV 0) (eK (.int 2))) (eV 1)))
    (sRet (eV 3))))
    sNil)
    (sRet (eB mMod (eB mMod (eCB (m1 mInt) (aCons (eB mMul (eB mIx (eV 0) (eK (.int 3))) (eK (.int 16807))) aNil)) (eK (.int 2147483629))) (eV 1))))))
theorem ok__law_pick {f : Addr} {fd : FuncData} (M : Facts K mg ct)  (F : Fun K "_law_pick" "_law_pick" (top 14) f fd) :
    FnOk P w K mg base (L2.CX P w) 1 f fd ["_law_row", "_law_many"] (spF ⟨K, ct⟩ 2 F__law_pick) :=
  def_ok2 (k := 0) F sc__law_pick rfl fun cdv A outer s H E B hr tk po cx =>
    (rss_cons (rs_if (rt_cmp (op_eqD hr.u64) o2_eq (r_ix (ix_A hr.u1) o2_ix (r_v 0 (pv 0)) r_int) r_int (nomark _))
      (rss_one (rs_if (rt_cmp op_lt o2_lt (r_ix (ix_A hr.u1) o2_ix (r_v 0 (pv 0)) r_int) (r_cb call_lenA ob_len M.b_len (ra_cons (r_ix (ix_A hr.u1) o2_ix (r_v 0 (pv 0)) r_int) ra_nil)) (nomark _))
      (rss_cons (rs_set sc__law_pick.nd (r_ix (ix_A hr.u1) o2_ix (r_ix (ix_A hr.u1) o2_ix (r_v 0 (pv 0)) r_int) (r_ix (ix_A hr.u1) o2_ix (r_v 0 (pv 0)) r_int)))
      (rss_cons (rs_putL (r_v 0 (pv 0)) r_int (r_bin op_addA o2_add (r_ix (ix_A hr.u1) o2_ix (r_v 0 (pv 0)) r_int) r_int))
      (rss_one (rs_if (rt_cmp op_ge o2_ge (r_v 2 (pv 2)) (r_pow r_int r_int) (nomark _))
      (rss_one (rs_putL (r_v 0 (pv 0)) r_int (r_v 2 (pv 2))))
      (rss_one (rs_putL (r_v 0 (pv 0)) r_int (r_mod (r_ct call_int1 ob_int M.b_int (ra_cons (r_bin op_addA o2_add (r_bin op_addA o2_add (r_mul (r_ix (ix_A hr.u1) o2_ix (r_v 0 (pv 0)) r_int) r_int) (r_mul (r_v 2 (pv 2)) r_int)) r_int) ra_nil)) r_int)))))))
      (rss_one (rs_putL (r_v 0 (pv 0)) r_int (r_mod (r_ct call_int1 ob_int M.b_int (ra_cons (r_bin op_addA o2_add (r_mul (r_ix (ix_A hr.u1) o2_ix (r_v 0 (pv 0)) r_int) r_int) r_int) ra_nil)) r_int)))))
      rss_nil)
      (rss_cons (rs_if (rt_cmp op_gt o2_gt (r_ix (ix_A hr.u1) o2_ix (r_v 0 (pv 0)) r_int) r_int (nomark _))
      (rss_cons (rs_set sc__law_pick.nd (r_mod (r_ct call_int1 ob_int M.b_int (ra_cons (r_ix (ix_A hr.u1) o2_ix (r_v 0 (pv 0)) r_int) ra_nil)) (r_v 1 (pv 1))))
      (rss_cons (rs_putL (r_v 0 (pv 0)) r_int (r_fdiv (r_ix (ix_A hr.u1) o2_ix (r_v 0 (pv 0)) r_int) (r_v 1 (pv 1))))
      (rss_one (rs_ret (r_v 3 (pv 3))))))
      rss_nil)
      (rss_one (rs_ret (r_mod (r_mod (r_ct call_int1 ob_int M.b_int (ra_cons (r_mul (r_ix (ix_A hr.u1) o2_ix (r_v 0 (pv 0)) r_int) r_int) ra_nil)) r_int) (r_v 1 (pv 1)))))))
theorem sc__law_told : FnScope ["_law_shape", "_law_ships", "_law_gap", "_law_told_here", "e"] ["_law_shape", "_law_ships", "_law_gap"] (defScope (top 15)) := ⟨rfl, rfl, rfl, by decide +kernel, rfl, by decide +kernel, by decide +kernel⟩
def F__law_told : FM := runDef 5
  ((sSeq (sSet 3 (eK .non))
    (sSeq (sTry [10, 11, 12] 4 (sSet 3 (eMakeD 0 3 F_Fleet_init (aCons (eV 0) (aCons (eV 1) (aCons (eV 2) aNil))))) ((fun c => excSub c 10, fun c fs => sSet 3 (eIf (tE (xIs [10, 11, 12] (fun c => excSub c 9) ⟨4, 0, c, fs, none⟩)) (eK (.str "shape")) (eK (.str "another")))) :: ((fun c => excSub c 11, fun c fs => sSet 3 (eIf (tE (xIs [10, 11, 12] (fun c => excSub c 9) ⟨4, 0, c, fs, none⟩)) (eK (.str "ships")) (eK (.str "another")))) :: ((fun c => excSub c 12, fun c fs => sSet 3 (eIf (tE (xIs [10, 11, 12] (fun c => excSub c 9) ⟨4, 0, c, fs, none⟩)) (eK (.str "gap")) (eK (.str "another")))) :: []))))
    (sRet (eV 3)))))
theorem ok__law_told {f : Addr} {fd : FuncData} (M : Facts K mg ct) (m_Fleet : Ma P w K mg base ⟨K, ct⟩ 3 "Fleet" 0 3 F_Fleet_init) (x_BadGap : Xc P w K mg base "BadGap" (ct 12) (flds 12)) (x_BadShape : Xc P w K mg base "BadShape" (ct 10) (flds 10)) (x_BadShips : Xc P w K mg base "BadShips" (ct 11) (flds 11)) (F : Fun K "_law_told" "_law_told" (top 15) f fd) :
    FnOk P w K mg base (L2.CX P w) 5 f fd ["_law_shape", "_law_ships", "_law_gap"] (spF ⟨K, ct⟩ 3 F__law_told) :=
  def_ok2 (k := 4) F sc__law_told rfl fun cdv A outer s H E B hr tk po cx =>
    (rss_cons (rs_set sc__law_told.nd r_non)
      (rss_cons (rs_try (n := "e") (i := 4) (L := [10, 11, 12]) rfl rfl sc__law_told.nd tk (fun Ek pn xe tk po => (rss_one (rs_set sc__law_told.nd (r_makeD m_Fleet hr (by decide) (cx_tr (K := K) tk rfl) (ra_cons (r_v 0 (pv 0)) (ra_cons (r_v 1 (pv 1)) (ra_cons (r_v 2 (pv 2)) ra_nil))))))) (.cons ⟨rfl, by decide, .inl M.g_BadShape⟩ M.e_BadShape (fun a oe c fs d pn hz hf => pss_one (xs_set sc__law_told.nd (x_if (x_val (x_is (ε := ⟨4, a, c, fs, d⟩) (cV := .ref (ct 9)) (L := [10, 11, 12]) (bf := fun c => excSub c 9) hz hf M.eC M.ki_SeaError (fun _ h => h) M.b_isinstance rfl rfl (.inl rfl) (pe_glob rfl M.g_SeaError rfl))) (x_of r_str) (x_of r_str)))) (.cons ⟨rfl, by decide, .inl M.g_BadShips⟩ M.e_BadShips (fun a oe c fs d pn hz hf => pss_one (xs_set sc__law_told.nd (x_if (x_val (x_is (ε := ⟨4, a, c, fs, d⟩) (cV := .ref (ct 9)) (L := [10, 11, 12]) (bf := fun c => excSub c 9) hz hf M.eC M.ki_SeaError (fun _ h => h) M.b_isinstance rfl rfl (.inl rfl) (pe_glob rfl M.g_SeaError rfl))) (x_of r_str) (x_of r_str)))) (.cons ⟨rfl, by decide, .inl M.g_BadGap⟩ M.e_BadGap (fun a oe c fs d pn hz hf => pss_one (xs_set sc__law_told.nd (x_if (x_val (x_is (ε := ⟨4, a, c, fs, d⟩) (cV := .ref (ct 9)) (L := [10, 11, 12]) (bf := fun c => excSub c 9) hz hf M.eC M.ki_SeaError (fun _ h => h) M.b_isinstance rfl rfl (.inl rfl) (pe_glob rfl M.g_SeaError rfl))) (x_of r_str) (x_of r_str)))) .nil))))
      (rss_one (rs_ret (r_v 3 (pv 3))))))
theorem sc__law_int : FnScope ["_law_value", "_law_low", "_law_high"] ["_law_value", "_law_low", "_law_high"] (defScope (top 16)) := ⟨rfl, rfl, rfl, by decide +kernel, rfl, by decide +kernel, by decide +kernel⟩
def F__law_int : FM := runDef 3
  ((sRet (eAnd (eCB (m2 mIsi) (aCons (eV 0) (aCons (eK (.ty 0)) aNil))) (eAnd (eNot (eCB (m2 mIsi) (aCons (eV 0) (aCons (eK (.ty 1)) aNil)))) (eCh mLe mLe (eV 1) (eV 0) (eV 2))))))
theorem ok__law_int {f : Addr} {fd : FuncData} (M : Facts K mg ct)  (F : Fun K "_law_int" "_law_int" (top 16) f fd) :
    FnOk P w K mg base (L2.CX P w) 1 f fd ["_law_value", "_law_low", "_law_high"] (spF ⟨K, ct⟩ 3 F__law_int) :=
  def_ok2 (k := 0) F sc__law_int rfl fun cdv A outer s H E B hr tk po cx =>
    (rss_one (rs_ret (r_and (r_cb call_isi ob_isi M.b_isinstance (ra_cons (r_v 0 (pv 0)) (ra_cons (r_ty 0 M.b_int) ra_nil))) (r_and (r_not (r_cb call_isi ob_isi M.b_isinstance (ra_cons (r_v 0 (pv 0)) (ra_cons (r_ty 1 M.b_bool) ra_nil)))) (r_one (r_ch op_le o2_le op_le o2_le (r_v 1 (pv 1)) (r_v 0 (pv 0)) (r_v 2 (pv 2))))))))
theorem sc__law_due : FnScope ["_law_shape", "_law_ships", "_law_gap", "_law_one"] ["_law_shape", "_law_ships", "_law_gap"] (defScope (top 17)) := ⟨rfl, rfl, rfl, by decide +kernel, rfl, by decide +kernel, by decide +kernel⟩
def F__law_due : FM := runDef 4
  ((sSeq (sIf (tOr (tNot (tE (eCB (m2 mIsi) (aCons (eV 0) (aCons (eK (.ty 2)) aNil))))) (tE (eB (mIn true) (eV 0) (eLst (aCons (eK (.str "row")) (aCons (eK (.str "ring")) aNil))))))
    (sRet (eK (.str "shape")))
    sNil)
    (sSeq (sIf (tOr (tNot (tE (eCB (m2 mIsi) (aCons (eV 1) (aCons (eK (.ty 3)) aNil))))) (tNot (tE (eCh mLe mLe (eK (.int 1)) (eCB (m1 mLen) (aCons (eV 1) aNil)) (eK (.int 2))))))
    (sRet (eK (.str "ships")))
    sNil)
    (sSeq (sIf (tOr (tE (eB mNe (eLC (iSeq (eV 1)) [3] (tgN 3) (tNot (tE (eCallD 3 F__law_int (aCons (eV 3) (aCons (eK (.int 1)) (aCons (eK (.int 4)) aNil)))))) (eV 3)) (eLst aNil))) (tE (eB mGt (eB mIx (eV 1) (eK (.int 0))) (eB mIx (eV 1) (eU mNeg (eK (.int 1)))))))
    (sRet (eK (.str "ships")))
    sNil)
    (sRet (eIf (tE (eCallD 3 F__law_int (aCons (eV 2) (aCons (eK (.int 0)) (aCons (eK (.int 1)) aNil))))) (eK .non) (eK (.str "gap"))))))))
theorem ok__law_due {f : Addr} {fd : FuncData} (M : Facts K mg ct) (c__law_int : Cal P w K mg base ⟨K, ct⟩ 1 "_law_int" 3 F__law_int) (F : Fun K "_law_due" "_law_due" (top 17) f fd) :
    FnOk P w K mg base (L2.CX P w) 2 f fd ["_law_shape", "_law_ships", "_law_gap"] (spF ⟨K, ct⟩ 3 F__law_due) :=
  def_ok2 (k := 1) F sc__law_due rfl fun cdv A outer s H E B hr tk po cx =>
    (rss_cons (rs_if ((rw_or (rt_not (rt_val (r_cb call_isi ob_isi M.b_isinstance (ra_cons (r_v 0 (pv 0)) (ra_cons (r_ty 2 M.b_str) ra_nil))))) (rw_or1 (rt_cmp (op_ninA hr.u65) o2_nin (r_v 0 (pv 0)) (r_lst (ra_cons r_str (ra_cons r_str ra_nil))) (by rfl))))).pt
      (rss_one (rs_ret r_str))
      rss_nil)
      (rss_cons (rs_if ((rw_or (rt_not (rt_val (r_cb call_isi ob_isi M.b_isinstance (ra_cons (r_v 1 (pv 1)) (ra_cons (r_ty 3 M.b_tuple) ra_nil))))) (rw_or1 (rt_not (rt_ch op_le o2_le op_le o2_le r_int (r_cb call_lenA ob_len M.b_len (ra_cons (r_v 1 (pv 1)) ra_nil)) r_int))))).pt
      (rss_one (rs_ret r_str))
      rss_nil)
      (rss_cons (rs_if ((rw_or (rt_cmp (op_neD hr.u64) o2_ne (r_lc sc__law_due.nd (ri_seq (r_v 1 (pv 1))) (blkOk_by (own := [(("_law_one" : Str), 3)]) rfl) (fun _ _ _ _ _ => pg_name (i := 3) sc__law_due.nd rfl (by first | exact Or.inl rfl | exact Or.inr rfl)) (og_n 3) (by decide) (fun _ _ _ _ _ _ => (rpt_one (rt_not (rt_val (r_call c__law_int hr (by decide) cx_blk (ra_cons (r_v 3 (pv 3)) (ra_cons r_int (ra_cons r_int ra_nil)))))))) (fun _ _ _ _ _ _ => (r_v 3 (pv 3)))) (r_lst ra_nil) (nomark _)) (rw_or1 (rt_cmp op_gt o2_gt (r_ix (ix_A hr.u1) o2_ix (r_v 1 (pv 1)) r_int) (r_ix (ix_A hr.u1) o2_ix (r_v 1 (pv 1)) (r_neg r_int)) (nomark _))))).pt
      (rss_one (rs_ret r_str))
      rss_nil)
      (rss_one (rs_ret (r_if (rt_val (r_call c__law_int hr (by decide) cx (ra_cons (r_v 2 (pv 2)) (ra_cons r_int (ra_cons r_int ra_nil))))) r_non r_str))))))
theorem sc_law : FnScope ["_law_script", "_law_row", "_law_shapes", "_law_gaps", "_law_ships", "_law_before", "_law_turn", "_law_shape", "_law_some", "_law_gap", "_law_told_here", "_law_due_here", "_law_one", "_law_mark"] ["_law_script"] (defScope (top 18)) := ⟨rfl, rfl, rfl, by decide +kernel, rfl, by decide +kernel, by decide +kernel⟩
def L_law : SM := (sSeq (sPar [2, 3] (aCons (eLst (aCons (eK (.str "row")) (aCons (eK (.str "ring")) (aCons (eK (.str "rows")) (aCons (eK (.str "")) (aCons (eK .non) (aCons (eTup (aCons (eK (.str "row")) aNil)) (aCons (eK (.int 1)) aNil)))))))) (aCons (eLst (aCons (eK (.int 0)) (aCons (eK (.int 1)) (aCons (eK (.int 2)) (aCons (eU mNeg (eK (.int 1))) (aCons (eK (.bl true)) (aCons (eK .non) (aCons (eK (.str "1")) aNil)))))))) aNil)))
    (sSeq (sSet 4 (eLst (aCons (eTup (aCons (eK (.int 1)) aNil)) (aCons (eTup (aCons (eK (.int 4)) aNil)) (aCons (eTup (aCons (eK (.int 1)) (aCons (eK (.int 2)) aNil))) (aCons (eTup (aCons (eK (.int 3)) (aCons (eK (.int 3)) aNil))) (aCons (eTup (aCons (eK (.int 2)) (aCons (eK (.int 4)) aNil))) (aCons (eTup aNil) (aCons (eTup (aCons (eK (.int 1)) (aCons (eK (.int 2)) (aCons (eK (.int 3)) aNil)))) (aCons (eTup (aCons (eK (.int 2)) (aCons (eK (.int 1)) aNil))) (aCons (eTup (aCons (eK (.int 0)) aNil)) (aCons (eTup (aCons (eK (.int 5)) aNil)) (aCons (eTup (aCons (eK (.bl true)) aNil)) (aCons (eLst (aCons (eK (.int 1)) aNil)) aNil))))))))))))))
    (sSeq (sSet 4 (eB mAdd (eV 4) (eLst (aCons (eK .non) (aCons (eTup (aCons (eK (.str "1")) aNil)) (aCons (eK (.int 1)) (aCons (eTup (aCons (eK (.int 1)) (aCons (eK .non) aNil))) aNil)))))))
    (sSeq (sSet 5 (eLstH aNil))
    (sSeq (sFor (iRg1 (aCons (eK (.int 16)) aNil)) (tgN 6) (sSeq (sUnp [7, 8, 9] (eTup (aCons (eB mIx (eV 2) (eCallZ 2 F__law_pick (aCons (eV 1) (aCons (eK (.int 7)) aNil)))) (aCons (eB mIx (eV 4) (eCallZ 2 F__law_pick (aCons (eV 1) (aCons (eK (.int 16)) aNil)))) (aCons (eB mIx (eV 3) (eCallZ 2 F__law_pick (aCons (eV 1) (aCons (eK (.int 7)) aNil)))) aNil)))))
    (sSeq (sIf (tE (eB mEq (eCallZ 2 F__law_pick (aCons (eV 1) (aCons (eK (.int 2)) aNil))) (eK (.int 0))))
    (sUnp [7, 9] (eTup (aCons (eB mIx (eV 2) (eCallZ 2 F__law_pick (aCons (eV 1) (aCons (eK (.int 2)) aNil)))) (aCons (eB mIx (eV 3) (eCallZ 2 F__law_pick (aCons (eV 1) (aCons (eK (.int 2)) aNil)))) aNil))))
    sNil)
    (sSeq (sUnp [10, 11] (eTup (aCons (eCallD 3 F__law_told (aCons (eV 7) (aCons (eV 8) (aCons (eV 9) aNil)))) (aCons (eCallD 3 F__law_due (aCons (eV 7) (aCons (eV 8) (aCons (eV 9) aNil)))) aNil))))
    (sSeq (sIf (tOr (tAnd (tE (eB mNotN (eV 11) (eK .non))) (tE (eB mNe (eV 10) (eV 11)))) (tAnd (tE (eB mIsN (eV 11) (eK .non))) (tE (eCB (m2 (mIsiO LO)) (aCons (eV 10) (aCons (eK (.ty 2)) aNil))))))
    (sRet (eK (.bl false)))
    sNil)
    (sIf (tE (eB mIsN (eV 11) (eK .non)))
    (sSeq (sIf (tOr (tE (eB mNe (eLst (aCons (eProp 0 F_Fleet_shape (eV 10)) (aCons (eProp 0 F_Fleet_ships (eV 10)) (aCons (eProp 0 F_Fleet_gap (eV 10)) aNil)))) (eLst (aCons (eV 7) (aCons (eV 8) (aCons (eV 9) aNil)))))) (tE (eB (mEqO LO FE false) (eV 10) (eV 8))))
    (sRet (eK (.bl false)))
    sNil)
    (sSeq (sIf (tE (eB mNe (eLCH 5000 (eV 5) [12, 13] (tgU [12, 13]) (tE (eB mNe (eB (mEqO LO FE false) (eV 12) (eV 10)) (eB (mEqO LO FE false) (eV 13) (eLst (aCons (eV 7) (aCons (eV 8) (aCons (eV 9) aNil))))))) (eV 12)) (eLst aNil)))
    (sRet (eK (.bl false)))
    sNil)
    (sExpr (eMut mmApp (eV 5) (aCons (eTup (aCons (eV 10) (aCons (eLst (aCons (eV 7) (aCons (eV 8) (aCons (eV 9) aNil)))) aNil))) aNil)))))
    sNil))))))
    (sRet (eK (.bl true))))))))
theorem ok_law {f : Addr} {fd : FuncData} (M : Facts K mg ct) (c__law_pick : Cal P w K mg base ⟨K, ct⟩ 1 "_law_pick" 2 F__law_pick) (c__law_due : Cal P w K mg base ⟨K, ct⟩ 2 "_law_due" 3 F__law_due) (c__law_told : Cal P w K mg base ⟨K, ct⟩ 5 "_law_told" 3 F__law_told) (p_Fleet_gap : Prp P w K mg base ⟨K, ct⟩ 1 0 "gap" F_Fleet_gap) (p_Fleet_ships : Prp P w K mg base ⟨K, ct⟩ 1 0 "ships" F_Fleet_ships) (p_Fleet_shape : Prp P w K mg base ⟨K, ct⟩ 1 0 "shape" F_Fleet_shape) (OM : OwnM P w K mg base ⟨K, ct⟩ 1 LO FE FL) (F : Fun K "law" "law" (top 18) f fd)
    (dr : ∃ (f' : Addr) (fd' : FuncData), mg "_law_draws" = some (.ref f') ∧ PySem.W.keepIn K (.ref f') = true ∧ Binds K fd' ["_law_script"] [] ∧ FnOk P w K mg base (L2.CX P w) 1 f' fd' ["_law_script"] (spDraw K))
    (hsem : ∀ ns : List Int, ns.length ≤ 63 → ∃ own', L_law (lawSl 14) (lawRow ns) = some (.rt (.d (.bl true)) own')) :
    FnOk P w K mg base (L2.CX P w) 6 f fd ["_law_script"] (spLaw K) :=
  law_of2 (ct := ct) (k := 5) (Lr := L_law) F sc_law (by decide) rfl rfl rfl rfl rfl dr rfl (fun _ => rfl) (fun cdv A outer s H E B hr tk po cx =>
    (rss_cons (rs_par sc_law.nd (ra_cons (r_lst (ra_cons r_str (ra_cons r_str (ra_cons r_str (ra_cons r_str (ra_cons r_non (ra_cons (r_tup (ra_cons r_str ra_nil)) (ra_cons r_int ra_nil)))))))) (ra_cons (r_lst (ra_cons r_int (ra_cons r_int (ra_cons r_int (ra_cons (r_neg r_int) (ra_cons r_bl (ra_cons r_non (ra_cons r_str ra_nil)))))))) ra_nil)))
      (rss_cons (rs_set sc_law.nd (r_lst (ra_cons (r_tup (ra_cons r_int ra_nil)) (ra_cons (r_tup (ra_cons r_int ra_nil)) (ra_cons (r_tup (ra_cons r_int (ra_cons r_int ra_nil))) (ra_cons (r_tup (ra_cons r_int (ra_cons r_int ra_nil))) (ra_cons (r_tup (ra_cons r_int (ra_cons r_int ra_nil))) (ra_cons (r_tup ra_nil) (ra_cons (r_tup (ra_cons r_int (ra_cons r_int (ra_cons r_int ra_nil)))) (ra_cons (r_tup (ra_cons r_int (ra_cons r_int ra_nil))) (ra_cons (r_tup (ra_cons r_int ra_nil)) (ra_cons (r_tup (ra_cons r_int ra_nil)) (ra_cons (r_tup (ra_cons r_bl ra_nil)) (ra_cons (r_lst (ra_cons r_int ra_nil)) ra_nil))))))))))))))
      (rss_cons (rs_set sc_law.nd (r_bin op_addA o2_add (r_v 4 (pv 4)) (r_lst (ra_cons r_non (ra_cons (r_tup (ra_cons r_str ra_nil)) (ra_cons r_int (ra_cons (r_tup (ra_cons r_int (ra_cons r_non ra_nil))) ra_nil)))))))
      (rss_cons (rs_set sc_law.nd (r_lstH ra_nil))
      (rss_cons (rs_for po (ri_rg1 M.b_range (ra_cons r_int ra_nil)) (pg_name (i := 6) sc_law.nd rfl (by first | exact Or.inl rfl | exact Or.inr rfl)) (og_n 6) (rss_cons (rs_unp (r_tup (ra_cons (r_ix (ix_A hr.u1) o2_ix (r_v 2 (pv 2)) (r_callZ c__law_pick hr (by decide) cx (ra_cons (r_v 1 (pv 1)) (ra_cons r_int ra_nil)))) (ra_cons (r_ix (ix_A hr.u1) o2_ix (r_v 4 (pv 4)) (r_callZ c__law_pick hr (by decide) cx (ra_cons (r_v 1 (pv 1)) (ra_cons r_int ra_nil)))) (ra_cons (r_ix (ix_A hr.u1) o2_ix (r_v 3 (pv 3)) (r_callZ c__law_pick hr (by decide) cx (ra_cons (r_v 1 (pv 1)) (ra_cons r_int ra_nil)))) ra_nil)))) (pgs_cons (pg_name (i := 7) sc_law.nd rfl (by first | exact Or.inl rfl | exact Or.inr rfl)) (pgs_cons (pg_name (i := 8) sc_law.nd rfl (by first | exact Or.inl rfl | exact Or.inr rfl)) (pgs_cons (pg_name (i := 9) sc_law.nd rfl (by first | exact Or.inl rfl | exact Or.inr rfl)) pgs_nil))) rfl)
      (rss_cons (rs_if (rt_cmp (op_eqD hr.u64) o2_eq (r_callZ c__law_pick hr (by decide) cx (ra_cons (r_v 1 (pv 1)) (ra_cons r_int ra_nil))) r_int (nomark _))
      (rss_one (rs_unp (r_tup (ra_cons (r_ix (ix_A hr.u1) o2_ix (r_v 2 (pv 2)) (r_callZ c__law_pick hr (by decide) cx (ra_cons (r_v 1 (pv 1)) (ra_cons r_int ra_nil)))) (ra_cons (r_ix (ix_A hr.u1) o2_ix (r_v 3 (pv 3)) (r_callZ c__law_pick hr (by decide) cx (ra_cons (r_v 1 (pv 1)) (ra_cons r_int ra_nil)))) ra_nil))) (pgs_cons (pg_name (i := 7) sc_law.nd rfl (by first | exact Or.inl rfl | exact Or.inr rfl)) (pgs_cons (pg_name (i := 9) sc_law.nd rfl (by first | exact Or.inl rfl | exact Or.inr rfl)) pgs_nil)) rfl))
      rss_nil)
      (rss_cons (rs_unp (r_tup (ra_cons (r_call c__law_told hr (by decide) cx (ra_cons (r_v 7 (pv 7)) (ra_cons (r_v 8 (pv 8)) (ra_cons (r_v 9 (pv 9)) ra_nil)))) (ra_cons (r_call c__law_due hr (by decide) cx (ra_cons (r_v 7 (pv 7)) (ra_cons (r_v 8 (pv 8)) (ra_cons (r_v 9 (pv 9)) ra_nil)))) ra_nil))) (pgs_cons (pg_name (i := 10) sc_law.nd rfl (by first | exact Or.inl rfl | exact Or.inr rfl)) (pgs_cons (pg_name (i := 11) sc_law.nd rfl (by first | exact Or.inl rfl | exact Or.inr rfl)) pgs_nil)) rfl)
      (rss_cons (rs_if ((rw_or ((rw_and (rt_cmp op_notN o2_notN (r_v 11 (pv 11)) r_non (nomark _)) (rw_and1 (rt_cmp (op_neD hr.u64) o2_ne (r_v 10 (pv 10)) (r_v 11 (pv 11)) (nomark _))))).pt (rw_or1 ((rw_and (rt_cmp op_isN o2_isN (r_v 11 (pv 11)) r_non (nomark _)) (rw_and1 (rt_val (r_cb call_isi (ob_isiO M.own) M.b_isinstance (ra_cons (r_v 10 (pv 10)) (ra_cons (r_ty 2 M.b_str) ra_nil))))))).pt))).pt
      (rss_one (rs_ret r_bl))
      rss_nil)
      (rss_one (rs_if (rt_cmp op_isN o2_isN (r_v 11 (pv 11)) r_non (nomark _))
      (rss_cons (rs_if ((rw_or (rt_cmp (op_neD hr.u64) o2_ne (r_lst (ra_cons (r_prop p_Fleet_shape hr (by decide) (r_v 10 (pv 10))) (ra_cons (r_prop p_Fleet_ships hr (by decide) (r_v 10 (pv 10))) (ra_cons (r_prop p_Fleet_gap hr (by decide) (r_v 10 (pv 10))) ra_nil)))) (r_lst (ra_cons (r_v 7 (pv 7)) (ra_cons (r_v 8 (pv 8)) (ra_cons (r_v 9 (pv 9)) ra_nil)))) (nomark _)) (rw_or1 (rt_cmp (op_eqOA (k := 1) (FE := FE) hr (by decide)) (o2_eqO OM) (r_v 10 (pv 10)) (r_v 8 (pv 8)) (nomark _))))).pt
      (rss_one (rs_ret r_bl))
      rss_nil)
      (rss_cons (rs_if (rt_cmp (op_neD hr.u64) o2_ne (r_lcH 5000 sc_law.nd (r_v 5 (pv 5)) (blkOk_by (own := [(("_law_one" : Str), 12), (("_law_mark" : Str), 13)]) rfl) (fun _ _ _ _ _ => pg_tup rfl (pgs_cons (pg_name (i := 12) sc_law.nd rfl (by first | exact Or.inl rfl | exact Or.inr rfl)) (pgs_cons (pg_name (i := 13) sc_law.nd rfl (by first | exact Or.inl rfl | exact Or.inr rfl)) pgs_nil))) (og_u [12, 13]) (by decide) (fun _ _ _ _ _ _ => (rpt_one (rt_cmp (op_neD hr.u64) o2_ne (r_cmp (op_eqOA (k := 1) (FE := FE) hr (by decide)) (o2_eqO OM) (r_v 12 (pv 12)) (r_v 10 (pv 10)) (nomark _)) (r_cmp (op_eqOA (k := 1) (FE := FE) hr (by decide)) (o2_eqO OM) (r_v 13 (pv 13)) (r_lst (ra_cons (r_v 7 (pv 7)) (ra_cons (r_v 8 (pv 8)) (ra_cons (r_v 9 (pv 9)) ra_nil)))) (nomark _)) (nomark _)))) (fun _ _ _ _ _ _ => (r_v 12 (pv 12)))) (r_lst ra_nil) (nomark _))
      (rss_one (rs_ret r_bl))
      rss_nil)
      (rss_one (rs_expr (r_mut PySem.F.slot_list_append PySem.F.type_list_append mt_append om_app (r_v 5 (pv 5)) (ra_cons (r_tup (ra_cons (r_v 10 (pv 10)) (ra_cons (r_lst (ra_cons (r_v 7 (pv 7)) (ra_cons (r_v 8 (pv 8)) (ra_cons (r_v 9 (pv 9)) ra_nil)))) ra_nil))) ra_nil))))))
      rss_nil)))))))
      (rss_one (rs_ret r_bl)))))))) hsem
end
end K01
end T_M01a
section T_GxS
set_option Elab.async false
set_option linter.all false
set_option maxRecDepth 100000
set_option maxHeartbeats 4000000
namespace Gx
open PySem

/-! ## the readings' equations, for simp -/
section
variable {α β : Type} {f g : EM} {t u : TM} {a : AM} {p q : SM} {sd : Sl} {own : Own} {n i c j : Nat} {d : D} {m : Own → SV → SV → Option D} {m' : Own → SV → SV → Option D} {Ff : FM}
@[simp] theorem s_bind_ok {f : M α} {k : α → M β} {x : α} {o1 : Own} (h : f sd own = some (.ok x, o1)) : M.bind f k sd own = k x sd o1 := by unfold M.bind; rw [h]
@[simp] theorem s_Mbind {f : M α} {k : α → M β} : M.bind f k sd own = (match f sd own with | some (.ok x, o1) => k x sd o1 | some (.ex c fs, o1) => some (.ex c fs, o1) | none => none) := rfl
@[simp] theorem s_Sbind {f : M α} {k : α → SM} : SM.bind f k sd own = (match f sd own with | some (.ok x, o1) => k x sd o1 | some (.ex c fs, o1) => some (.ex c fs sd o1) | none => none) := rfl
@[simp] theorem s_ret {x : α} : (M.ret x : M α) sd own = some (.ok x, own) := rfl
@[simp] theorem s_ask {h : Own → Option α} : (M.ask h : M α) sd own = (match h own with | some x => some (.ok x, own) | none => none) := rfl
@[simp] theorem s_fail : (M.fail : M α) sd own = none := rfl
@[simp] theorem s_eV : eV i sd own = (match sd[i]? with | some (some s) => some (.ok s, own) | _ => none) := rfl
@[simp] theorem s_eK : eK d sd own = some (.ok (.d d), own) := rfl
@[simp] theorem s_eB : eB m f g sd own = M.bind f (fun x => g.bind fun y => M.ask fun own => (m own x y).map SV.d) sd own := rfl
@[simp] theorem s_eU {m : Own → SV → Option D} : eU m f sd own = M.bind f (fun x => M.ask fun own => (m own x).map SV.d) sd own := rfl
@[simp] theorem s_eCh {h : EM} : eCh m m' f g h sd own = M.bind f (fun x => g.bind fun y => (M.ask fun own => m own x y).bind fun z => match z with
  | .bl true => h.bind fun w => M.ask fun own => (m' own y w).map SV.d
  | .bl false => M.ret (.d (.bl false))
  | _ => M.fail) sd own := rfl
@[simp] theorem s_eIf : eIf t f g sd own = M.bind t (fun b => match b with | true => f | false => g) sd own := rfl
@[simp] theorem s_tE : tE f sd own = M.bind f (fun x => match x with | .d (.bl b) => M.ret b | _ => M.fail) sd own := rfl
@[simp] theorem s_aNil : aNil sd own = some (.ok [], own) := rfl
@[simp] theorem s_aCons : aCons f a sd own = M.bind f (fun x => a.bind fun xs => M.ret (x :: xs)) sd own := rfl
@[simp] theorem s_eTup : eTup a sd own = M.bind a (fun xs => M.ask fun _ => (dats xs).bind fun ds => if ds.length ≤ sizeLine then some (.d (.tup ds)) else none) sd own := rfl
@[simp] theorem s_eLst : eLst a sd own = M.bind a (fun xs => M.ask fun _ => (dats xs).bind fun ds => if ds.length ≤ sizeLine then some (.d (.lst ds)) else none) sd own := rfl
@[simp] theorem s_eCB {m : Own → List SV → Option SV} : eCB m a sd own = M.bind a (fun xs => M.ask fun own => m own xs) sd own := rfl
@[simp] theorem s_m1 {m : Own → SV → Option D} {x : SV} : m1 m own [x] = (m own x).map SV.d := rfl
@[simp] theorem s_m2 {x y : SV} : m2 m own [x, y] = (m own x y).map SV.d := rfl
@[simp] theorem s_dats0 : dats [] = some [] := rfl
@[simp] theorem s_dats {r : List SV} : dats (.d d :: r) = (dats r).map (d :: ·) := rfl
@[simp] theorem s_sNil : sNil sd own = some (.nx sd own) := rfl
@[simp] theorem s_sSeq : sSeq p q sd own = (match p sd own with | some (.nx sd' own') => q sd' own' | r => r) := rfl
@[simp] theorem s_sExpr : sExpr f sd own = SM.bind f (fun _ => sNil) sd own := rfl
@[simp] theorem s_sRet : sRet f sd own = SM.bind f (fun x => fun _ own => some (.rt x own)) sd own := rfl
@[simp] theorem s_sRetN : sRetN sd own = some (.rt (.d .non) own) := rfl
@[simp] theorem s_sIf : sIf t p q sd own = SM.bind t (fun b => match b with | true => p | false => q) sd own := rfl
@[simp] theorem s_sSet : sSet i f sd own = SM.bind f (fun x => fun sd own => some (.nx (sd.set i (some x)) own)) sd own := rfl
@[simp] theorem s_sPar {is : List Nat} : sPar is a sd own = SM.bind a (fun xs => fun sd own => (setL is xs sd).map fun sd' => .nx sd' own) sd own := rfl
@[simp] theorem s_setL0 : setL [] [] sd = some sd := rfl
@[simp] theorem s_setL {is : List Nat} {x : SV} {xs : List SV} : setL (i :: is) (x :: xs) sd = setL is xs (sd.set i (some x)) := rfl
@[simp] theorem s_sPutL {o i v : EM} : sPutL o i v sd own = SM.bind v (fun x => SM.bind o fun a => SM.bind i fun b => fun sd own => match x with | .d d => (setIx own a b d).map fun own' => .nx sd own' | _ => none) sd own := rfl
@[simp] theorem s_sFor {src : IM} {tg : GM} : sFor src tg p sd own = SM.bind src (fun xs => forL tg p xs) sd own := rfl
@[simp] theorem s_eCallD : eCallD n Ff a sd own = M.bind a (fun xs => callD n Ff xs) sd own := rfl
@[simp] theorem s_eCallZ : eCallZ n Ff a sd own = M.bind a (fun xs => callZ n Ff xs) sd own := rfl
@[simp] theorem s_eCallH : eCallH n Ff a sd own = M.bind a (fun xs => callH n Ff xs) sd own := rfl
@[simp] theorem s_eMakeD : eMakeD c n Ff a sd own = M.bind a (fun xs => makeD c n Ff xs) sd own := rfl
@[simp] theorem s_iSeq : iSeq f sd own = M.bind f (fun x => match x with | .d (.lst xs) => M.ret xs | .d (.tup xs) => M.ret xs | _ => M.fail) sd own := rfl
@[simp] theorem s_iEnum : iEnum f sd own = M.bind f (fun x => match x with | .d (.lst xs) => M.ret (enumD xs) | .d (.tup xs) => M.ret (enumD xs) | _ => M.fail) sd own := rfl
@[simp] theorem s_sRaise : sRaise c a sd own = SM.bind a (fun xs => fun sd own => (fldR c xs).map fun ds => .ex c ds sd own) sd own := rfl
@[simp] theorem s_eFld : eFld c i f sd own = M.bind f (fun x => M.ask fun own => match x with
  | .d (.obj c' vs) => if c' = c then (vs[i]?).map SV.d else none
  | .h k => match own[k]? with
    | some (.ins c' vs) => if c' = c then vs[i]? else none
    | _ => none
  | _ => none) sd own := rfl
@[simp] theorem s_tgN : tgN i d sd = some (sd.set i (some (.d d))) := rfl
@[simp] theorem s_tgU {is : List Nat} {ds : List D} : tgU is (.tup ds) sd = setL is (ds.map SV.d) sd := rfl
@[simp] theorem s_eAnd : eAnd f g sd own = M.bind f (fun x => match x with | .d (.bl true) => g | .d (.bl false) => M.ret (.d (.bl false)) | _ => M.fail) sd own := rfl
@[simp] theorem s_eOr : eOr f g sd own = M.bind f (fun x => match x with | .d (.bl false) => g | .d (.bl true) => M.ret (.d (.bl true)) | _ => M.fail) sd own := rfl
@[simp] theorem s_eNot : eNot f sd own = M.bind f (fun x => match x with | .d (.bl b) => M.ret (.d (.bl (!b))) | _ => M.fail) sd own := rfl
@[simp] theorem s_tAnd : tAnd t u sd own = M.bind t (fun b => match b with | true => u | false => M.ret false) sd own := rfl
@[simp] theorem s_tOr : tOr t u sd own = M.bind t (fun b => match b with | true => M.ret true | false => u) sd own := rfl
@[simp] theorem s_tNot : tNot t sd own = M.bind t (fun b => M.ret (!b)) sd own := rfl
/-! ### operators -/
variable {k : Nat} {xs ys : List D} {x y : Int}
@[simp] theorem o_eq : mEq own (.d (.int x)) (.d (.int y)) = some (.bl (x == y)) := rfl
@[simp] theorem o_ne : mNe own (.d (.int x)) (.d (.int y)) = some (.bl (!(x == y))) := rfl
@[simp] theorem o_lt : mLt own (.d (.int x)) (.d (.int y)) = some (.bl (decide (x < y))) := rfl
@[simp] theorem o_le : mLe own (.d (.int x)) (.d (.int y)) = some (.bl (decide (x ≤ y))) := rfl
@[simp] theorem o_gt : mGt own (.d (.int x)) (.d (.int y)) = some (.bl (decide (y < x))) := rfl
@[simp] theorem o_ge : mGe own (.d (.int x)) (.d (.int y)) = some (.bl (decide (y ≤ x))) := rfl
@[simp] theorem o_add : mAdd own (.d (.int x)) (.d (.int y)) = some (.int (x + y)) := rfl
@[simp] theorem o_sub : mSub own (.d (.int x)) (.d (.int y)) = some (.int (x - y)) := rfl
@[simp] theorem o_int : mInt own (.d (.int x)) = some (.int x) := rfl
@[simp] theorem o_neg : mNeg own (.d (.int x)) = some (.int (-x)) := rfl
theorem o_mod (h : 0 < y) : mMod own (.d (.int x)) (.d (.int y)) = some (.int (x % y)) := by
  show (if decide (0 < y) = true then some (D.int (x % y)) else none) = _
  rw [if_pos (decide_eq_true h)]
theorem o_fdiv (h : 0 < y) (h2 : y < 1073741824) : mFdiv own (.d (.int x)) (.d (.int y)) = some (.int (x / y)) := by
  show (if decide (0 < y ∧ y < 1073741824) = true then some (D.int (x / y)) else none) = _
  rw [if_pos (decide_eq_true ⟨h, h2⟩)]
theorem o_mulr (h : -(2 ^ 64) < y) (h2 : y < 2 ^ 64) : mMul own (.d (.int x)) (.d (.int y)) = some (.int (x * y)) := by
  show (if decide ((-(2 ^ 64) < x ∧ x < 2 ^ 64) ∨ (-(2 ^ 64) < y ∧ y < 2 ^ 64)) = true then some (D.int (x * y)) else none) = _
  rw [if_pos (decide_eq_true (.inr ⟨h, h2⟩))]
theorem o_mull (h : -(2 ^ 64) < x) (h2 : x < 2 ^ 64) : mMul own (.d (.int x)) (.d (.int y)) = some (.int (x * y)) := by
  show (if decide ((-(2 ^ 64) < x ∧ x < 2 ^ 64) ∨ (-(2 ^ 64) < y ∧ y < 2 ^ 64)) = true then some (D.int (x * y)) else none) = _
  rw [if_pos (decide_eq_true (.inl ⟨h, h2⟩))]
@[simp] theorem o_ixl : mIx own (.d (.lst xs)) (.d (.int x)) = L2.atI xs x := rfl
@[simp] theorem o_ixt : mIx own (.d (.tup xs)) (.d (.int x)) = L2.atI xs x := rfl
theorem o_ixh (h : own[k]? = some (.lst xs)) : mIx own (.h k) (.d (.int x)) = L2.atI xs x := by
  simp [mIx, dicV, seqV, h]
@[simp] theorem o_lenl : mLen own (.d (.lst xs)) = some (.int xs.length) := rfl
@[simp] theorem o_lent : mLen own (.d (.tup xs)) = some (.int xs.length) := rfl
theorem o_lenh (h : own[k]? = some (.lst xs)) : mLen own (.h k) = some (.int xs.length) := by
  simp [mLen, dicV, seqV, h]
@[simp] theorem o_tup : mTupC own (.d (.lst xs)) = some (.tup xs) := rfl
@[simp] theorem o_tupt : mTupC own (.d (.tup xs)) = some (.tup xs) := rfl
theorem o_tuph (h : own[k]? = some (.lst xs)) : mTupC own (.h k) = some (.tup xs) := by
  simp [mTupC, seqV, h]
@[simp] theorem o_lst : mLstC own (.d (.lst xs)) = some (.lst xs) := rfl
@[simp] theorem o_lstt : mLstC own (.d (.tup xs)) = some (.lst xs) := rfl
theorem atI_pos {α : Type} {l : List α} {i : Int} (h : 0 ≤ i) : L2.atI l i = l[i.toNat]? := by
  unfold L2.atI L2.ixN
  rw [if_pos h]
  by_cases c : i < l.length
  · rw [if_pos c]; rfl
  · rw [if_neg c, List.getElem?_eq_none (by omega)]; rfl
@[simp] theorem forL_0 {tg : GM} : forL tg p [] sd own = some (.nx sd own) := rfl
theorem forL_1 {tg : GM} {x : D} {xs : List D} : forL tg p (x :: xs) sd own = (match tg x sd with
    | none => none
    | some sd1 => match p sd1 own with
      | some (.nx sd2 own2) => forL tg p xs sd2 own2
      | some (.ct sd2 own2) => forL tg p xs sd2 own2
      | some (.bk sd2 own2) => some (.nx sd2 own2)
      | r => r) := rfl
/-- a loop that keeps J and always goes on -/
theorem forL_inv {tg : GM} {J : List D → Sl → Own → Prop} : ∀ (xs : List D) (sd : Sl) (own : Own), J xs sd own → (∀ x xs sd own, J (x :: xs) sd own → ∃ sd1, tg x sd = some sd1 ∧ ∃ sd2 own2, (p sd1 own = some (.nx sd2 own2) ∨ p sd1 own = some (.ct sd2 own2)) ∧ J xs sd2 own2) →
    ∃ sd2 own2, forL tg p xs sd own = some (.nx sd2 own2) ∧ J [] sd2 own2
  | [], sd, own, h, _ => ⟨sd, own, rfl, h⟩
  | x :: xs, sd, own, h, st => by
    obtain ⟨sd1, e1, sd2, own2, e2, h2⟩ := st x xs sd own h
    obtain ⟨sd3, own3, e3, h3⟩ := forL_inv xs sd2 own2 h2 st
    refine ⟨sd3, own3, ?_, h3⟩
    rw [forL_1, e1]
    rcases e2 with e2 | e2 <;> simp only [e2] <;> exact e3
end
/-! ## the drawn row -/
/-- the row: the script's numbers, where it stands, the great number, the seed -/
def Row (o : O) : Prop := ∃ (ns : List Int) (i c s : Int), o = .lst [.lst (ns.map D.int), .int i, .int c, .int s] ∧ 0 ≤ i ∧ i ≤ ns.length ∧ 0 ≤ c
theorem row_flat {o : O} (h : Row o) : flatO o = true := by
  obtain ⟨_, _, _, _, rfl, _⟩ := h
  rfl
theorem row_start {ns : List Int} : Row (.lst [.lst (ns.map D.int), .int 0, .int 0, .int 7]) := ⟨ns, 0, 0, 7, rfl, Int.le_refl _, by omega, Int.le_refl _⟩
/-- a drawing function: from a row and a number to a smaller one -/
def Draws (Ff : FM) : Prop := ∀ (o : O) (m : Int), Row o → 1 ≤ m → m < 1073741824 → ∃ (r : Int) (o' : O), 0 ≤ r ∧ r < m ∧ Row o' ∧ Ff [.h 0, .d (.int m)] [o] = some (.ok (.d (.int r)), [o'])
theorem draw_at {Ff : FM} (P : Draws Ff) {own : Own} {k : Nat} {o : O} {m : Int} {sd : Sl} (hk : own[k]? = some o) (R : Row o) (h1 : 1 ≤ m) (h2 : m < 1073741824) :
    ∃ (r : Int) (o' : O), 0 ≤ r ∧ r < m ∧ Row o' ∧ callZ 2 Ff [.h k, .d (.int m)] sd own = some (.ok (.d (.int r)), own.set k o') := by
  obtain ⟨r, o', h3, h4, R', e⟩ := P o m R h1 h2
  refine ⟨r, o', h3, h4, R', ?_⟩
  unfold callZ
  simp [hk, row_flat R, row_flat R', e]
end Gx
end T_GxS
section T_GxS2
set_option Elab.async false
set_option linter.all false
set_option maxRecDepth 100000
set_option maxHeartbeats 4000000
namespace Gx
open PySem
section
variable {f g : EM} {a : AM} {p : SM} {sd : Sl} {own : Own} {n c i : Nat}
@[simp] theorem s_oNo : oNo sd own = some (.ok none, own) := rfl
@[simp] theorem s_oSo : oSo f sd own = M.bind f (fun x => match x with | .d (.int i) => M.ret (some i) | _ => M.fail) sd own := rfl
@[simp] theorem s_eSl {l h : OM} : eSl f l h sd own = M.bind f (fun x => l.bind fun lo => h.bind fun hi => M.ask fun own => (mSl own x lo hi).map SV.d) sd own := rfl
@[simp] theorem s_mSlt {xs : List D} {lo hi : Option Int} : mSl own (.d (.tup xs)) lo hi = some (.tup (cutD xs lo hi)) := rfl
@[simp] theorem s_mSll {xs : List D} {lo hi : Option Int} : mSl own (.d (.lst xs)) lo hi = some (.lst (cutD xs lo hi)) := rfl
theorem cut_to {xs : List D} {k : Int} (h0 : 0 ≤ k) (h1 : k ≤ xs.length) : cutD xs none (some k) = xs.take k.toNat := by
  unfold cutD
  simp [HT.sIx]
  split
  · omega
  · congr 1
    omega
theorem cut_from {xs : List D} {k : Int} (h0 : 0 ≤ k) (h1 : k ≤ xs.length) : cutD xs (some k) none = xs.drop k.toNat := by
  unfold cutD
  simp [HT.sIx]
  split
  · omega
  · have e : (min k (xs.length : Int)).toNat = k.toNat := by omega
    rw [List.take_of_length_le]
    · congr 1 <;> omega
    · simp <;> omega
@[simp] theorem s_sFldS : sFldS c i f g sd own = SM.bind g (fun x => SM.bind f fun a => fun sd own => (putFld c i own a x).map fun own' => .nx sd own') sd own := rfl
@[simp] theorem s_eMut {mm : MM} : eMut mm f a sd own = M.bind f (fun x => (M.ask fun own => lstV own x).bind fun _ => a.bind fun ys => fun _ own => match x with
  | .h k => match own[k]? with
    | some (.lst xs) => match mm own xs ys with
      | some (z, xs') => some (.ok (.d z), own.set k (.lst xs'))
      | none => none
    | _ => none
  | _ => none) sd own := rfl
@[simp] theorem s_iRg1 : iRg1 a sd own = M.bind a (fun xs => match xs with | [.d (.int j)] => if rgOk 0 j = true then M.ret (rgD 0 j.toNat) else M.fail | _ => M.fail) sd own := rfl
@[simp] theorem s_eLstH : eLstH a sd own = M.bind a (fun xs => fun _ own => match dats xs with
  | some ds => if ds.length ≤ sizeLine then some (.ok (.h own.length), own ++ [.lst ds]) else none
  | none => none) sd own := rfl
theorem rg_ok {j : Int} (h : 0 ≤ j) (h2 : j < 2 ^ 62) : rgOk 0 j = true := by
  unfold rgOk
  simp
  omega
theorem in_tup {d : D} {xs : List D} {neg : Bool} (h1 : okN 60 d = true) (h2 : xs.all (okN 59) = true) : mIn neg own (.d d) (.d (.tup xs)) = some (.bl ((xs.any fun z => eqN 60 z d) != neg)) := by
  show (if (okN 60 d && xs.all (okN 59)) = true then some (D.bl ((xs.any fun z => eqN 60 z d) != neg)) else none) = _
  rw [h1, h2]
  rfl
theorem in_lst {d : D} {xs : List D} {neg : Bool} (h1 : okN 60 d = true) (h2 : xs.all (okN 59) = true) : mIn neg own (.d d) (.d (.lst xs)) = some (.bl ((xs.any fun z => eqN 60 z d) != neg)) := by
  show (if (okN 60 d && xs.all (okN 59)) = true then some (D.bl ((xs.any fun z => eqN 60 z d) != neg)) else none) = _
  rw [h1, h2]
  rfl
theorem in_h {k : Nat} {d : D} {xs : List D} {neg : Bool} (hk : own[k]? = some (.lst xs)) (h1 : okN 60 d = true) (h2 : xs.all (okN 59) = true) : mIn neg own (.d d) (.h k) = some (.bl ((xs.any fun z => eqN 60 z d) != neg)) := by
  have e1 : dicV own (.h k) = none := by simp [dicV, hk]
  have e2 : seqV own (.h k) = some xs := by simp [seqV, hk]
  unfold mIn
  rw [e1, e2]
  show (if (okN 60 d && xs.all (okN 59)) = true then some (D.bl ((xs.any fun z => eqN 60 z d) != neg)) else none) = _
  rw [h1, h2]
  rfl
theorem sizeL : sizeLine = 16777216 := by decide
end
theorem draw_all {Ff : FM} (P : Draws Ff) {o : O} {m : Int} (R : Row o) (h1 : 1 ≤ m) (h2 : m < 1073741824) :
    ∃ (r : Int) (o' : O), 0 ≤ r ∧ r < m ∧ Row o' ∧ ∀ (sd : Sl) (rest : Own), callZ 2 Ff [.h 0, .d (.int m)] sd (o :: rest) = some (.ok (.d (.int r)), o' :: rest) := by
  obtain ⟨r, o', h3, h4, R', e⟩ := P o m R h1 h2
  refine ⟨r, o', h3, h4, R', fun sd rest => ?_⟩
  unfold callZ
  simp [row_flat R, row_flat R', e]
theorem two_at {a b : D} {r : Int} (h : 0 ≤ r) : L2.atI [a, b] (r % 2) = some (if r % 2 = 0 then a else b) := by
  have h1 : 0 ≤ r % 2 := Int.emod_nonneg _ (by omega)
  have h2 : r % 2 < 2 := Int.emod_lt_of_pos _ (by omega)
  by_cases c : r % 2 = 0
  · rw [c]; rfl
  · have : r % 2 = 1 := by omega
    rw [this]; rfl
theorem lenO_of {FL : Nat → Option FM} {c : Nat} {Ff : FM} {vs : List D} {own : Own} {n : Int} (h : FL c = some Ff) (e : callV0 Ff [.d (.obj c vs)] = some (.int n)) (h0 : 0 ≤ n) (h1 : n < 2 ^ 63) : mLenO FL own (.d (.obj c vs)) = some (.int n) := by
  unfold mLenO
  simp only [h, Option.bind_some, e]
  rw [if_pos ⟨h0, h1⟩]
theorem small63 {n : Nat} (h : n ≤ 100) : (n : Int) < 2 ^ 63 := Int.lt_of_lt_of_le (show (n : Int) < 101 by omega) (by decide)
/-! ### one step each -/
section
variable {f g : EM} {t u : TM} {a : AM} {p q : SM} {sd sd1 sd2 : Sl} {own o1 o2 o3 : Own} {n c i : Nat} {d : D} {x y : SV} {xs : List SV} {b : Bool} {Ff : FM} {r : Fl}
theorem e_V (h : sd[i]? = some (some x)) : eV i sd own = some (.ok x, own) := by rw [s_eV, h]
theorem e_B {m : Own → SV → SV → Option D} (hf : f sd own = some (.ok x, o1)) (hg : g sd o1 = some (.ok y, o2)) (hm : m o2 x y = some d) : eB m f g sd own = some (.ok (.d d), o2) := by
  rw [s_eB, s_bind_ok hf, s_bind_ok hg, s_ask, hm]
  rfl
theorem e_C1 {m : Own → SV → Option D} (hf : f sd own = some (.ok x, o1)) (hm : m o1 x = some d) : eCB (m1 m) (aCons f aNil) sd own = some (.ok (.d d), o1) := by
  have ha : aCons f aNil sd own = some (.ok [x], o1) := by rw [s_aCons, s_bind_ok hf]; rfl
  rw [s_eCB, s_bind_ok ha, s_ask, s_m1, hm]
  rfl
theorem t_E (hf : f sd own = some (.ok (.d (.bl b)), o1)) : tE f sd own = some (.ok b, o1) := by
  rw [s_tE, s_bind_ok hf]
  rfl
theorem t_Or (h1 : t sd own = some (.ok false, o1)) (h2 : u sd o1 = some (.ok b, o2)) : tOr t u sd own = some (.ok b, o2) := by
  rw [s_tOr, s_bind_ok h1]
  exact h2
theorem t_Or1 (h1 : t sd own = some (.ok true, o1)) : tOr t u sd own = some (.ok true, o1) := by
  rw [s_tOr, s_bind_ok h1]
  rfl
theorem t_And (h1 : t sd own = some (.ok true, o1)) (h2 : u sd o1 = some (.ok b, o2)) : tAnd t u sd own = some (.ok b, o2) := by
  rw [s_tAnd, s_bind_ok h1]
  exact h2
theorem t_And0 (h1 : t sd own = some (.ok false, o1)) : tAnd t u sd own = some (.ok false, o1) := by
  rw [s_tAnd, s_bind_ok h1]
  rfl
theorem t_Not (h1 : t sd own = some (.ok b, o1)) : tNot t sd own = some (.ok (!b), o1) := by
  rw [s_tNot, s_bind_ok h1]
  rfl
theorem st_If (h1 : t sd own = some (.ok b, o1)) : sIf t p q sd own = (match b with | true => p | false => q) sd o1 := by
  rw [s_sIf, s_Sbind, h1]
  try (cases b <;> rfl)
theorem st_IfT (h1 : t sd own = some (.ok true, o1)) : sIf t p q sd own = p sd o1 := st_If h1
theorem st_IfF (h1 : t sd own = some (.ok false, o1)) : sIf t p q sd own = q sd o1 := st_If h1
theorem st_Set (h1 : f sd own = some (.ok x, o1)) : sSet i f sd own = some (.nx (sd.set i (some x)) o1) := by
  rw [s_sSet, s_Sbind, h1]
theorem st_Seq (h1 : p sd own = some (.nx sd1 o1)) : sSeq p q sd own = q sd1 o1 := by
  rw [s_sSeq, h1]
theorem st_Ret (h1 : f sd own = some (.ok x, o1)) : sRet f sd own = some (.rt x o1) := by
  rw [s_sRet, s_Sbind, h1]
theorem e_Call {ds : List D} {z : D} {o' : Own} (ha : a sd own = some (.ok xs, o1)) (hd : dats xs = some ds) (hl : xs.length = n) (h : Ff xs [] = some (.ok (.d z), o')) : eCallD n Ff a sd own = some (.ok (.d z), o1) := by
  rw [s_eCallD, s_bind_ok ha]
  unfold callD
  rw [if_neg (fun z => z hl)]
  simp only [hd, h, resD]
theorem a_1 (h : f sd own = some (.ok x, o1)) : aCons f aNil sd own = some (.ok [x], o1) := by
  rw [s_aCons, s_bind_ok h]
  rfl
theorem a_c (h : f sd own = some (.ok x, o1)) (h2 : a sd o1 = some (.ok xs, o2)) : aCons f a sd own = some (.ok (x :: xs), o2) := by
  rw [s_aCons, s_bind_ok h, s_bind_ok h2]
  rfl
theorem e_Prop {c : Nat} {vs : List D} {z : D} (h : f sd own = some (.ok (.d (.obj c vs)), o1)) (e : callV0 Ff [.d (.obj c vs)] = some z) : eProp c Ff f sd own = some (.ok (.d z), o1) := by
  unfold eProp
  rw [s_bind_ok h, s_ask]
  simp only [if_true, e, Option.map_some]
end
end Gx
end T_GxS2
section T_N1
set_option Elab.async false
set_option linter.all false
set_option maxRecDepth 100000
set_option maxHeartbeats 4000000
namespace K01
open PySem Gx
theorem pick_ok : Draws F__law_pick := by
  rintro o m ⟨ns, i, c, s, rfl, h0, h1, hc⟩ hm hm2
  have m0 : (0 : Int) < m := by omega
  by_cases c0 : c = 0
  · subst c0
    by_cases hi : i < ns.length
    · have hv : L2.atI (ns.map D.int) i = some (.int (ns[i.toNat]'(by omega))) := by
        rw [atI_pos h0, List.getElem?_map, List.getElem?_eq_getElem (by omega)]; rfl
      generalize (ns[i.toNat]'(by omega)) = v at hv
      by_cases hb : (1000000000000000000 : Int) ≤ v
      · have v0 : 0 < v := by omega
        refine ⟨v % m, .lst [.lst (ns.map D.int), .int (i + 1), .int (v / m), .int s], Int.emod_nonneg _ (by omega), Int.emod_lt_of_pos _ m0, ⟨ns, i + 1, v / m, s, rfl, by omega, by omega, Int.ediv_nonneg (by omega) (by omega)⟩, ?_⟩
        have e2 : decide ((1000000000000000000 : Int) ≤ v) = true := by simpa using hb
        simp [F__law_pick, runDef, startD, o_ixh, atI_pos, hv, hi, setIx, L2.ixN, mPow, m2I, o_mod m0, o_fdiv m0 hm2, v0, e2]
      · have e2 : decide ((1000000000000000000 : Int) ≤ v) = false := by simpa using hb
        have q0 : (0 : Int) < 2147483629 := by decide
        have q1 : (0 : Int) < 2147483647 := by decide
        refine ⟨(((s * 48271 + v * 69621 + 11) % 2147483647) * 16807) % 2147483629 % m, .lst [.lst (ns.map D.int), .int (i + 1), .int 0, .int ((s * 48271 + v * 69621 + 11) % 2147483647)], Int.emod_nonneg _ (by omega), Int.emod_lt_of_pos _ m0, ⟨ns, i + 1, 0, _, rfl, by omega, by omega, by omega⟩, ?_⟩
        simp [F__law_pick, runDef, startD, o_ixh, atI_pos, hv, hi, setIx, L2.ixN, mPow, m2I, o_mod, m0, q0, q1, o_mulr, e2]
    · have q0 : (0 : Int) < 2147483629 := by decide
      have q1 : (0 : Int) < 2147483647 := by decide
      refine ⟨(((s * 48271 + 7) % 2147483647) * 16807) % 2147483629 % m, .lst [.lst (ns.map D.int), .int i, .int 0, .int ((s * 48271 + 7) % 2147483647)], Int.emod_nonneg _ (by omega), Int.emod_lt_of_pos _ m0, ⟨ns, i, 0, _, rfl, by omega, by omega, by omega⟩, ?_⟩
      simp [F__law_pick, runDef, startD, o_ixh, atI_pos, hi, setIx, L2.ixN, mPow, m2I, o_mod, m0, q0, q1, o_mulr]
  · have cp : 0 < c := by omega
    refine ⟨c % m, .lst [.lst (ns.map D.int), .int i, .int (c / m), .int s], Int.emod_nonneg _ (by omega), Int.emod_lt_of_pos _ m0, ⟨ns, i, c / m, s, rfl, by omega, by omega, Int.ediv_nonneg (by omega) (by omega)⟩, ?_⟩
    have c1 : (c == 0) = false := by simpa using c0
    simp [F__law_pick, runDef, startD, o_ixh, atI_pos, setIx, L2.ixN, o_mod m0, o_fdiv m0 hm2, cp, c1]
end K01
end T_N1
section T_N2
set_option Elab.async false
set_option linter.all false
set_option maxRecDepth 100000
set_option maxHeartbeats 4000000
set_option pp.maxSteps 2000
namespace K01
open PySem Gx
def shapes : List D := [.str "row", .str "ring", .str "rows", .str "", .non, .tup [.str "row"], .int 1]
def gaps : List D := [.int 0, .int 1, .int 2, .int (-1), .bl true, .non, .str "1"]
def ships : List D := [.tup [.int 1], .tup [.int 4], .tup [.int 1, .int 2], .tup [.int 3, .int 3], .tup [.int 2, .int 4], .tup [], .tup [.int 1, .int 2, .int 3], .tup [.int 2, .int 1], .tup [.int 0], .tup [.int 5], .tup [.bl true], .lst [.int 1],
  .non, .tup [.str "1"], .int 1, .tup [.int 1, .non]]
def sh (i : Nat) : D := shapes.getD i .non
def gp (i : Nat) : D := gaps.getD i .non
def sp (i : Nat) : D := ships.getD i .non
def isB (o : Option D) (b : Bool) : Bool := match o with
  | some (.bl x) => x == b
  | _ => false
theorem isB_of {o : Option D} {b : Bool} (h : isB o b = true) : o = some (.bl b) := by
  unfold isB at h
  split at h
  · next x => obtain rfl : x = b := by simpa using h
              rfl
  · cases h
def bad (s p g : D) : Bool := match F__law_due [.d s, .d p, .d g] [], F__law_told [.d s, .d p, .d g] [] with
  | some (.ok (.d (.str x)), []), some (.ok (.d (.str y)), []) => x == y && isB (mNe [] (.d (.str x)) (.d (.str x))) false
  | _, _ => false
theorem all_bad : ∀ i < 7, ∀ j < 16, ∀ k < 7, (i < 2 ∧ j < 5 ∧ k < 2) ∨ bad (sh i) (sp j) (gp k) = true := by decide +kernel
theorem bad_of {s p g : D} (h : bad s p g = true) : ∃ x : Str, F__law_due [.d s, .d p, .d g] [] = some (.ok (.d (.str x)), []) ∧ F__law_told [.d s, .d p, .d g] [] = some (.ok (.d (.str x)), []) ∧ mNe [] (.d (.str x)) (.d (.str x)) = some (.bl false) := by
  unfold bad at h
  split at h
  · next x y h1 h2 =>
    rw [Bool.and_eq_true] at h
    obtain rfl : x = y := by simpa using h.1
    exact ⟨x, h1, h2, isB_of h.2⟩
  · cases h
def objD (i j k : Nat) : D := .obj 0 [sh i, sp j, gp k]
def lstD (i j k : Nat) : D := .lst [sh i, sp j, gp k]
def Good (i j k : Nat) : Prop := F__law_due [.d (sh i), .d (sp j), .d (gp k)] [] = some (.ok (.d .non), []) ∧ F__law_told [.d (sh i), .d (sp j), .d (gp k)] [] = some (.ok (.d (objD i j k)), [])
theorem all_good : ∀ i < 2, ∀ j < 5, ∀ k < 2, Good i j k := by
  intro i hi j hj k hk
  have hi' : i = 0 ∨ i = 1 := by omega
  have hj' : j = 0 ∨ j = 1 ∨ j = 2 ∨ j = 3 ∨ j = 4 := by omega
  have hk' : k = 0 ∨ k = 1 := by omega
  rcases hi' with rfl | rfl <;> rcases hj' with rfl | rfl | rfl | rfl | rfl <;> rcases hk' with rfl | rfl <;> exact ⟨by kernel_rfl, by kernel_rfl⟩
def same (i j k i' j' k' : Nat) : Bool := decide (i = i' ∧ j = j' ∧ k = k')
def eqT (i j k : Nat) : Bool := (List.range 2).all fun i' => (List.range 5).all fun j' => (List.range 2).all fun k' => isB (callV0 F_Fleet_eq [.d (objD i j k), .d (objD i' j' k')]) (same i j k i' j' k') && isB (mEq [] (.d (lstD i j k)) (.d (lstD i' j' k'))) (same i j k i' j' k')
theorem all_eqT : ∀ i < 2, ∀ j < 5, ∀ k < 2, eqT i j k = true := by decide +kernel
theorem all_eq {i j k i' j' k' : Nat} (hi : i < 2) (hj : j < 5) (hk : k < 2) (hi' : i' < 2) (hj' : j' < 5) (hk' : k' < 2) :
    callV0 F_Fleet_eq [.d (objD i j k), .d (objD i' j' k')] = some (.bl (same i j k i' j' k')) ∧ mEq [] (.d (lstD i j k)) (.d (lstD i' j' k')) = some (.bl (same i j k i' j' k')) := by
  have h := all_eqT i hi j hj k hk
  unfold eqT at h
  have h1 := List.all_eq_true.mp h i' (List.mem_range.mpr hi')
  have h2 := List.all_eq_true.mp h1 j' (List.mem_range.mpr hj')
  have h3 := List.all_eq_true.mp h2 k' (List.mem_range.mpr hk')
  rw [Bool.and_eq_true] at h3
  exact ⟨isB_of h3.1, isB_of h3.2⟩
theorem all_own : ∀ i < 2, ∀ j < 5, ∀ k < 2, isB (callV0 F_Fleet_eq [.d (objD i j k), .d (sp j)]) false = true ∧ isB (mNe [] (.d (lstD i j k)) (.d (lstD i j k))) false = true := by decide +kernel
end K01
end T_N2
section T_N3
set_option Elab.async false
set_option linter.all false
set_option maxRecDepth 100000
set_option maxHeartbeats 4000000
set_option pp.maxSteps 2000
namespace K01
open PySem Gx
@[simp] theorem s_sUnp {is : List Nat} {f : EM} {sd : Sl} {own : Own} : sUnp is f sd own = SM.bind f (fun x => fun sd own => match x with
  | .d (.tup ds) => (setL is (ds.map SV.d) sd).map fun sd' => .nx sd' own
  | _ => none) sd own := rfl
@[simp] theorem s_eProp {c : Nat} {Ff : FM} {f : EM} {sd : Sl} {own : Own} : eProp c Ff f sd own = M.bind f (fun x => M.ask fun _ => match x with
  | .d (.obj c' _) => if c' = c then (callV0 Ff [x]).map SV.d else none
  | _ => none) sd own := rfl
@[simp] theorem s_eLCH {n : Nat} {src : EM} {vs : List Nat} {tg : GM} {t : TM} {f : EM} {sd : Sl} {own : Own} : eLCH n src vs tg t f sd own = M.bind src (fun x => match x with
  | .h k => fun sd own => (match lcH k tg t f (wipeD sd vs) n 0 own with
    | some (ds, o) => if ds.length < sizeLine then some (.ok (.d (.lst ds)), o) else none
    | none => none)
  | .d _ => M.fail) sd own := rfl

def b1 : SM := (sPar [2, 3] (aCons (eLst (aCons (eK (.str "row")) (aCons (eK (.str "ring")) (aCons (eK (.str "rows")) (aCons (eK (.str "")) (aCons (eK .non) (aCons (eTup (aCons (eK (.str "row")) aNil)) (aCons (eK (.int 1)) aNil)))))))) (aCons (eLst (aCons (eK (.int 0)) (aCons (eK (.int 1)) (aCons (eK (.int 2)) (aCons (eU mNeg (eK (.int 1))) (aCons (eK (.bl true)) (aCons (eK .non) (aCons (eK (.str "1")) aNil)))))))) aNil)))
def b2 : SM := (sSet 4 (eLst (aCons (eTup (aCons (eK (.int 1)) aNil)) (aCons (eTup (aCons (eK (.int 4)) aNil)) (aCons (eTup (aCons (eK (.int 1)) (aCons (eK (.int 2)) aNil))) (aCons (eTup (aCons (eK (.int 3)) (aCons (eK (.int 3)) aNil))) (aCons (eTup (aCons (eK (.int 2)) (aCons (eK (.int 4)) aNil))) (aCons (eTup aNil) (aCons (eTup (aCons (eK (.int 1)) (aCons (eK (.int 2)) (aCons (eK (.int 3)) aNil)))) (aCons (eTup (aCons (eK (.int 2)) (aCons (eK (.int 1)) aNil))) (aCons (eTup (aCons (eK (.int 0)) aNil)) (aCons (eTup (aCons (eK (.int 5)) aNil)) (aCons (eTup (aCons (eK (.bl true)) aNil)) (aCons (eLst (aCons (eK (.int 1)) aNil)) aNil))))))))))))))
def b3 : SM := (sSet 4 (eB mAdd (eV 4) (eLst (aCons (eK .non) (aCons (eTup (aCons (eK (.str "1")) aNil)) (aCons (eK (.int 1)) (aCons (eTup (aCons (eK (.int 1)) (aCons (eK .non) aNil))) aNil)))))))
def b4 : SM := (sSet 5 (eLstH aNil))
def b5_1 : SM := (sUnp [7, 8, 9] (eTup (aCons (eB mIx (eV 2) (eCallZ 2 F__law_pick (aCons (eV 1) (aCons (eK (.int 7)) aNil)))) (aCons (eB mIx (eV 4) (eCallZ 2 F__law_pick (aCons (eV 1) (aCons (eK (.int 16)) aNil)))) (aCons (eB mIx (eV 3) (eCallZ 2 F__law_pick (aCons (eV 1) (aCons (eK (.int 7)) aNil)))) aNil)))))
def b5_2 : SM := (sIf (tE (eB mEq (eCallZ 2 F__law_pick (aCons (eV 1) (aCons (eK (.int 2)) aNil))) (eK (.int 0)))) (sUnp [7, 9] (eTup (aCons (eB mIx (eV 2) (eCallZ 2 F__law_pick (aCons (eV 1) (aCons (eK (.int 2)) aNil)))) (aCons (eB mIx (eV 3) (eCallZ 2 F__law_pick (aCons (eV 1) (aCons (eK (.int 2)) aNil)))) aNil)))) sNil)
def b5_3 : SM := (sUnp [10, 11] (eTup (aCons (eCallD 3 F__law_told (aCons (eV 7) (aCons (eV 8) (aCons (eV 9) aNil)))) (aCons (eCallD 3 F__law_due (aCons (eV 7) (aCons (eV 8) (aCons (eV 9) aNil)))) aNil))))
def b5_4 : SM := (sIf (tOr (tAnd (tE (eB mNotN (eV 11) (eK .non))) (tE (eB mNe (eV 10) (eV 11)))) (tAnd (tE (eB mIsN (eV 11) (eK .non))) (tE (eCB (m2 (mIsiO LO)) (aCons (eV 10) (aCons (eK (.ty 2)) aNil)))))) (sRet (eK (.bl false))) sNil)
def b5_5 : SM := (sIf (tE (eB mIsN (eV 11) (eK .non))) (sSeq (sIf (tOr (tE (eB mNe (eLst (aCons (eProp 0 F_Fleet_shape (eV 10)) (aCons (eProp 0 F_Fleet_ships (eV 10)) (aCons (eProp 0 F_Fleet_gap (eV 10)) aNil)))) (eLst (aCons (eV 7) (aCons (eV 8) (aCons (eV 9) aNil)))))) (tE (eB (mEqO LO FE false) (eV 10) (eV 8)))) (sRet (eK (.bl false))) sNil) (sSeq (sIf (tE (eB mNe (eLCH 5000 (eV 5) [12, 13] (tgU [12, 13]) (tE (eB mNe (eB (mEqO LO FE false) (eV 12) (eV 10)) (eB (mEqO LO FE false) (eV 13) (eLst (aCons (eV 7) (aCons (eV 8) (aCons (eV 9) aNil))))))) (eV 12)) (eLst aNil))) (sRet (eK (.bl false))) sNil) (sExpr (eMut mmApp (eV 5) (aCons (eTup (aCons (eV 10) (aCons (eLst (aCons (eV 7) (aCons (eV 8) (aCons (eV 9) aNil)))) aNil))) aNil))))) sNil)
def b5B : SM := sSeq b5_1 (sSeq b5_2 (sSeq b5_3 (sSeq b5_4 b5_5)))
def b5 : SM := (sFor (iRg1 (aCons (eK (.int 16)) aNil)) (tgN 6) b5B)
def b6 : SM := (sRet (eK (.bl true)))
theorem b_is : L_law = sSeq b1 (sSeq b2 (sSeq b3 (sSeq b4 (sSeq b5 b6)))) := rfl
abbrev T (i j k : Nat) : List (List D) := []
abbrev Sx (t v7 v8 v9 v10 v11 v12 v13 : Option SV) : Sl := [none, some (.h 0), some (.d (.lst shapes)), some (.d (.lst gaps)), some (.d (.lst ships)), some (.h 1), t, v7, v8, v9, v10, v11, v12, v13]
theorem ix_tab {xs : List D} {r : Int} (h : 0 ≤ r) (h2 : r < xs.length) : L2.atI xs r = some (xs.getD r.toNat .non) := by
  rw [atI_pos h, List.getD_eq_getElem?_getD, List.getElem?_eq_getElem (by omega)]
  rfl
theorem ls : shapes.length = 7 := rfl
theorem lg : gaps.length = 7 := rfl
theorem lp : ships.length = 16 := rfl
section
variable {t v7 v8 v9 v10 v11 v12 v13 : Option SV} {o : O} {rest own : Own} {i j k : Nat}
theorem m1 (R : Row o) : ∃ (i j k : Nat) (o' : O), i < 7 ∧ j < 16 ∧ k < 7 ∧ Row o' ∧
    b5_1 (Sx t v7 v8 v9 v10 v11 v12 v13) (o :: rest) = some (.nx (Sx t (some (.d (sh i))) (some (.d (sp j))) (some (.d (gp k))) v10 v11 v12 v13) (o' :: rest)) := by
  obtain ⟨a, o1, a0, a1, R1, e1⟩ := draw_all pick_ok (m := 7) R (by omega) (by omega)
  obtain ⟨b, o2, b0, b1, R2, e2⟩ := draw_all pick_ok (m := 16) R1 (by omega) (by omega)
  obtain ⟨c, o3, c0, c1, R3, e3⟩ := draw_all pick_ok (m := 7) R2 (by omega) (by omega)
  refine ⟨a.toNat, b.toNat, c.toNat, o3, by omega, by omega, by omega, R3, ?_⟩
  have x1 := ix_tab (xs := shapes) a0 (by rw [ls]; omega)
  have x2 := ix_tab (xs := ships) b0 (by rw [lp]; omega)
  have x3 := ix_tab (xs := gaps) c0 (by rw [lg]; omega)
  simp [b5_1, e1, e2, e3, x1, x2, x3, sizeL, sh, sp, gp, setL]
theorem m2 (hi : i < 7) (hk : k < 7) (R : Row o) : ∃ (i' k' : Nat) (o' : O), i' < 7 ∧ k' < 7 ∧ Row o' ∧
    b5_2 (Sx t (some (.d (sh i))) v8 (some (.d (gp k))) v10 v11 v12 v13) (o :: rest) = some (.nx (Sx t (some (.d (sh i'))) v8 (some (.d (gp k'))) v10 v11 v12 v13) (o' :: rest)) := by
  obtain ⟨a, o1, a0, a1, R1, e1⟩ := draw_all pick_ok (m := 2) R (by omega) (by omega)
  by_cases c : a = 0
  · subst c
    obtain ⟨b, o2, b0, b1, R2, e2⟩ := draw_all pick_ok (m := 2) R1 (by omega) (by omega)
    obtain ⟨c, o3, c0, c1, R3, e3⟩ := draw_all pick_ok (m := 2) R2 (by omega) (by omega)
    refine ⟨b.toNat, c.toNat, o3, by omega, by omega, R3, ?_⟩
    have x1 := ix_tab (xs := shapes) b0 (by rw [ls]; omega)
    have x3 := ix_tab (xs := gaps) c0 (by rw [lg]; omega)
    simp [b5_2, e1, e2, e3, x1, x3, sizeL, sh, gp, setL]
  · refine ⟨i, k, o1, hi, hk, R1, ?_⟩
    have c' : (a == 0) = false := by simpa using c
    simp [b5_2, e1, c']
end
end K01
end T_N3
section T_N4
set_option Elab.async false
set_option linter.all false
set_option maxRecDepth 100000
set_option maxHeartbeats 4000000
set_option pp.maxSteps 2000
namespace K01
open PySem Gx
theorem callD_of {n : Nat} {Ff : FM} {xs : List SV} {ds : List D} {z : D} {o' : Own} (hd : dats xs = some ds) (hl : xs.length = n) (h : Ff xs [] = some (.ok (.d z), o')) (sd : Sl) (own : Own) : callD n Ff xs sd own = some (.ok (.d z), own) := by
  unfold callD
  rw [if_neg (fun z => z hl)]
  simp [hd, h, resD]
section
variable {t v7 v8 v9 v10 v11 v12 v13 : Option SV} {o : O} {rest own : Own} {i j k : Nat} {s p g x y : D}
theorem m3 (h1 : F__law_told [.d s, .d p, .d g] [] = some (.ok (.d x), [])) (h2 : F__law_due [.d s, .d p, .d g] [] = some (.ok (.d y), [])) :
    b5_3 (Sx t (some (.d s)) (some (.d p)) (some (.d g)) v10 v11 v12 v13) own = some (.nx (Sx t (some (.d s)) (some (.d p)) (some (.d g)) (some (.d x)) (some (.d y)) v12 v13) own) := by
  have e1 := callD_of (n := 3) (ds := [s, p, g]) rfl rfl h1
  have e2 := callD_of (n := 3) (ds := [s, p, g]) rfl rfl h2
  simp [b5_3, e1, e2, sizeL, setL]
theorem m4b {x : Str} (h : mNe [] (.d (.str x)) (.d (.str x)) = some (.bl false)) :
    b5_4 (Sx t v7 v8 v9 (some (.d (.str x))) (some (.d (.str x))) v12 v13) own = some (.nx (Sx t v7 v8 v9 (some (.d (.str x))) (some (.d (.str x))) v12 v13) own) := by
  have n1 : mNotN own (.d (.str x)) (.d .non) = some (.bl true) := rfl
  have n2 : mIsN own (.d (.str x)) (.d .non) = some (.bl false) := rfl
  have h' : mNe own (.d (.str x)) (.d (.str x)) = some (.bl false) := h
  unfold b5_4
  rw [st_IfF (t_Or (t_And (t_E (e_B (e_V rfl) (by rfl) n1)) (t_E (e_B (e_V rfl) (e_V rfl) h'))) (t_And0 (t_E (e_B (e_V rfl) (by rfl) n2))))]
  rfl
theorem m4g {c : Nat} {vs : List D} (hc : c = 0) :
    b5_4 (Sx t v7 v8 v9 (some (.d (.obj c vs))) (some (.d .non)) v12 v13) own = some (.nx (Sx t v7 v8 v9 (some (.d (.obj c vs))) (some (.d .non)) v12 v13) own) := by
  subst hc
  rfl
theorem m5b {x : Str} :
    b5_5 (Sx t v7 v8 v9 v10 (some (.d (.str x))) v12 v13) own = some (.nx (Sx t v7 v8 v9 v10 (some (.d (.str x))) v12 v13) own) := rfl
end
/-- what is held of a good one -/
structure Tr where
  i : Nat
  j : Nat
  k : Nat
def Tr.ok (x : Tr) : Prop := x.i < 2 ∧ x.j < 5 ∧ x.k < 2
def rowD (x : Tr) : D := .tup [objD x.i x.j x.k, lstD x.i x.j x.k]
theorem eqO_oo {own : Own} {x y : Tr} (hx : x.ok) (hy : y.ok) : mEqO LO FE false own (.d (objD x.i x.j x.k)) (.d (objD y.i y.j y.k)) = some (.bl (same x.i x.j x.k y.i y.j y.k)) := by
  have e := (all_eq hx.1 hx.2.1 hx.2.2 hy.1 hy.2.1 hy.2.2).1
  unfold objD at e
  simp [objD, mEqO, LO, FE, e, tyO]
theorem eqO_ll {own : Own} {x y : Tr} (hx : x.ok) (hy : y.ok) : mEqO LO FE false own (.d (lstD x.i x.j x.k)) (.d (lstD y.i y.j y.k)) = some (.bl (same x.i x.j x.k y.i y.j y.k)) :=
  (all_eq hx.1 hx.2.1 hx.2.2 hy.1 hy.2.1 hy.2.2).2
theorem tup_sp {j : Nat} (h : j < 5) : ∃ ds, sp j = .tup ds := by
  have hj' : j = 0 ∨ j = 1 ∨ j = 2 ∨ j = 3 ∨ j = 4 := by omega
  rcases hj' with rfl | rfl | rfl | rfl | rfl <;> exact ⟨_, rfl⟩
theorem eqO_os {own : Own} {x : Tr} (hx : x.ok) : mEqO LO FE false own (.d (objD x.i x.j x.k)) (.d (sp x.j)) = some (.bl false) := by
  have e := isB_of (all_own _ hx.1 _ hx.2.1 _ hx.2.2).1
  obtain ⟨ds, ht⟩ := tup_sp hx.2.1
  unfold objD at e
  rw [ht] at e
  have e2 : mEqO LO FE false own (.d (objD x.i x.j x.k)) (.d (.tup ds)) = some (.bl false) := by
    unfold objD
    rw [ht]
    have ty : tyO LO own (.d (.tup ds)) = some (.inl 3) := rfl
    simp [mEqO, LO, FE, e, ty]
  rw [ht]
  exact e2
@[simp] theorem ne_bb {own : Own} (a b : Bool) : mNe own (.d (.bl a)) (.d (.bl b)) = some (.bl (!(a == b))) := rfl
theorem comp_nil {x : Tr} {prev : List Tr} {o : O} {t v10 v11 : Option SV} (hx : x.ok) (hp : ∀ y ∈ prev, y.ok) (ho : v10 = some (.d (objD x.i x.j x.k))) : ∀ (n i : Nat), prev.length < n + i → i ≤ prev.length →
    lcH 1 (tgU [12, 13]) (tE (eB mNe (eB (mEqO LO FE false) (eV 12) (eV 10)) (eB (mEqO LO FE false) (eV 13) (eLst (aCons (eV 7) (aCons (eV 8) (aCons (eV 9) aNil))))))) (eV 12)
      (Sx t (some (.d (sh x.i))) (some (.d (sp x.j))) (some (.d (gp x.k))) v10 v11 none none) n i [o, .lst (prev.map rowD)] = some ([], [o, .lst (prev.map rowD)])
  | 0, i, h, h2 => by omega
  | n + 1, i, h, h2 => by
    subst ho
    unfold lcH
    by_cases c : i < prev.length
    · have ih := comp_nil (x := x) (prev := prev) (o := o) (t := t) (v11 := v11) hx hp rfl n (i + 1) (by omega) c
      have eg : (prev.map rowD)[i]? = some (rowD prev[i]) := by simp [c]
      have hy : prev[i].ok := hp _ (List.getElem_mem c)
      have q1 := fun own => eqO_oo (own := own) hy hx
      have q2 := fun own => eqO_ll (own := own) hy hx
      unfold lstD at q2
      have cm : same prev[i].i prev[i].j prev[i].k x.i x.j x.k = true ∨ same prev[i].i prev[i].j prev[i].k x.i x.j x.k = false := by cases same prev[i].i prev[i].j prev[i].k x.i x.j x.k <;> simp
      rcases cm with cm | cm <;> simp [eg, rowD, lstD, q1, q2, cm, sizeL] <;> exact ih
    · have eg : (prev.map rowD)[i]? = none := by simp; omega
      simp [eg]
end K01
end T_N4
section T_N5
set_option Elab.async false
set_option linter.all false
set_option maxRecDepth 100000
set_option maxHeartbeats 4000000
set_option pp.maxSteps 2000
namespace K01
open PySem Gx
def c1 : SM := (sIf (tOr (tE (eB mNe (eLst (aCons (eProp 0 F_Fleet_shape (eV 10)) (aCons (eProp 0 F_Fleet_ships (eV 10)) (aCons (eProp 0 F_Fleet_gap (eV 10)) aNil)))) (eLst (aCons (eV 7) (aCons (eV 8) (aCons (eV 9) aNil)))))) (tE (eB (mEqO LO FE false) (eV 10) (eV 8)))) (sRet (eK (.bl false))) sNil)
def c2 : SM := (sIf (tE (eB mNe (eLCH 5000 (eV 5) [12, 13] (tgU [12, 13]) (tE (eB mNe (eB (mEqO LO FE false) (eV 12) (eV 10)) (eB (mEqO LO FE false) (eV 13) (eLst (aCons (eV 7) (aCons (eV 8) (aCons (eV 9) aNil))))))) (eV 12)) (eLst aNil))) (sRet (eK (.bl false))) sNil)
def c3 : SM := (sExpr (eMut mmApp (eV 5) (aCons (eTup (aCons (eV 10) (aCons (eLst (aCons (eV 7) (aCons (eV 8) (aCons (eV 9) aNil)))) aNil))) aNil)))
theorem c_is : b5_5 = sIf (tE (eB mIsN (eV 11) (eK .non))) (sSeq c1 (sSeq c2 c3)) sNil := rfl
section
variable {t v7 v8 v9 v10 v11 v12 v13 : Option SV} {o : O} {rest own : Own} {x : Tr} {prev : List Tr}
theorem p1 {s p g : D} : callV0 F_Fleet_shape [.d (.obj 0 [s, p, g])] = some s := rfl
theorem p2 {s p g : D} : callV0 F_Fleet_ships [.d (.obj 0 [s, p, g])] = some p := rfl
theorem p3 {s p g : D} : callV0 F_Fleet_gap [.d (.obj 0 [s, p, g])] = some g := rfl
theorem lst3 {s p g : D} {f1 f2 f3 : EM} {sd : Sl} (h1 : f1 sd own = some (.ok (.d s), own)) (h2 : f2 sd own = some (.ok (.d p), own)) (h3 : f3 sd own = some (.ok (.d g), own)) : eLst (aCons f1 (aCons f2 (aCons f3 aNil))) sd own = some (.ok (.d (.lst [s, p, g])), own) := by
  simp [h1, h2, h3, sizeL]
theorem n1 (hx : x.ok) : c1 (Sx t (some (.d (sh x.i))) (some (.d (sp x.j))) (some (.d (gp x.k))) (some (.d (objD x.i x.j x.k))) v11 v12 v13) own = some (.nx (Sx t (some (.d (sh x.i))) (some (.d (sp x.j))) (some (.d (gp x.k))) (some (.d (objD x.i x.j x.k))) v11 v12 v13) own) := by
  have e1 : mNe own (.d (lstD x.i x.j x.k)) (.d (lstD x.i x.j x.k)) = some (.bl false) := isB_of (all_own _ hx.1 _ hx.2.1 _ hx.2.2).2
  have e2 := eqO_os (own := own) hx
  unfold c1
  rw [st_IfF (t_Or (t_E (e_B (lst3 (e_Prop (e_V rfl) p1) (e_Prop (e_V rfl) p2) (e_Prop (e_V rfl) p3)) (lst3 (e_V rfl) (e_V rfl) (e_V rfl)) e1)) (t_E (e_B (e_V rfl) (e_V rfl) e2)))]
  rfl
theorem n2 (hx : x.ok) (hp : ∀ y ∈ prev, y.ok) (hl : prev.length ≤ 100) : c2 (Sx t (some (.d (sh x.i))) (some (.d (sp x.j))) (some (.d (gp x.k))) (some (.d (objD x.i x.j x.k))) v11 v12 v13) [o, .lst (prev.map rowD)] = some (.nx (Sx t (some (.d (sh x.i))) (some (.d (sp x.j))) (some (.d (gp x.k))) (some (.d (objD x.i x.j x.k))) v11 v12 v13) [o, .lst (prev.map rowD)]) := by
  have e := comp_nil (x := x) (prev := prev) (o := o) (t := t) (v11 := v11) hx hp rfl 5000 0 (by omega) (by omega)
  have n0 : mNe [o, O.lst (prev.map rowD)] (.d (.lst [])) (.d (.lst [])) = some (.bl false) := rfl
  simp [c2, wipeD, e, sizeL, n0]
theorem n3 (hl : prev.length ≤ 100) : c3 (Sx t (some (.d (sh x.i))) (some (.d (sp x.j))) (some (.d (gp x.k))) (some (.d (objD x.i x.j x.k))) v11 v12 v13) [o, .lst (prev.map rowD)] = some (.nx (Sx t (some (.d (sh x.i))) (some (.d (sp x.j))) (some (.d (gp x.k))) (some (.d (objD x.i x.j x.k))) v11 v12 v13) [o, .lst ((prev ++ [x]).map rowD)]) := by
  have hz : prev.length < 16777216 := by omega
  simp [c3, lstV, mmApp, sizeL, hz, rowD, lstD]
theorem m5g (hx : x.ok) (hp : ∀ y ∈ prev, y.ok) (hl : prev.length ≤ 100) : b5_5 (Sx t (some (.d (sh x.i))) (some (.d (sp x.j))) (some (.d (gp x.k))) (some (.d (objD x.i x.j x.k))) (some (.d .non)) v12 v13) [o, .lst (prev.map rowD)] = some (.nx (Sx t (some (.d (sh x.i))) (some (.d (sp x.j))) (some (.d (gp x.k))) (some (.d (objD x.i x.j x.k))) (some (.d .non)) v12 v13) [o, .lst ((prev ++ [x]).map rowD)]) := by
  have n0 : mIsN [o, O.lst (prev.map rowD)] (.d .non) (.d .non) = some (.bl true) := rfl
  rw [c_is, st_IfT (t_E (e_B (e_V rfl) (by rfl) n0)), st_Seq (n1 hx), st_Seq (n2 hx hp hl), n3 hl]
theorem body_ok (R : Row o) (hp : ∀ y ∈ prev, y.ok) (hl : prev.length ≤ 100) : ∃ (o' : O) (prev' : List Tr) (w7 w8 w9 w10 w11 : Option SV), Row o' ∧ (∀ y ∈ prev', y.ok) ∧ prev'.length ≤ prev.length + 1 ∧
    b5B (Sx t v7 v8 v9 v10 v11 v12 v13) [o, .lst (prev.map rowD)] = some (.nx (Sx t w7 w8 w9 w10 w11 v12 v13) [o', .lst (prev'.map rowD)]) := by
  obtain ⟨i, j, k, o1, hi, hj, hk, R1, e1⟩ := m1 (t := t) (v7 := v7) (v8 := v8) (v9 := v9) (v10 := v10) (v11 := v11) (v12 := v12) (v13 := v13) (rest := [.lst (prev.map rowD)]) R
  obtain ⟨i, k, o2, hi, hk, R2, e2⟩ := m2 (t := t) (v8 := some (.d (sp j))) (v10 := v10) (v11 := v11) (v12 := v12) (v13 := v13) (rest := [.lst (prev.map rowD)]) hi hk R1
  rcases all_bad i hi j hj k hk with hg | hb
  · have G := all_good i hg.1 j hg.2.1 k hg.2.2
    have hx : Tr.ok ⟨i, j, k⟩ := hg
    refine ⟨o2, prev ++ [⟨i, j, k⟩], some (.d (sh i)), some (.d (sp j)), some (.d (gp k)), some (.d (objD i j k)), some (.d .non), R2, fun y hy => ?_, by rw [List.length_append, List.length_singleton]; omega, ?_⟩
    · rcases List.mem_append.mp hy with h | h
      · exact hp y h
      · rw [List.mem_singleton.mp h]; exact hx
    · unfold b5B
      have e4 : b5_4 (Sx t (some (.d (sh i))) (some (.d (sp j))) (some (.d (gp k))) (some (.d (objD i j k))) (some (.d .non)) v12 v13) [o2, .lst (prev.map rowD)] = some (.nx (Sx t (some (.d (sh i))) (some (.d (sp j))) (some (.d (gp k))) (some (.d (objD i j k))) (some (.d .non)) v12 v13) [o2, .lst (prev.map rowD)]) := m4g rfl
      rw [st_Seq e1, st_Seq e2, st_Seq (m3 G.2 G.1), st_Seq e4]
      exact m5g (x := ⟨i, j, k⟩) hx hp hl
  · obtain ⟨x, h1, h2, h3⟩ := bad_of hb
    refine ⟨o2, prev, some (.d (sh i)), some (.d (sp j)), some (.d (gp k)), some (.d (.str x)), some (.d (.str x)), R2, hp, by omega, ?_⟩
    unfold b5B
    rw [st_Seq e1, st_Seq e2, st_Seq (m3 h2 h1), st_Seq (m4b h3), m5b]
end
theorem sem_law : ∀ ns : List Int, ns.length ≤ 63 → ∃ own', L_law (lawSl 14) (lawRow ns) = some (.rt (.d (.bl true)) own') := by
  intro ns _
  have e1 : b1 (lawSl 14) (lawRow ns) = some (.nx [none, some (.h 0), some (.d (.lst shapes)), some (.d (.lst gaps)), none, none, none, none, none, none, none, none, none, none] (lawRow ns)) := by
    simp [b1, lawSl, lawRow, sizeL, setL, shapes, gaps]
  have e2 : b2 [none, some (.h 0), some (.d (.lst shapes)), some (.d (.lst gaps)), none, none, none, none, none, none, none, none, none, none] (lawRow ns) = some (.nx [none, some (.h 0), some (.d (.lst shapes)), some (.d (.lst gaps)), some (.d (.lst (ships.take 12))), none, none, none, none, none, none, none, none, none] (lawRow ns)) := by
    simp [b2, sizeL, ships]
  have e3 : b3 [none, some (.h 0), some (.d (.lst shapes)), some (.d (.lst gaps)), some (.d (.lst (ships.take 12))), none, none, none, none, none, none, none, none, none] (lawRow ns) = some (.nx [none, some (.h 0), some (.d (.lst shapes)), some (.d (.lst gaps)), some (.d (.lst ships)), none, none, none, none, none, none, none, none, none] (lawRow ns)) := by
    simp [b3, sizeL, ships, mAdd, lstV]
  have e4 : b4 [none, some (.h 0), some (.d (.lst shapes)), some (.d (.lst gaps)), some (.d (.lst ships)), none, none, none, none, none, none, none, none, none] (lawRow ns) = some (.nx (Sx none none none none none none none none) [.lst [.lst (ns.map D.int), .int 0, .int 0, .int 7], .lst []]) := by
    simp [b4, lawRow, sizeL]
  obtain ⟨sd2, own2, el, _⟩ := forL_inv (tg := tgN 6) (p := b5B) (J := fun xs sd own => ∃ (o : O) (prev : List Tr) (t v7 v8 v9 v10 v11 v12 v13 : Option SV), sd = Sx t v7 v8 v9 v10 v11 v12 v13 ∧ own = [o, .lst (prev.map rowD)] ∧ Row o ∧ (∀ y ∈ prev, y.ok) ∧ prev.length + xs.length ≤ 16)
    (rgD 0 16) (Sx none none none none none none none none) [.lst [.lst (ns.map D.int), .int 0, .int 0, .int 7], .lst []] ⟨_, [], none, none, none, none, none, none, none, none, rfl, rfl, row_start, (fun y h => absurd h (List.not_mem_nil)), by decide⟩
    (fun d xs sd own ⟨o, prev, t, v7, v8, v9, v10, v11, v12, v13, e1, e2, R, hp, hl⟩ => by
      subst e1 e2
      rw [List.length_cons] at hl
      obtain ⟨o', prev', w7, w8, w9, w10, w11, R', hp', hl', eb⟩ := body_ok (t := some (.d d)) (v7 := v7) (v8 := v8) (v9 := v9) (v10 := v10) (v11 := v11) (v12 := v12) (v13 := v13) R hp (by omega)
      exact ⟨_, rfl, _, _, .inl eb, o', prev', some (.d d), w7, w8, w9, w10, w11, v12, v13, rfl, rfl, R', hp', by omega⟩)
  refine ⟨own2, ?_⟩
  have rg : rgOk 0 16 = true := by decide
  have ef : b5 (Sx none none none none none none none none) [.lst [.lst (ns.map D.int), .int 0, .int 0, .int 7], .lst []] = some (.nx sd2 own2) := by
    have ei : iRg1 (aCons (eK (.int 16)) aNil) (Sx none none none none none none none none) [.lst [.lst (ns.map D.int), .int 0, .int 0, .int 7], .lst []] = some (.ok (rgD 0 16), [.lst [.lst (ns.map D.int), .int 0, .int 0, .int 7], .lst []]) := by
      simp [rg]
    unfold b5
    rw [s_sFor, s_Sbind, ei]
    exact el
  rw [b_is, st_Seq e1, st_Seq e2, st_Seq e3, st_Seq e4, st_Seq ef]
  rfl
end K01
end T_N5
section T_M01b
set_option Elab.async false
set_option linter.all false
set_option maxRecDepth 100000
set_option maxHeartbeats 8000000
set_option pp.maxSteps 300
namespace K01
open PySem PySem.Spec PyProof.Rows L2 Gx
theorem all_mk {w : World} {K : PySem.W.Frag} {h : Heap} {mg : Str → Option Value} {fa : Addr} (X : K.In h) (G : h.Ns mainGlobals mg) (hfa : mg "law" = some (.ref fa))
    (hsem : ∀ ns : List Int, ns.length ≤ 63 → ∃ own', L_law (lawSl 14) (lawRow ns) = some (.rt (.d (.bl true)) own'))
    {C0 C9 C10 C11 C12 f_is_integer f_is_from f_is_one_of f_Fleet_init f_Fleet_shape f_Fleet_ships f_Fleet_gap f_Fleet_eq f__law_pick f__law_told f__law_int f__law_due f_law f__law_draws pa_Fleet_shape pa_Fleet_ships pa_Fleet_gap iC10 iC11 iC12 : Addr} {od_ an_ : Option Addr} {sl_ : Array (Option Value)} {oc_ kV_ dc_ pm_ cd_ ct_ : Value}
    (aC0 : PySem.W.nsIn K mainGlobals "Fleet" = some (some (.ref C0)))
    (aC9 : PySem.W.nsIn K mainGlobals "SeaError" = some (some (.ref C9)))
    (aC10 : PySem.W.nsIn K mainGlobals "BadShape" = some (some (.ref C10)))
    (aC11 : PySem.W.nsIn K mainGlobals "BadShips" = some (some (.ref C11)))
    (aC12 : PySem.W.nsIn K mainGlobals "BadGap" = some (some (.ref C12)))
    (oC0 : OwnK K C0)
    (mC0 : PySem.W.makesIn K C0 = true)
    (kC0 : PySem.W.keepIn K (.ref C0) = true)
    (a__law_draws : PySem.W.nsIn K mainGlobals "_law_draws" = some (some (.ref f__law_draws)))
    (d__law_draws : ∃ fd, Fun K "_law_draws" "_law_draws" (top 13) f__law_draws fd)
    (a_is_integer : PySem.W.nsIn K mainGlobals "is_integer" = some (some (.ref f_is_integer)))
    (d_is_integer : ∃ fd, Fun K "is_integer" "is_integer" (top 8) f_is_integer fd)
    (a_is_from : PySem.W.nsIn K mainGlobals "is_from" = some (some (.ref f_is_from)))
    (d_is_from : ∃ fd, Fun K "is_from" "is_from" (top 9) f_is_from fd)
    (a_is_one_of : PySem.W.nsIn K mainGlobals "is_one_of" = some (some (.ref f_is_one_of)))
    (d_is_one_of : ∃ fd, Fun K "is_one_of" "is_one_of" (top 10) f_is_one_of fd)
    (a__law_pick : PySem.W.nsIn K mainGlobals "_law_pick" = some (some (.ref f__law_pick)))
    (d__law_pick : ∃ fd, Fun K "_law_pick" "_law_pick" (top 14) f__law_pick fd)
    (a__law_told : PySem.W.nsIn K mainGlobals "_law_told" = some (some (.ref f__law_told)))
    (d__law_told : ∃ fd, Fun K "_law_told" "_law_told" (top 15) f__law_told fd)
    (a__law_int : PySem.W.nsIn K mainGlobals "_law_int" = some (some (.ref f__law_int)))
    (d__law_int : ∃ fd, Fun K "_law_int" "_law_int" (top 16) f__law_int fd)
    (a__law_due : PySem.W.nsIn K mainGlobals "_law_due" = some (some (.ref f__law_due)))
    (d__law_due : ∃ fd, Fun K "_law_due" "_law_due" (top 17) f__law_due fd)
    (a_law : PySem.W.nsIn K mainGlobals "law" = some (some (.ref f_law)))
    (l_law : K.lookup f_law = some ⟨oc_, od_, .func (PySem.W.fnOf "law" "law" (defArgs (top 18)) (defBody (top 18)) (defScope (top 18)) .none kV_ dc_ pm_ an_ cd_ ct_), sl_⟩)
    (c_law : PySem.W.codeIn K cd_ "law" = true)
    (k_law : PySem.W.keepIn K (.ref f_law) = true)
    (a_Fleet_init : PySem.W.findIn K (.ref C0) "__init__" = some (some (.ref f_Fleet_init)))
    (i_Fleet_init : PySem.W.isFn K (.ref f_Fleet_init) = true)
    (d_Fleet_init : ∃ fd, Fun K "__init__" "Fleet.__init__" (inClass (top 11) 0) f_Fleet_init fd)
    (pp_Fleet_shape : PropOf K C0 "shape" pa_Fleet_shape f_Fleet_shape)
    (d_Fleet_shape : ∃ fd, Fun K "shape" "Fleet.shape" (inClass (top 11) 1) f_Fleet_shape fd)
    (pp_Fleet_ships : PropOf K C0 "ships" pa_Fleet_ships f_Fleet_ships)
    (d_Fleet_ships : ∃ fd, Fun K "ships" "Fleet.ships" (inClass (top 11) 2) f_Fleet_ships fd)
    (pp_Fleet_gap : PropOf K C0 "gap" pa_Fleet_gap f_Fleet_gap)
    (d_Fleet_gap : ∃ fd, Fun K "gap" "Fleet.gap" (inClass (top 11) 3) f_Fleet_gap fd)
    (a_Fleet_eq : PySem.W.findIn K (.ref C0) "__eq__" = some (some (.ref f_Fleet_eq)))
    (i_Fleet_eq : PySem.W.isFn K (.ref f_Fleet_eq) = true)
    (d_Fleet_eq : ∃ fd, Fun K "__eq__" "Fleet.__eq__" (inClass (top 11) 4) f_Fleet_eq fd)
    (eC9 : ExcK K C9)
    (eC10 : ExcK K C10)
    (eC11 : ExcK K C11)
    (eC12 : ExcK K C12)
    (xC10 : PySem.W.findIn K (.ref C10) "__init__" = some (some (.ref iC10)))
    (tC10 : PySem.W.typeIn K (.ref iC10) = some (.type "function"))
    (yC10 : OexC K C10)
    (sC10 : ∃ fd cc cda, SupDef PySem.Challenge.pw_shipsrow_k01_fleets_refused K C10 iC10 cc cda fd "BadShape.__init__" (defArgs (inClass (top 2) 0)) (defBody (inClass (top 2) 0)) (defScope (inClass (top 2) 0)))
    (uC10_9 : PySem.W.subIn K (.ref C10) (.ref C9) = some true)
    (uC10_10 : PySem.W.subIn K (.ref C10) (.ref C10) = some true)
    (uC10_11 : PySem.W.subIn K (.ref C10) (.ref C11) = some false)
    (uC10_12 : PySem.W.subIn K (.ref C10) (.ref C12) = some false)
    (xC11 : PySem.W.findIn K (.ref C11) "__init__" = some (some (.ref iC11)))
    (tC11 : PySem.W.typeIn K (.ref iC11) = some (.type "function"))
    (yC11 : OexC K C11)
    (sC11 : ∃ fd cc cda, SupDef PySem.Challenge.pw_shipsrow_k01_fleets_refused K C11 iC11 cc cda fd "BadShips.__init__" (defArgs (inClass (top 3) 0)) (defBody (inClass (top 3) 0)) (defScope (inClass (top 3) 0)))
    (uC11_9 : PySem.W.subIn K (.ref C11) (.ref C9) = some true)
    (uC11_10 : PySem.W.subIn K (.ref C11) (.ref C10) = some false)
    (uC11_11 : PySem.W.subIn K (.ref C11) (.ref C11) = some true)
    (uC11_12 : PySem.W.subIn K (.ref C11) (.ref C12) = some false)
    (xC12 : PySem.W.findIn K (.ref C12) "__init__" = some (some (.ref iC12)))
    (tC12 : PySem.W.typeIn K (.ref iC12) = some (.type "function"))
    (yC12 : OexC K C12)
    (sC12 : ∃ fd cc cda, SupDef PySem.Challenge.pw_shipsrow_k01_fleets_refused K C12 iC12 cc cda fd "BadGap.__init__" (defArgs (inClass (top 4) 0)) (defBody (inClass (top 4) 0)) (defScope (inClass (top 4) 0)))
    (uC12_9 : PySem.W.subIn K (.ref C12) (.ref C9) = some true)
    (uC12_10 : PySem.W.subIn K (.ref C12) (.ref C10) = some false)
    (uC12_11 : PySem.W.subIn K (.ref C12) (.ref C11) = some false)
    (uC12_12 : PySem.W.subIn K (.ref C12) (.ref C12) = some true)
    (z_all : PySem.W.nsIn K mainGlobals "all" = some none)
    (z_bool : PySem.W.nsIn K mainGlobals "bool" = some none)
    (z_int : PySem.W.nsIn K mainGlobals "int" = some none)
    (z_isinstance : PySem.W.nsIn K mainGlobals "isinstance" = some none)
    (z_len : PySem.W.nsIn K mainGlobals "len" = some none)
    (z_range : PySem.W.nsIn K mainGlobals "range" = some none)
    (z_str : PySem.W.nsIn K mainGlobals "str" = some none)
    (z_tuple : PySem.W.nsIn K mainGlobals "tuple" = some none)
    (v_MOST_LENGTH : ∃ t, PySem.W.nsIn K mainGlobals "MOST_LENGTH" = some (some (.int 4 t)))
    (v_SHAPES : ∃ (a : Addr) (o : Obj) (its : Array Value) (n : Nat), PySem.W.nsIn K mainGlobals "SHAPES" = some (some (.ref a)) ∧ K.lookup a = some o ∧ o.cls = .type "tuple" ∧ o.data = .seq its n ∧ its.size ≤ sizeLine ∧ Vals ((["ring", "row"] : List Str).map V.str) its.toList)
    (n0_form : PySem.W.findIn K (.ref C0) "form" = some none)
    (n0_lengths : PySem.W.findIn K (.ref C0) "lengths" = some none)
    (n0_room : PySem.W.findIn K (.ref C0) "room" = some none)
    (zlist : PySem.W.nsIn K mainGlobals "list" = some none)
    (zsuper : PySem.W.nsIn K mainGlobals "super" = some none)
    : ∃ fd : FuncData, (∀ (s : Shared) (v : Value), BindsTo s fd ⟨[v], []⟩ [("_law_script", v)]) ∧ ∀ base : Heap, K.In base → base.Ns mainGlobals mg → FnOk PySem.Challenge.pw_shipsrow_k01_fleets_refused w K mg base (L2.CX PySem.Challenge.pw_shipsrow_k01_fleets_refused w) 6 fa fd ["_law_script"] (spLaw K) := by
  have e := hfa.symm.trans (PySem.W.mg_of X G a_law)
  cases e
  have M : Facts K mg (ctOf [(0, C0), (9, C9), (10, C10), (11, C11), (12, C12)]) := {
    b_all := PySem.W.mg_none_of X G z_all
    b_bool := PySem.W.mg_none_of X G z_bool
    b_int := PySem.W.mg_none_of X G z_int
    b_isinstance := PySem.W.mg_none_of X G z_isinstance
    b_len := PySem.W.mg_none_of X G z_len
    b_range := PySem.W.mg_none_of X G z_range
    b_str := PySem.W.mg_none_of X G z_str
    b_tuple := PySem.W.mg_none_of X G z_tuple
    c_MOST_LENGTH := let ⟨t, e⟩ := v_MOST_LENGTH; ⟨t, PySem.W.mg_of X G e⟩
    c_SHAPES := let ⟨a, o, its, n, e, r⟩ := v_SHAPES; ⟨a, o, its, n, PySem.W.mg_of X G e, r⟩
    eC := fun c hc => (by simp only [List.mem_cons, List.not_mem_nil, or_false] at hc; rcases hc with rfl | rfl | rfl; { exact eC10.excC }; { exact eC11.excC }; { exact eC12.excC })
    e_BadGap := fun c hc => (by simp only [List.mem_cons, List.not_mem_nil, or_false] at hc; rcases hc with rfl | rfl | rfl; { exact eC12.exm uC10_12 }; { exact eC12.exm uC11_12 }; { exact eC12.exm uC12_12 })
    e_BadShape := fun c hc => (by simp only [List.mem_cons, List.not_mem_nil, or_false] at hc; rcases hc with rfl | rfl | rfl; { exact eC10.exm uC10_10 }; { exact eC10.exm uC11_10 }; { exact eC10.exm uC12_10 })
    e_BadShips := fun c hc => (by simp only [List.mem_cons, List.not_mem_nil, or_false] at hc; rcases hc with rfl | rfl | rfl; { exact eC11.exm uC10_11 }; { exact eC11.exm uC11_11 }; { exact eC11.exm uC12_11 })
    g_BadGap := PySem.W.mg_of X G aC12
    g_BadShape := PySem.W.mg_of X G aC10
    g_BadShips := PySem.W.mg_of X G aC11
    g_Fleet := PySem.W.mg_of X G aC0
    g_SeaError := PySem.W.mg_of X G aC9
    k0 := oC0.cls
    ki_SeaError := fun c hc => (by simp only [List.mem_cons, List.not_mem_nil, or_false] at hc; rcases hc with rfl | rfl | rfl; { exact eC9.kit uC10_9 }; { exact eC9.kit uC11_9 }; { exact eC9.kit uC12_9 })
    n0_form := n0_form
    n0_lengths := n0_lengths
    n0_room := n0_room
    own := ownF_of (fun c hc => by obtain rfl : c = 0 := List.mem_singleton.mp hc; exact oC0) (fun c hc c2 hc2 => by obtain rfl : c = 0 := List.mem_singleton.mp hc; obtain rfl : c2 = 0 := List.mem_singleton.mp hc2; exact oC0.sf) }
  obtain ⟨fd_is_integer, F_is_integer_⟩ := d_is_integer
  have b_is_integer := F_is_integer_.binds (ps := ["value"]) fun _ _ _ _ _ _ us hl => match us, hl with | [_], _ => rfl
  obtain ⟨fd_is_from, F_is_from_⟩ := d_is_from
  have b_is_from := F_is_from_.binds (ps := ["value", "low", "high"]) fun _ _ _ _ _ _ us hl => match us, hl with | [_, _, _], _ => rfl
  obtain ⟨fd_is_one_of, F_is_one_of_⟩ := d_is_one_of
  have b_is_one_of := F_is_one_of_.binds (ps := ["value", "some"]) fun _ _ _ _ _ _ us hl => match us, hl with | [_, _], _ => rfl
  obtain ⟨fd_Fleet_init, F_Fleet_init_⟩ := d_Fleet_init
  have b_Fleet_init := F_Fleet_init_.binds (ps := ["self", "shape", "ships", "gap"]) fun _ _ _ _ _ _ us hl => match us, hl with | [_, _, _, _], _ => rfl
  obtain ⟨fd_Fleet_shape, F_Fleet_shape_⟩ := d_Fleet_shape
  have b_Fleet_shape := F_Fleet_shape_.binds (ps := ["self"]) fun _ _ _ _ _ _ us hl => match us, hl with | [_], _ => rfl
  obtain ⟨fd_Fleet_ships, F_Fleet_ships_⟩ := d_Fleet_ships
  have b_Fleet_ships := F_Fleet_ships_.binds (ps := ["self"]) fun _ _ _ _ _ _ us hl => match us, hl with | [_], _ => rfl
  obtain ⟨fd_Fleet_gap, F_Fleet_gap_⟩ := d_Fleet_gap
  have b_Fleet_gap := F_Fleet_gap_.binds (ps := ["self"]) fun _ _ _ _ _ _ us hl => match us, hl with | [_], _ => rfl
  obtain ⟨fd_Fleet_eq, F_Fleet_eq_⟩ := d_Fleet_eq
  have b_Fleet_eq := F_Fleet_eq_.binds (ps := ["self", "other"]) fun _ _ _ _ _ _ us hl => match us, hl with | [_, _], _ => rfl
  obtain ⟨fd__law_pick, F__law_pick_⟩ := d__law_pick
  have b__law_pick := F__law_pick_.binds (ps := ["_law_row", "_law_many"]) fun _ _ _ _ _ _ us hl => match us, hl with | [_, _], _ => rfl
  obtain ⟨fd__law_told, F__law_told_⟩ := d__law_told
  have b__law_told := F__law_told_.binds (ps := ["_law_shape", "_law_ships", "_law_gap"]) fun _ _ _ _ _ _ us hl => match us, hl with | [_, _, _], _ => rfl
  obtain ⟨fd__law_int, F__law_int_⟩ := d__law_int
  have b__law_int := F__law_int_.binds (ps := ["_law_value", "_law_low", "_law_high"]) fun _ _ _ _ _ _ us hl => match us, hl with | [_, _, _], _ => rfl
  obtain ⟨fd__law_due, F__law_due_⟩ := d__law_due
  have b__law_due := F__law_due_.binds (ps := ["_law_shape", "_law_ships", "_law_gap"]) fun _ _ _ _ _ _ us hl => match us, hl with | [_, _, _], _ => rfl
  obtain ⟨fd_d, F_d⟩ := d__law_draws
  have b_d := F_d.binds (ps := ["_law_script"]) fun _ _ _ _ _ _ us hl => match us, hl with | [_], _ => rfl
  refine ⟨PySem.W.fnOf "law" "law" (defArgs (top 18)) (defBody (top 18)) (defScope (top 18)) .none kV_ dc_ pm_ an_ cd_ ct_, fun s v => .of_eq rfl, fun base _ _ => ?_⟩
  have x_BadShape : Xc PySem.Challenge.pw_shipsrow_k01_fleets_refused w K mg base "BadShape" ((ctOf [(0, C0), (9, C9), (10, C10), (11, C11), (12, C12)]) 10) (flds 10) := by
    obtain ⟨fd, cc, cda, sd⟩ := sC10
    have ok := Gx.init0 (w := w) (base := base) (mg := mg) sd ⟨rfl, rfl, rfl, by decide +kernel, rfl, by decide +kernel, by decide +kernel, sup_free rfl rfl, rfl, rfl⟩ rfl rfl (PySem.W.mg_none_of X G zsuper) (fun env => ⟨_, rfl⟩)
    obtain ⟨name, kV, doc, pm, ctv, oc, an, od, osl, e1, lk⟩ := sd.fn
    refine ⟨yC10, PySem.W.mg_of X G aC10, iC10, fd, ["self"], xC10, tC10, ?_, rfl, ok⟩
    subst e1
    exact Binds.all fun us hl => match us, hl with | [_], _ => rfl
  have x_BadShips : Xc PySem.Challenge.pw_shipsrow_k01_fleets_refused w K mg base "BadShips" ((ctOf [(0, C0), (9, C9), (10, C10), (11, C11), (12, C12)]) 11) (flds 11) := by
    obtain ⟨fd, cc, cda, sd⟩ := sC11
    have ok := Gx.init0 (w := w) (base := base) (mg := mg) sd ⟨rfl, rfl, rfl, by decide +kernel, rfl, by decide +kernel, by decide +kernel, sup_free rfl rfl, rfl, rfl⟩ rfl rfl (PySem.W.mg_none_of X G zsuper) (fun env => ⟨_, rfl⟩)
    obtain ⟨name, kV, doc, pm, ctv, oc, an, od, osl, e1, lk⟩ := sd.fn
    refine ⟨yC11, PySem.W.mg_of X G aC11, iC11, fd, ["self"], xC11, tC11, ?_, rfl, ok⟩
    subst e1
    exact Binds.all fun us hl => match us, hl with | [_], _ => rfl
  have x_BadGap : Xc PySem.Challenge.pw_shipsrow_k01_fleets_refused w K mg base "BadGap" ((ctOf [(0, C0), (9, C9), (10, C10), (11, C11), (12, C12)]) 12) (flds 12) := by
    obtain ⟨fd, cc, cda, sd⟩ := sC12
    have ok := Gx.init0 (w := w) (base := base) (mg := mg) sd ⟨rfl, rfl, rfl, by decide +kernel, rfl, by decide +kernel, by decide +kernel, sup_free rfl rfl, rfl, rfl⟩ rfl rfl (PySem.W.mg_none_of X G zsuper) (fun env => ⟨_, rfl⟩)
    obtain ⟨name, kV, doc, pm, ctv, oc, an, od, osl, e1, lk⟩ := sd.fn
    refine ⟨yC12, PySem.W.mg_of X G aC12, iC12, fd, ["self"], xC12, tC12, ?_, rfl, ok⟩
    subst e1
    exact Binds.all fun us hl => match us, hl with | [_], _ => rfl
  have o_is_integer := ok_is_integer (P := PySem.Challenge.pw_shipsrow_k01_fleets_refused) (w := w) (base := base) M  F_is_integer_
  have c_is_integer : Cal PySem.Challenge.pw_shipsrow_k01_fleets_refused w K mg base ⟨K, (ctOf [(0, C0), (9, C9), (10, C10), (11, C11), (12, C12)])⟩ 1 "is_integer" 1 F_is_integer := ⟨f_is_integer, fd_is_integer, ["value"], PySem.W.mg_of X G a_is_integer, F_is_integer_.kp, b_is_integer, o_is_integer⟩
  have o_is_from := ok_is_from (P := PySem.Challenge.pw_shipsrow_k01_fleets_refused) (w := w) (base := base) M c_is_integer F_is_from_
  have c_is_from : Cal PySem.Challenge.pw_shipsrow_k01_fleets_refused w K mg base ⟨K, (ctOf [(0, C0), (9, C9), (10, C10), (11, C11), (12, C12)])⟩ 2 "is_from" 3 F_is_from := ⟨f_is_from, fd_is_from, ["value", "low", "high"], PySem.W.mg_of X G a_is_from, F_is_from_.kp, b_is_from, o_is_from⟩
  have o_is_one_of := ok_is_one_of (P := PySem.Challenge.pw_shipsrow_k01_fleets_refused) (w := w) (base := base) M  F_is_one_of_
  have c_is_one_of : Cal PySem.Challenge.pw_shipsrow_k01_fleets_refused w K mg base ⟨K, (ctOf [(0, C0), (9, C9), (10, C10), (11, C11), (12, C12)])⟩ 1 "is_one_of" 2 F_is_one_of := ⟨f_is_one_of, fd_is_one_of, ["value", "some"], PySem.W.mg_of X G a_is_one_of, F_is_one_of_.kp, b_is_one_of, o_is_one_of⟩
  have o_Fleet_init := ok_Fleet_init (P := PySem.Challenge.pw_shipsrow_k01_fleets_refused) (w := w) (base := base) M c_is_one_of c_is_from x_BadGap x_BadShape x_BadShips F_Fleet_init_
  have m_Fleet : Ma PySem.Challenge.pw_shipsrow_k01_fleets_refused w K mg base ⟨K, (ctOf [(0, C0), (9, C9), (10, C10), (11, C11), (12, C12)])⟩ 3 "Fleet" 0 3 F_Fleet_init := ⟨f_Fleet_init, fd_Fleet_init, ["self", "shape", "ships", "gap"], PySem.W.mg_of X G aC0, ⟨mC0, a_Fleet_init, i_Fleet_init, kC0⟩, b_Fleet_init, o_Fleet_init⟩
  have o_Fleet_shape := ok_Fleet_shape (P := PySem.Challenge.pw_shipsrow_k01_fleets_refused) (w := w) (base := base) M  F_Fleet_shape_
  have p_Fleet_shape : Prp PySem.Challenge.pw_shipsrow_k01_fleets_refused w K mg base ⟨K, (ctOf [(0, C0), (9, C9), (10, C10), (11, C11), (12, C12)])⟩ 1 0 "shape" F_Fleet_shape := ⟨oC0.cls, pa_Fleet_shape, f_Fleet_shape, fd_Fleet_shape, ["self"], pp_Fleet_shape, b_Fleet_shape, o_Fleet_shape⟩
  have o_Fleet_ships := ok_Fleet_ships (P := PySem.Challenge.pw_shipsrow_k01_fleets_refused) (w := w) (base := base) M  F_Fleet_ships_
  have p_Fleet_ships : Prp PySem.Challenge.pw_shipsrow_k01_fleets_refused w K mg base ⟨K, (ctOf [(0, C0), (9, C9), (10, C10), (11, C11), (12, C12)])⟩ 1 0 "ships" F_Fleet_ships := ⟨oC0.cls, pa_Fleet_ships, f_Fleet_ships, fd_Fleet_ships, ["self"], pp_Fleet_ships, b_Fleet_ships, o_Fleet_ships⟩
  have o_Fleet_gap := ok_Fleet_gap (P := PySem.Challenge.pw_shipsrow_k01_fleets_refused) (w := w) (base := base) M  F_Fleet_gap_
  have p_Fleet_gap : Prp PySem.Challenge.pw_shipsrow_k01_fleets_refused w K mg base ⟨K, (ctOf [(0, C0), (9, C9), (10, C10), (11, C11), (12, C12)])⟩ 1 0 "gap" F_Fleet_gap := ⟨oC0.cls, pa_Fleet_gap, f_Fleet_gap, fd_Fleet_gap, ["self"], pp_Fleet_gap, b_Fleet_gap, o_Fleet_gap⟩
  have o_Fleet_eq := ok_Fleet_eq (P := PySem.Challenge.pw_shipsrow_k01_fleets_refused) (w := w) (base := base) M  F_Fleet_eq_
  have sp_Fleet_eq : Spec PySem.Challenge.pw_shipsrow_k01_fleets_refused w K mg base ⟨K, (ctOf [(0, C0), (9, C9), (10, C10), (11, C11), (12, C12)])⟩ 1 0 2 "__eq__" F_Fleet_eq := ⟨f_Fleet_eq, fd_Fleet_eq, ["self", "other"], a_Fleet_eq, i_Fleet_eq, b_Fleet_eq, o_Fleet_eq⟩
  have OM : OwnM PySem.Challenge.pw_shipsrow_k01_fleets_refused w K mg base ⟨K, (ctOf [(0, C0), (9, C9), (10, C10), (11, C11), (12, C12)])⟩ 1 LO FE FL := ⟨M.own, rfl, (fun c Ff hc => by
    unfold FE at hc
    split at hc
    · cases hc; exact sp_Fleet_eq
    · cases hc), (fun c Ff hc => by
    unfold FL at hc
    split at hc

    · cases hc)⟩
  have o__law_pick := ok__law_pick (P := PySem.Challenge.pw_shipsrow_k01_fleets_refused) (w := w) (base := base) M  F__law_pick_
  have c__law_pick : Cal PySem.Challenge.pw_shipsrow_k01_fleets_refused w K mg base ⟨K, (ctOf [(0, C0), (9, C9), (10, C10), (11, C11), (12, C12)])⟩ 1 "_law_pick" 2 F__law_pick := ⟨f__law_pick, fd__law_pick, ["_law_row", "_law_many"], PySem.W.mg_of X G a__law_pick, F__law_pick_.kp, b__law_pick, o__law_pick⟩
  have o__law_told := ok__law_told (P := PySem.Challenge.pw_shipsrow_k01_fleets_refused) (w := w) (base := base) M m_Fleet x_BadGap x_BadShape x_BadShips F__law_told_
  have c__law_told : Cal PySem.Challenge.pw_shipsrow_k01_fleets_refused w K mg base ⟨K, (ctOf [(0, C0), (9, C9), (10, C10), (11, C11), (12, C12)])⟩ 5 "_law_told" 3 F__law_told := ⟨f__law_told, fd__law_told, ["_law_shape", "_law_ships", "_law_gap"], PySem.W.mg_of X G a__law_told, F__law_told_.kp, b__law_told, o__law_told⟩
  have o__law_int := ok__law_int (P := PySem.Challenge.pw_shipsrow_k01_fleets_refused) (w := w) (base := base) M  F__law_int_
  have c__law_int : Cal PySem.Challenge.pw_shipsrow_k01_fleets_refused w K mg base ⟨K, (ctOf [(0, C0), (9, C9), (10, C10), (11, C11), (12, C12)])⟩ 1 "_law_int" 3 F__law_int := ⟨f__law_int, fd__law_int, ["_law_value", "_law_low", "_law_high"], PySem.W.mg_of X G a__law_int, F__law_int_.kp, b__law_int, o__law_int⟩
  have o__law_due := ok__law_due (P := PySem.Challenge.pw_shipsrow_k01_fleets_refused) (w := w) (base := base) M c__law_int F__law_due_
  have c__law_due : Cal PySem.Challenge.pw_shipsrow_k01_fleets_refused w K mg base ⟨K, (ctOf [(0, C0), (9, C9), (10, C10), (11, C11), (12, C12)])⟩ 2 "_law_due" 3 F__law_due := ⟨f__law_due, fd__law_due, ["_law_shape", "_law_ships", "_law_gap"], PySem.W.mg_of X G a__law_due, F__law_due_.kp, b__law_due, o__law_due⟩
  exact ok_law M c__law_pick c__law_due c__law_told p_Fleet_gap p_Fleet_ships p_Fleet_shape OM (fun_mk l_law c_law k_law) ⟨_, fd_d, PySem.W.mg_of X G a__law_draws, F_d.kp, b_d, draws_ok F_d ⟨rfl, rfl, rfl, by decide +kernel, rfl, by decide +kernel, by decide +kernel⟩ (PySem.W.mg_none_of X G zlist) rfl rfl rfl⟩ hsem
theorem walk {l : PySem.W.OpenLaw} {q : Program} {loose : List Str} {XP : (Str → Option Value) → Heap → Prop} {YP : World → Heap → Prop} {d : DefRec} {K : Params → PySem.W.Frag} (hn : l.most = some 63) (hdf : d.params.defaults = [])
    (hY : ∀ (w : World) (h : Heap), YP w h → (K w.params).In h)
    (F : ∀ (w : World) (mg : Str → Option Value) (fa : Addr) (h : Heap), (K w.params).In h → h.Ns mainGlobals mg → mg d.name = some (.ref fa) →
      ∃ fd : FuncData, (∀ (s : Shared) (u : Value), BindsTo s fd ⟨[u], []⟩ [("_law_script", u)]) ∧ ∀ base : Heap, (K w.params).In base → base.Ns mainGlobals mg → FnOk l.prog w (K w.params) mg base (L2.CX l.prog w) 6 fa fd ["_law_script"] (spLaw (K w.params))) :
    PySem.W.WalkO q loose XP YP l.row.toRowW d [] (fun f vs => PySem.call f vs) :=
  L2.walk_of (n := 63) (k := 6) (x := "_law_script") (CX := fun w => L2.CX l.prog w) (sp := fun w => spLaw (K w.params)) hn (by decide) hdf ⟨rfl, by decide, by decide⟩ hY F (fun _ _ a ns hl _ hS => ⟨a, ns, rfl, hl, hS, fun _ => rfl⟩)
    fun w H s e s' z => cx_end z
end K01
open PySem PySem.W PyProof.Rows Gx in
set_option maxRecDepth 100000 in
set_option maxHeartbeats 0 in
theorem PySem.Challenge.cw_shipsrow_k01_fleets_refused_holds : PySem.Challenge.rw_shipsrow_k01_fleets_refused.Holds := by
  w_on; o_law; k_head; (case hw => w_witness2)
  k_fill
  refine K01.walk (l := PySem.Challenge.rw_shipsrow_k01_fleets_refused) rfl rfl (fun w h Y => PySem.W.kIn_of Y) ?F
  case F =>
    intro w mg fa h KX G hmg
    refine' K01.all_mk KX G hmg K01.sem_law ?aC0 ?aC9 ?aC10 ?aC11 ?aC12 ?oC0 ?mC0 ?kC0 ?a__law_draws ?d__law_draws ?a_is_integer ?d_is_integer ?a_is_from ?d_is_from ?a_is_one_of ?d_is_one_of ?a__law_pick ?d__law_pick ?a__law_told ?d__law_told ?a__law_int ?d__law_int ?a__law_due ?d__law_due ?a_law ?l_law ?c_law ?k_law ?a_Fleet_init ?i_Fleet_init ?d_Fleet_init ?pp_Fleet_shape ?d_Fleet_shape ?pp_Fleet_ships ?d_Fleet_ships ?pp_Fleet_gap ?d_Fleet_gap ?a_Fleet_eq ?i_Fleet_eq ?d_Fleet_eq ?eC9 ?eC10 ?eC11 ?eC12 ?xC10 ?tC10 ?yC10 ?sC10 ?uC10_9 ?uC10_10 ?uC10_11 ?uC10_12 ?xC11 ?tC11 ?yC11 ?sC11 ?uC11_9 ?uC11_10 ?uC11_11 ?uC11_12 ?xC12 ?tC12 ?yC12 ?sC12 ?uC12_9 ?uC12_10 ?uC12_11 ?uC12_12 ?z_all ?z_bool ?z_int ?z_isinstance ?z_len ?z_range ?z_str ?z_tuple ?v_MOST_LENGTH ?v_SHAPES ?n0_form ?n0_lengths ?n0_room ?zlist ?zsuper
    (case aC0 => k_is)
    (case aC9 => k_is)
    (case aC10 => k_is)
    (case aC11 => k_is)
    (case aC12 => k_is)
    (case oC0 => exact ⟨by k_is, by k_is, by k_is, by k_is, by k_is, by k_is, by k_is, by k_is, by k_is, by k_is, by k_is, by k_is, by k_is, by k_is, by k_is, by k_is, by k_is, by k_is, by k_is, by k_is, by k_is, by k_is, by k_is, by k_is, by k_is⟩)
    (case mC0 => k_is)
    (case kC0 => k_is)
    (case a__law_draws => k_is)
    (case d__law_draws => refine' fn_mk ?l ?c ?k; (case l => k_is); (case c => k_is); (case k => k_is))
    (case a_is_integer => k_is)
    (case d_is_integer => refine' fn_mk ?l ?c ?k; (case l => k_is); (case c => k_is); (case k => k_is))
    (case a_is_from => k_is)
    (case d_is_from => refine' fn_mk ?l ?c ?k; (case l => k_is); (case c => k_is); (case k => k_is))
    (case a_is_one_of => k_is)
    (case d_is_one_of => refine' fn_mk ?l ?c ?k; (case l => k_is); (case c => k_is); (case k => k_is))
    (case a__law_pick => k_is)
    (case d__law_pick => refine' fn_mk ?l ?c ?k; (case l => k_is); (case c => k_is); (case k => k_is))
    (case a__law_told => k_is)
    (case d__law_told => refine' fn_mk ?l ?c ?k; (case l => k_is); (case c => k_is); (case k => k_is))
    (case a__law_int => k_is)
    (case d__law_int => refine' fn_mk ?l ?c ?k; (case l => k_is); (case c => k_is); (case k => k_is))
    (case a__law_due => k_is)
    (case d__law_due => refine' fn_mk ?l ?c ?k; (case l => k_is); (case c => k_is); (case k => k_is))
    (case a_law => k_is)
    (case l_law => k_is)
    (case c_law => k_is)
    (case k_law => k_is)
    (case a_Fleet_init => k_is)
    (case i_Fleet_init => k_is)
    (case d_Fleet_init => refine' fn_mk ?l ?c ?k; (case l => k_is); (case c => k_is); (case k => k_is))
    (case pp_Fleet_shape => refine' prop_mk ?a ?b ?c ?d; (case a => k_is); (case b => k_is); (case c => k_is); (case d => k_is))
    (case d_Fleet_shape => refine' fn_mk ?l ?c ?k; (case l => k_is); (case c => k_is); (case k => k_is))
    (case pp_Fleet_ships => refine' prop_mk ?a ?b ?c ?d; (case a => k_is); (case b => k_is); (case c => k_is); (case d => k_is))
    (case d_Fleet_ships => refine' fn_mk ?l ?c ?k; (case l => k_is); (case c => k_is); (case k => k_is))
    (case pp_Fleet_gap => refine' prop_mk ?a ?b ?c ?d; (case a => k_is); (case b => k_is); (case c => k_is); (case d => k_is))
    (case d_Fleet_gap => refine' fn_mk ?l ?c ?k; (case l => k_is); (case c => k_is); (case k => k_is))
    (case a_Fleet_eq => k_is)
    (case i_Fleet_eq => k_is)
    (case d_Fleet_eq => refine' fn_mk ?l ?c ?k; (case l => k_is); (case c => k_is); (case k => k_is))
    (case eC9 => exact ⟨by k_is, by k_is, by k_is, by k_is, by k_is, by k_is, by k_is, by k_is, by k_is, by k_is, by k_is⟩)
    (case eC10 => exact ⟨by k_is, by k_is, by k_is, by k_is, by k_is, by k_is, by k_is, by k_is, by k_is, by k_is, by k_is⟩)
    (case eC11 => exact ⟨by k_is, by k_is, by k_is, by k_is, by k_is, by k_is, by k_is, by k_is, by k_is, by k_is, by k_is⟩)
    (case eC12 => exact ⟨by k_is, by k_is, by k_is, by k_is, by k_is, by k_is, by k_is, by k_is, by k_is, by k_is, by k_is⟩)
    (case xC10 => k_is)
    (case tC10 => k_is)
    (case yC10 => refine' oexc_mk ?l ?r ?sa ?ex ?ty ?kp; (case l => k_is); (case r => decide +kernel); (case sa => k_is); (case ex => k_is); (case ty => k_is); (case kp => k_is))
    (case sC10 => refine' sup_mk ?l ?c ?f1 ?f2 ?f3 ?cl ?tp ?mg ?op ?su ?mr ?ve ?ec; (case l => k_is); (case c => k_is); (case f1 => k_is); (case f2 => rfl); (case f3 => decide +kernel); (case cl => k_is); (case tp => decide +kernel); (case mg => k_is); (case op => k_is); (case su => ks_is); (case mr => k_is); (case ve => k_is); (case ec => refine' oexc_mk ?l2 ?r2 ?sa2 ?ex2 ?ty2 ?kp2; (case l2 => k_is); (case r2 => decide +kernel); (case sa2 => k_is); (case ex2 => k_is); (case ty2 => k_is); (case kp2 => k_is)))
    (case uC10_9 => k_is)
    (case uC10_10 => k_is)
    (case uC10_11 => k_is)
    (case uC10_12 => k_is)
    (case xC11 => k_is)
    (case tC11 => k_is)
    (case yC11 => refine' oexc_mk ?l ?r ?sa ?ex ?ty ?kp; (case l => k_is); (case r => decide +kernel); (case sa => k_is); (case ex => k_is); (case ty => k_is); (case kp => k_is))
    (case sC11 => refine' sup_mk ?l ?c ?f1 ?f2 ?f3 ?cl ?tp ?mg ?op ?su ?mr ?ve ?ec; (case l => k_is); (case c => k_is); (case f1 => k_is); (case f2 => rfl); (case f3 => decide +kernel); (case cl => k_is); (case tp => decide +kernel); (case mg => k_is); (case op => k_is); (case su => ks_is); (case mr => k_is); (case ve => k_is); (case ec => refine' oexc_mk ?l2 ?r2 ?sa2 ?ex2 ?ty2 ?kp2; (case l2 => k_is); (case r2 => decide +kernel); (case sa2 => k_is); (case ex2 => k_is); (case ty2 => k_is); (case kp2 => k_is)))
    (case uC11_9 => k_is)
    (case uC11_10 => k_is)
    (case uC11_11 => k_is)
    (case uC11_12 => k_is)
    (case xC12 => k_is)
    (case tC12 => k_is)
    (case yC12 => refine' oexc_mk ?l ?r ?sa ?ex ?ty ?kp; (case l => k_is); (case r => decide +kernel); (case sa => k_is); (case ex => k_is); (case ty => k_is); (case kp => k_is))
    (case sC12 => refine' sup_mk ?l ?c ?f1 ?f2 ?f3 ?cl ?tp ?mg ?op ?su ?mr ?ve ?ec; (case l => k_is); (case c => k_is); (case f1 => k_is); (case f2 => rfl); (case f3 => decide +kernel); (case cl => k_is); (case tp => decide +kernel); (case mg => k_is); (case op => k_is); (case su => ks_is); (case mr => k_is); (case ve => k_is); (case ec => refine' oexc_mk ?l2 ?r2 ?sa2 ?ex2 ?ty2 ?kp2; (case l2 => k_is); (case r2 => decide +kernel); (case sa2 => k_is); (case ex2 => k_is); (case ty2 => k_is); (case kp2 => k_is)))
    (case uC12_9 => k_is)
    (case uC12_10 => k_is)
    (case uC12_11 => k_is)
    (case uC12_12 => k_is)
    (case z_all => k_is)
    (case z_bool => k_is)
    (case z_int => k_is)
    (case z_isinstance => k_is)
    (case z_len => k_is)
    (case z_range => k_is)
    (case z_str => k_is)
    (case z_tuple => k_is)
    (case v_MOST_LENGTH => refine' vI_mk ?a; (case a => k_is))
    (case v_SHAPES => refine' vT_mk ?a ?l ?z ?v; (case a => k_is); (case l => k_is); (case z => decide +kernel); (case v => exact (.cons ⟨_, rfl⟩ (.cons ⟨_, rfl⟩ .nil))))
    (case n0_form => k_is)
    (case n0_lengths => k_is)
    (case n0_room => k_is)
    (case zlist => k_is)
    (case zsuper => k_is)
end T_M01b
