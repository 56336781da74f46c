import PyProof.Rows.All
import Wide.All
import OpenK.AllK
import Wide.FinOn
import HandS.ForMost
import HandS.WordsExc
import HandS.CallSlots
import HandS.Iter
import HandS.Deep
import HandS.TupAny
import HandS.TupLen
import HandS.IsInst
import HandS.Flow
import HandS.Sort
import PyProof.Rows.StrTemp
import HandS.Conv
import HandS.Style
import HandS.Property
import HandS.ExcInit
import HandS.FStr
import KE.KExcSuper
import HandS.ExcIs
import HandS.ExcField
import KE.KExcIs
import HandS.Walk
import KE.GoesMore
import KE.GoesEnum
import HandS.OwnEq
import HandS.Ends
import KE.RegKSuper
import HandS.SortRule
import HandS.TupLe
import HandS.DictComp
import HandS.SetFor
import HandS.SortInts
import HandS.SetKeys
import KE.DataMinMax
import HandS.Text
import HandS.RaiseMore
import PySem.Challenge.RW_shipsrow_k04_whole_cells
section T_GxCore
set_option Elab.async false
set_option linter.all false
set_option maxRecDepth 100000
set_option maxHeartbeats 4000000
namespace Gx
open PySem PySem.Spec PyProof.Rows L2
abbrev St := L2.St

/-! ## data -/
/-- frozen data, by value -/
inductive D where
  | non | bl (b : Bool) | int (i : Int) | str (x : Str) | ty (k : Nat) | cls (c : Nat)
  | tup (xs : List D) | lst (xs : List D) | dic (ks vs : List D) | obj (c : Nat) (vs : List D)
/-- what a slot holds: data, or a handle upon an object that may change -/
inductive SV where
  | d (x : D) | h (k : Nat)
/-- an object that may change -/
inductive O where
  | dead | lst (xs : List D) | dic (ks vs : List D) | ins (c : Nat) (vs : List SV) | dih (ks : List D) (vs : List SV)
def O.live : O → Bool
  | .dead => false
  | _ => true

/-- the fields of the classes, by number -/
def flds : Nat → List Str
  | 0 => ["form", "lengths", "room"]
  | 1 => ["pieces"]
  | 2 => ["source", "many", "told", "rests"]
  | 3 => ["words_in", "at_line", "spot"]
  | 4 => ["many", "known"]
  | 14 => ["index"]
  | 15 => ["index"]
  | 16 => ["index"]
  | 20 => ["line", "word"]
  | _ => []

/-- the tables: the written part, the classes' addresses -/
structure Tb where
  K : PySem.W.Frag
  ct : Nat → Addr

/-- the built-in types that are named, by number -/
def tyName : Nat → String
  | 0 => "int"
  | 1 => "bool"
  | 2 => "str"
  | 3 => "tuple"
  | 4 => "list"
  | 5 => "dict"
  | 6 => "NoneType"
  | _ => "ValueError"
def keyD : Key → D
  | .inl i => .int i
  | .inr x => .str x

mutual
inductive Rep (T : Tb) (F : Hp) : D → V → Prop
  | non : Rep T F .non .non
  | bl (b : Bool) : Rep T F (.bl b) (.bl b)
  | int (i : Int) : Rep T F (.int i) (.int i)
  | str (x : Str) : Rep T F (.str x) (.str x)
  | ty (k : Nat) : Rep T F (.ty k) (.ty (tyName k))
  | cls (c : Nat) : Rep T F (.cls c) (.ref (T.ct c))
  | tup {a : Addr} {vs : List V} {xs : List D} : SqT T.K F a vs → Reps T F xs vs → Rep T F (.tup xs) (.ref a)
  | lst {a : Addr} {vs : List V} {xs : List D} : F a = some (.lst vs) → Reps T F xs vs → Rep T F (.lst xs) (.ref a)
  | dic {a : Addr} {kvs : List (Key × V)} {ks xs : List D} : Rd F a (.dK kvs) → ks = kvs.map (fun p => keyD p.1) → Reps T F xs (kvs.map (·.2)) → Rep T F (.dic ks xs) (.ref a)
  | ldic {a : Addr} {od : Obj} {kvs : List (Key × V)} {ks xs : List D} : F a = some (.frz od (.dK kvs)) → ks = kvs.map (fun p => keyD p.1) → Reps T F xs (kvs.map (·.2)) → Rep T F (.dic (.ty 5 :: ks) xs) (.ref a)
  | obj {a dx : Addr} {c : Nat} {ws : List V} {xs : List D} : F a = some (.ins (T.ct c) dx ((flds c).zip ws)) → (flds c).length = ws.length → Reps T F xs ws → Rep T F (.obj c xs) (.ref a)
inductive Reps (T : Tb) (F : Hp) : List D → List V → Prop
  | nil : Reps T F [] []
  | cons {d : D} {v : V} {ds : List D} {vs : List V} : Rep T F d v → Reps T F ds vs → Reps T F (d :: ds) (v :: vs)
end

/-- F' bears all that F bears -/
def Le (F F' : Hp) : Prop := ∀ a o, F a = some o → F' a = some o
theorem Le.rfl' {F : Hp} : Le F F := fun _ _ h => h
theorem Le.trans {F F1 F2 : Hp} (a : Le F F1) (b : Le F1 F2) : Le F F2 := fun c o h => b c o (a c o h)
theorem Le.upd {F : Hp} {p : Addr} {o : HO} (h : F p = none) : Le F (L2.upd F p o) := fun a u e => by rw [upd_ne (ne_of_none e h)]; exact e
theorem Rd.le {F F' : Hp} (l : Le F F') {a : Addr} {o : HO} (h : Rd F a o) : Rd F' a o := by
  rcases h with h | ⟨u, h⟩
  · exact .inl (l _ _ h)
  · exact .inr ⟨u, l _ _ h⟩
theorem SqT.le {K : PySem.W.Frag} {F F' : Hp} (l : Le F F') {a : Addr} {xs : List V} (h : SqT K F a xs) : SqT K F' a xs := by
  rcases h with h | h
  · exact .inl (Rd.le l h)
  · exact .inr h

mutual
theorem Rep.le {T : Tb} {F F' : Hp} (l : Le F F') : ∀ {d : D} {v : V}, Rep T F d v → Rep T F' d v
  | _, _, .non => .non
  | _, _, .bl b => .bl b
  | _, _, .int i => .int i
  | _, _, .str x => .str x
  | _, _, .ty n => .ty n
  | _, _, .cls n => .cls n
  | _, _, .tup h r => .tup (SqT.le l h) (Reps.le l r)
  | _, _, .lst h r => .lst (l _ _ h) (Reps.le l r)
  | _, _, .dic h e r => .dic (Rd.le l h) e (Reps.le l r)
  | _, _, .ldic h e r => .ldic (l _ _ h) e (Reps.le l r)
  | _, _, .obj h e r => .obj (l _ _ h) e (Reps.le l r)
theorem Reps.le {T : Tb} {F F' : Hp} (l : Le F F') : ∀ {ds : List D} {vs : List V}, Reps T F ds vs → Reps T F' ds vs
  | _, _, .nil => .nil
  | _, _, .cons h r => .cons (Rep.le l h) (Reps.le l r)
end
section
variable {T : Tb} {F : Hp}
theorem Reps.length : ∀ {ds : List D} {vs : List V}, Reps T F ds vs → ds.length = vs.length
  | _, _, .nil => rfl
  | _, _, .cons _ r => by rw [List.length_cons, List.length_cons, r.length]
theorem Reps.get : ∀ {ds : List D} {vs : List V} {i : Nat} {d : D}, Reps T F ds vs → ds[i]? = some d → ∃ v, vs[i]? = some v ∧ Rep T F d v
  | _, _, _, _, .nil, e => by simp at e
  | _, _, 0, _, .cons h _, e => by simp at e; subst e; exact ⟨_, rfl, h⟩
  | _, _, i + 1, _, .cons _ r, e => by
    obtain ⟨v, h1, h2⟩ := Reps.get (i := i) r (by simpa using e)
    exact ⟨v, by simpa using h1, h2⟩
theorem Reps.getV : ∀ {ds : List D} {vs : List V} {i : Nat} {v : V}, Reps T F ds vs → vs[i]? = some v → ∃ d, ds[i]? = some d ∧ Rep T F d v
  | _, _, _, _, .nil, e => by simp at e
  | _, _, 0, _, .cons h _, e => by simp at e; subst e; exact ⟨_, rfl, h⟩
  | _, _, i + 1, _, .cons _ r, e => by
    obtain ⟨v, h1, h2⟩ := Reps.getV (i := i) r (by simpa using e)
    exact ⟨v, by simpa using h1, h2⟩
theorem Reps.append : ∀ {ds es : List D} {vs ws : List V}, Reps T F ds vs → Reps T F es ws → Reps T F (ds ++ es) (vs ++ ws)
  | _, _, _, _, .nil, r => r
  | _, _, _, _, .cons h t, r => .cons h (t.append r)
theorem Reps.one {d : D} {v : V} (h : Rep T F d v) : Reps T F [d] [v] := .cons h .nil
theorem Reps.snoc {ds : List D} {vs : List V} {d : D} {v : V} (r : Reps T F ds vs) (h : Rep T F d v) : Reps T F (ds ++ [d]) (vs ++ [v]) := r.append (.one h)
theorem Reps.drop : ∀ {ds : List D} {vs : List V} (n : Nat), Reps T F ds vs → Reps T F (ds.drop n) (vs.drop n)
  | _, _, 0, r => r
  | _, _, n + 1, .nil => by simpa using Reps.nil
  | _, _, n + 1, .cons _ t => by simpa using t.drop n
theorem Reps.take : ∀ {ds : List D} {vs : List V} (n : Nat), Reps T F ds vs → Reps T F (ds.take n) (vs.take n)
  | _, _, 0, _ => by simpa using Reps.nil
  | _, _, n + 1, .nil => by simpa using Reps.nil
  | _, _, n + 1, .cons h t => by simpa using Reps.cons h (t.take n)
theorem Reps.reverse : ∀ {ds : List D} {vs : List V}, Reps T F ds vs → Reps T F ds.reverse vs.reverse
  | _, _, .nil => by simpa using Reps.nil
  | _, _, .cons h t => by simpa using t.reverse.append (.one h)
theorem Reps.set : ∀ {ds : List D} {vs : List V} {d : D} {v : V} (i : Nat), Reps T F ds vs → Rep T F d v → Reps T F (ds.set i d) (vs.set i v)
  | _, _, _, _, _, .nil, _ => by simpa using Reps.nil
  | _, _, _, _, 0, .cons _ t, h => by simpa using Reps.cons h t
  | _, _, _, _, i + 1, .cons h0 t, h => by simpa using Reps.cons h0 (t.set i h)
end

/-! ## the ghost and the relation -/
structure Gh where
  F : Hp
  ρ : Nat → Addr

def RS (T : Tb) (g : Gh) (n : Nat) : SV → V → Prop
  | .d x, v => Rep T g.F x v
  | .h k, v => k < n ∧ v = .ref (g.ρ k)
inductive RSs (T : Tb) (g : Gh) (n : Nat) : List SV → List V → Prop
  | nil : RSs T g n [] []
  | cons {s : SV} {v : V} {ss : List SV} {vs : List V} : RS T g n s v → RSs T g n ss vs → RSs T g n (s :: ss) (v :: vs)

def OAt (T : Tb) (g : Gh) (n : Nat) (H : Hp) (a : Addr) : O → Prop
  | .dead => True
  | .lst xs => ∃ vs, H a = some (.lst vs) ∧ Reps T g.F xs vs
  | .dic ks xs => ∃ kvs : List (Key × V), H a = some (.dK kvs) ∧ ks = kvs.map (fun p => keyD p.1) ∧ Reps T g.F xs (kvs.map (·.2))
  | .ins c svs => ∃ dx ws, H a = some (.ins (T.ct c) dx ((flds c).zip ws)) ∧ ws.length ≤ (flds c).length ∧ RSs T g n svs ws
  | .dih ks svs => ∃ kvs : List (Key × V), H a = some (.dK kvs) ∧ ks = kvs.map (fun p => keyD p.1) ∧ RSs T g n svs (kvs.map (·.2))

structure HRel (T : Tb) (B : Hp) (g : Gh) (own : List O) (H : Hp) : Prop where
  b : Le B H
  f : Le g.F H
  o : ∀ (k : Nat) (o : O), own[k]? = some o → OAt T g own.length H (g.ρ k) o
  nb : ∀ (k : Nat) (o : O), own[k]? = some o → o.live = true → B (g.ρ k) = none ∧ g.F (g.ρ k) = none
  inj : ∀ (j k : Nat) (p q : O), own[j]? = some p → own[k]? = some q → p.live = true → q.live = true → g.ρ j = g.ρ k → j = k

structure GExt (B : Hp) (g : Gh) (n : Nat) (g' : Gh) (n' : Nat) : Prop where
  le : n ≤ n'
  F : Le g.F g'.F
  ρ : ∀ k, k < n → g'.ρ k = g.ρ k
  fb : ∀ a o, g'.F a = some o → g.F a = some o ∨ B a = none

abbrev Sl := List (Option SV)
abbrev Own := List O
def SRel (T : Tb) (g : Gh) (n : Nat) (sd : Sl) (σ : St) : Prop := σ.length = sd.length ∧ ∀ (i : Nat) (sv : SV), sd[i]? = some (some sv) → ∃ v, σ[i]? = some (some v) ∧ RS T g n sv v

section
variable {T : Tb} {B : Hp} {g g1 g2 : Gh} {n n1 n2 : Nat}
theorem GExt.rfl' : GExt B g n g n := ⟨Nat.le_refl _, Le.rfl', fun _ _ => rfl, fun _ _ h => .inl h⟩
theorem GExt.trans (a : GExt B g n g1 n1) (b : GExt B g1 n1 g2 n2) : GExt B g n g2 n2 := by
  refine ⟨Nat.le_trans a.le b.le, a.F.trans b.F, fun k hk => (b.ρ k (Nat.lt_of_lt_of_le hk a.le)).trans (a.ρ k hk), fun x o h => ?_⟩
  rcases b.fb x o h with h | h
  · exact a.fb x o h
  · exact .inr h
theorem RS.ext {s : SV} {v : V} (e : GExt B g n g1 n1) (h : RS T g n s v) : RS T g1 n1 s v := by
  cases s with
  | d x => exact Rep.le e.F h
  | h k => exact ⟨Nat.lt_of_lt_of_le h.1 e.le, by rw [e.ρ k h.1]; exact h.2⟩
theorem RSs.ext (e : GExt B g n g1 n1) : ∀ {s : List SV} {v : List V}, RSs T g n s v → RSs T g1 n1 s v
  | _, _, .nil => .nil
  | _, _, .cons h r => .cons (h.ext e) (r.ext e)
theorem RSs.length : ∀ {s : List SV} {v : List V}, RSs T g n s v → s.length = v.length
  | _, _, .nil => rfl
  | _, _, .cons _ r => by rw [List.length_cons, List.length_cons, r.length]
theorem RSs.get : ∀ {ds : List SV} {vs : List V} {i : Nat} {d : SV}, RSs T g n ds vs → ds[i]? = some d → ∃ v, vs[i]? = some v ∧ RS T g n d v
  | _, _, _, _, .nil, e => by simp at e
  | _, _, 0, _, .cons h _, e => by simp at e; subst e; exact ⟨_, rfl, h⟩
  | _, _, i + 1, _, .cons _ r, e => by
    obtain ⟨v, h1, h2⟩ := RSs.get (i := i) r (by simpa using e)
    exact ⟨v, by simpa using h1, h2⟩
theorem RSs.set : ∀ {ds : List SV} {vs : List V} {d : SV} {v : V} (i : Nat), RSs T g n ds vs → RS T g n d v → RSs T g n (ds.set i d) (vs.set i v)
  | _, _, _, _, _, .nil, _ => by simpa using RSs.nil
  | _, _, _, _, 0, .cons _ t, h => by simpa using RSs.cons h t
  | _, _, _, _, i + 1, .cons h0 t, h => by simpa using RSs.cons h0 (t.set i h)
theorem RSs.snoc : ∀ {ds : List SV} {vs : List V} {d : SV} {v : V}, RSs T g n ds vs → RS T g n d v → RSs T g n (ds ++ [d]) (vs ++ [v])
  | _, _, _, _, .nil, h => .cons h .nil
  | _, _, _, _, .cons h0 t, h => .cons h0 (t.snoc h)
theorem SRel.ext {sd : Sl} {σ : St} (e : GExt B g n g1 n1) (h : SRel T g n sd σ) : SRel T g1 n1 sd σ := ⟨h.1, fun i sv q => by
  obtain ⟨v, h1, h2⟩ := h.2 i sv q
  exact ⟨v, h1, h2.ext e⟩⟩
theorem SRel.set {sd : Sl} {σ : St} {i : Nat} {sv : SV} {v : V} (h : SRel T g n sd σ) (r : RS T g n sv v) : SRel T g n (sd.set i (some sv)) (σ.set i (some v)) := by
  refine ⟨by simp [h.1], fun j s q => ?_⟩
  by_cases e : i = j
  · subst e
    by_cases hl : i < sd.length
    · rw [List.getElem?_set_self hl] at q
      cases q
      exact ⟨v, by rw [List.getElem?_set_self (by rw [h.1]; exact hl)], r⟩
    · rw [List.getElem?_eq_none (by simpa using hl)] at q; cases q
  · rw [List.getElem?_set_ne e] at q
    rw [List.getElem?_set_ne e]
    exact h.2 j s q
theorem SRel.unset {sd : Sl} {σ : St} {i : Nat} {o : Option V} (h : SRel T g n sd σ) : SRel T g n (sd.set i none) (σ.set i o) := by
  refine ⟨by simp [h.1], fun j s q => ?_⟩
  by_cases e : i = j
  · subst e
    by_cases hl : i < sd.length
    · rw [List.getElem?_set_self hl] at q; cases q
    · rw [List.getElem?_eq_none (by simpa using hl)] at q; cases q
  · rw [List.getElem?_set_ne e] at q
    rw [List.getElem?_set_ne e]
    exact h.2 j s q
/-- the own objects under a greater ghost -/
theorem OAt.ext {H : Hp} {a : Addr} {o : O} (e : GExt B g n g1 n1) (h : OAt T g n H a o) : OAt T g1 n1 H a o := by
  cases o with
  | dead => trivial
  | lst xs => obtain ⟨vs, h1, h2⟩ := h; exact ⟨vs, h1, h2.le e.F⟩
  | dic ks xs => obtain ⟨kvs, h1, h2, h3⟩ := h; exact ⟨kvs, h1, h2, h3.le e.F⟩
  | ins c svs => obtain ⟨dx, ws, h1, h2, h3⟩ := h; exact ⟨dx, ws, h1, h2, h3.ext e⟩
  | dih ks svs => obtain ⟨kvs, h1, h2, h3⟩ := h; exact ⟨kvs, h1, h2, h3.ext e⟩
theorem OAt.there {H : Hp} {a : Addr} {o : O} (h : OAt T g n H a o) (hl : o.live = true) : ∃ ho, H a = some ho := by
  cases o with
  | dead => cases hl
  | lst xs => obtain ⟨vs, h1, _⟩ := h; exact ⟨_, h1⟩
  | dic ks xs => obtain ⟨kvs, h1, _⟩ := h; exact ⟨_, h1⟩
  | ins c svs => obtain ⟨dx, ws, h1, _⟩ := h; exact ⟨_, h1⟩
  | dih ks svs => obtain ⟨kvs, h1, _⟩ := h; exact ⟨_, h1⟩
theorem OAt.heap {H H' : Hp} {a : Addr} {o : O} (h : OAt T g n H a o) (e : o.live = true → H' a = H a) : OAt T g n H' a o := by
  cases o with
  | dead => trivial
  | lst xs => obtain ⟨vs, h1, h2⟩ := h; exact ⟨vs, by rw [e rfl]; exact h1, h2⟩
  | dic ks xs => obtain ⟨kvs, h1, h2, h3⟩ := h; exact ⟨kvs, by rw [e rfl]; exact h1, h2, h3⟩
  | ins c svs => obtain ⟨dx, ws, h1, h2, h3⟩ := h; exact ⟨dx, ws, by rw [e rfl]; exact h1, h2, h3⟩
  | dih ks svs => obtain ⟨kvs, h1, h2, h3⟩ := h; exact ⟨kvs, by rw [e rfl]; exact h1, h2, h3⟩
variable {own : Own} {H : Hp}
theorem HRel.free (R : HRel T B g own H) {p : Addr} (h : H p = none) : B p = none ∧ g.F p = none := by
  constructor
  · cases e : B p with
    | none => rfl
    | some o => rw [R.b _ _ e] at h; cases h
  · cases e : g.F p with
    | none => rfl
    | some o => rw [R.f _ _ e] at h; cases h
theorem HRel.neOwn (R : HRel T B g own H) {p : Addr} (h : H p = none) {k : Nat} {o : O} (hk : own[k]? = some o) (hl : o.live = true) : g.ρ k ≠ p := by
  obtain ⟨ho, e⟩ := (R.o k o hk).there hl
  exact ne_of_none e h
/-- a new frozen object -/
theorem HRel.new (R : HRel T B g own H) {p : Addr} (h : H p = none) (ho : HO) :
    HRel T B ⟨L2.upd g.F p ho, g.ρ⟩ own (L2.upd H p ho) ∧ GExt B g own.length ⟨L2.upd g.F p ho, g.ρ⟩ own.length := by
  obtain ⟨hB, hF⟩ := R.free h
  have ext : GExt B g own.length ⟨L2.upd g.F p ho, g.ρ⟩ own.length := by
    refine ⟨Nat.le_refl _, Le.upd hF, fun _ _ => rfl, fun a o e => ?_⟩
    by_cases ha : a = p
    · subst ha; exact .inr hB
    · exact .inl (by rw [← upd_ne (H := g.F) (o := ho) ha]; exact e)
  refine ⟨⟨R.b.trans (Le.upd h), fun a o e => ?_, fun k o hk => ?_, fun k o hk hl => ⟨(R.nb k o hk hl).1, ?_⟩, R.inj⟩, ext⟩
  · by_cases ha : a = p
    · subst ha
      have e : (L2.upd g.F a ho) a = some o := e
      rw [upd_same] at e
      rw [upd_same]; exact e
    · have e : (L2.upd g.F p ho) a = some o := e
      rw [upd_ne ha] at e
      rw [upd_ne ha]
      exact R.f _ _ e
  · exact ((R.o k o hk).ext ext).heap fun hl => upd_ne (R.neOwn h hk hl)
  · show L2.upd g.F p ho (g.ρ k) = none
    rw [upd_ne (R.neOwn h hk hl)]
    exact (R.nb k o hk hl).2
/-- a new object of one's own -/
theorem HRel.made (R : HRel T B g own H) {p : Addr} (h : H p = none) {ho : HO} {o : O}
    (at_ : OAt T ⟨g.F, fun k => if k = own.length then p else g.ρ k⟩ (own.length + 1) (L2.upd H p ho) p o) :
    HRel T B ⟨g.F, fun k => if k = own.length then p else g.ρ k⟩ (own ++ [o]) (L2.upd H p ho) ∧
      GExt B g own.length ⟨g.F, fun k => if k = own.length then p else g.ρ k⟩ (own ++ [o]).length := by
  obtain ⟨hB, hF⟩ := R.free h
  have ext : GExt B g own.length ⟨g.F, fun k => if k = own.length then p else g.ρ k⟩ (own ++ [o]).length :=
    ⟨by simp, Le.rfl', fun k hk => by show (if k = own.length then p else g.ρ k) = g.ρ k; rw [if_neg (by omega)], fun _ _ e => .inl e⟩
  have look : ∀ (k : Nat) (q : O), (own ++ [o])[k]? = some q → (k < own.length ∧ own[k]? = some q) ∨ (k = own.length ∧ q = o) := fun k q e => by
    by_cases hk : k < own.length
    · exact .inl ⟨hk, by rw [List.getElem?_append_left hk] at e; exact e⟩
    · have hk2 : k < (own ++ [o]).length := (List.getElem?_eq_some_iff.mp e).1
      have : k = own.length := by simp at hk2; omega
      subst this
      refine .inr ⟨rfl, ?_⟩
      simp at e
      exact e.symm
  have hl0 : (own ++ [o]).length = own.length + 1 := by simp
  refine ⟨⟨R.b.trans (Le.upd h), R.f.trans (Le.upd h), fun k q e => ?_, fun k q e hl => ?_, fun j k q r ej ek hq hr e => ?_⟩, ext⟩
  · rw [hl0]
    rcases look k q e with ⟨hk, e'⟩ | ⟨rfl, rfl⟩
    · show OAt T _ _ _ (if k = own.length then p else g.ρ k) q
      rw [if_neg (by omega)]
      rw [← hl0]
      exact ((R.o k q e').ext ext).heap fun hl => upd_ne (R.neOwn h e' hl)
    · show OAt T _ _ _ (if own.length = own.length then p else g.ρ _) q
      rw [if_pos rfl]
      exact at_
  · show B (if k = own.length then p else g.ρ k) = none ∧ g.F (if k = own.length then p else g.ρ k) = none
    rcases look k q e with ⟨hk, e'⟩ | ⟨rfl, rfl⟩
    · rw [if_neg (by omega)]; exact R.nb k q e' hl
    · rw [if_pos rfl]; exact ⟨hB, hF⟩
  · have e : (if j = own.length then p else g.ρ j) = (if k = own.length then p else g.ρ k) := e
    rcases look j q ej with ⟨hj, ej'⟩ | ⟨rfl, rfl⟩
    · rcases look k r ek with ⟨hk, ek'⟩ | ⟨rfl, rfl⟩
      · rw [if_neg (by omega), if_neg (by omega)] at e
        exact R.inj j k q r ej' ek' hq hr e
      · rw [if_neg (by omega), if_pos rfl] at e
        exact absurd e (R.neOwn h ej' hq)
    · rcases look k r ek with ⟨hk, ek'⟩ | ⟨rfl, rfl⟩
      · rw [if_pos rfl, if_neg (by omega)] at e
        exact absurd e.symm (R.neOwn h ek' hr)
      · rfl
/-- an object of one's own changes -/
theorem HRel.put (R : HRel T B g own H) {k : Nat} {o : O} (hk : own[k]? = some o) (hl : o.live = true) {ho : HO} {o' : O} (at_ : OAt T g own.length (L2.upd H (g.ρ k) ho) (g.ρ k) o') :
    HRel T B g (own.set k o') (L2.upd H (g.ρ k) ho) := by
  have hlt : k < own.length := (List.getElem?_eq_some_iff.mp hk).1
  obtain ⟨hB, hF⟩ := R.nb k o hk hl
  have look : ∀ (j : Nat) (q : O), (own.set k o')[j]? = some q → (j ≠ k ∧ own[j]? = some q) ∨ (j = k ∧ q = o') := fun j q e => by
    by_cases hj : k = j
    · subst hj
      rw [List.getElem?_set_self hlt] at e
      exact .inr ⟨rfl, (Option.some.inj e).symm⟩
    · rw [List.getElem?_set_ne hj] at e
      exact .inl ⟨fun z => hj z.symm, e⟩
  have nB : ∀ a u, B a = some u → a ≠ g.ρ k := fun a u e z => by rw [z, hB] at e; cases e
  have nF : ∀ a u, g.F a = some u → a ≠ g.ρ k := fun a u e z => by rw [z, hF] at e; cases e
  refine ⟨fun a u e => by rw [upd_ne (nB a u e)]; exact R.b a u e, fun a u e => by rw [upd_ne (nF a u e)]; exact R.f a u e, fun j q e => ?_, fun j q e hq => ?_, fun i j q r ei ej hq hr e => ?_⟩
  · rw [List.length_set]
    rcases look j q e with ⟨hj, e'⟩ | ⟨rfl, rfl⟩
    · exact (R.o j q e').heap fun hq => upd_ne fun z => hj (R.inj j k q o e' hk hq hl z)
    · exact at_
  · rcases look j q e with ⟨hj, e'⟩ | ⟨rfl, rfl⟩
    · exact R.nb j q e' hq
    · exact ⟨hB, hF⟩
  · rcases look i q ei with ⟨hi, ei'⟩ | ⟨rfl, rfl⟩
    · rcases look j r ej with ⟨hj, ej'⟩ | ⟨rfl, rfl⟩
      · exact R.inj i j q r ei' ej' hq hr e
      · exact absurd (R.inj i j q o ei' hk hq hl e) hi
    · rcases look j r ej with ⟨hj, ej'⟩ | ⟨rfl, rfl⟩
      · exact absurd (R.inj j i r o ej' hk hr hl e.symm) hj
      · rfl
/-- an object of one's own is frozen -/
theorem HRel.freeze (R : HRel T B g own H) {k : Nat} {o : O} (hk : own[k]? = some o) (hl : o.live = true) {ho : HO} (hh : H (g.ρ k) = some ho) :
    HRel T B ⟨L2.upd g.F (g.ρ k) ho, g.ρ⟩ (own.set k .dead) H ∧ GExt B g own.length ⟨L2.upd g.F (g.ρ k) ho, g.ρ⟩ (own.set k .dead).length := by
  have hlt : k < own.length := (List.getElem?_eq_some_iff.mp hk).1
  obtain ⟨hB, hF⟩ := R.nb k o hk hl
  have ext : GExt B g own.length ⟨L2.upd g.F (g.ρ k) ho, g.ρ⟩ (own.set k .dead).length := by
    refine ⟨by simp, Le.upd hF, fun _ _ => rfl, fun a u e => ?_⟩
    by_cases ha : a = g.ρ k
    · subst ha; exact .inr hB
    · exact .inl (by rw [← upd_ne (H := g.F) (o := ho) ha]; exact e)
  have look : ∀ (j : Nat) (q : O), (own.set k .dead)[j]? = some q → (j ≠ k ∧ own[j]? = some q) ∨ (j = k ∧ q = .dead) := fun j q e => by
    by_cases hj : k = j
    · subst hj
      rw [List.getElem?_set_self hlt] at e
      exact .inr ⟨rfl, (Option.some.inj e).symm⟩
    · rw [List.getElem?_set_ne hj] at e
      exact .inl ⟨fun z => hj z.symm, e⟩
  refine ⟨⟨R.b, fun a u e => ?_, fun j q e => ?_, fun j q e hq => ?_, fun i j q r ei ej hq hr e => ?_⟩, ext⟩
  · by_cases ha : a = g.ρ k
    · subst ha
      have e : (L2.upd g.F (g.ρ k) ho) (g.ρ k) = some u := e
      rw [upd_same] at e
      cases e; exact hh
    · have e : (L2.upd g.F (g.ρ k) ho) a = some u := e
      rw [upd_ne ha] at e
      exact R.f a u e
  · rcases look j q e with ⟨hj, e'⟩ | ⟨rfl, rfl⟩
    · exact (R.o j q e').ext ext
    · trivial
  · rcases look j q e with ⟨hj, e'⟩ | ⟨rfl, rfl⟩
    · refine ⟨(R.nb j q e' hq).1, ?_⟩
      show L2.upd g.F (g.ρ k) ho (g.ρ j) = none
      rw [upd_ne fun z => hj (R.inj j k q o e' hk hq hl z)]
      exact (R.nb j q e' hq).2
    · cases hq
  · rcases look i q ei with ⟨hi, ei'⟩ | ⟨rfl, rfl⟩
    · rcases look j r ej with ⟨hj, ej'⟩ | ⟨rfl, rfl⟩
      · exact R.inj i j q r ei' ej' hq hr e
      · cases hr
    · cases hq
end

/-- an object of one's own, locked and frozen -/
theorem HRel.freezeL {T : Tb} {B : Hp} {g : Gh} {own : Own} {H : Hp} (R : HRel T B g own H) {k : Nat} {o : O} (hk : own[k]? = some o) (hl : o.live = true) (ho : HO) :
    HRel T B ⟨L2.upd g.F (g.ρ k) ho, g.ρ⟩ (own.set k .dead) (L2.upd H (g.ρ k) ho) ∧ GExt B g own.length ⟨L2.upd g.F (g.ρ k) ho, g.ρ⟩ (own.set k .dead).length := by
  have hlt : k < own.length := (List.getElem?_eq_some_iff.mp hk).1
  obtain ⟨hB, hF⟩ := R.nb k o hk hl
  have R1 : HRel T B g (own.set k .dead) (L2.upd H (g.ρ k) ho) := R.put (ho := ho) (o' := .dead) hk hl trivial
  have ext : GExt B g own.length ⟨L2.upd g.F (g.ρ k) ho, g.ρ⟩ (own.set k .dead).length := by
    refine ⟨by simp, Le.upd hF, fun _ _ => rfl, fun a u e => ?_⟩
    by_cases ha : a = g.ρ k
    · subst ha; exact .inr hB
    · exact .inl (by rw [← upd_ne (H := g.F) (o := ho) ha]; exact e)
  have ext2 : GExt B g (own.set k .dead).length ⟨L2.upd g.F (g.ρ k) ho, g.ρ⟩ (own.set k .dead).length := ⟨Nat.le_refl _, ext.F, fun _ _ => rfl, ext.fb⟩
  have look : ∀ (j : Nat) (q : O), (own.set k .dead)[j]? = some q → q.live = true → g.ρ j ≠ g.ρ k := fun j q e hq z => by
    by_cases hj : k = j
    · subst hj
      rw [List.getElem?_set_self hlt] at e
      cases e
      cases hq
    · rw [List.getElem?_set_ne hj] at e
      exact hj (R.inj j k q o e hk hq hl z).symm
  refine ⟨⟨R1.b, fun a u e => ?_, fun j q e => (R1.o j q e).ext ext2, fun j q e hq => ⟨(R1.nb j q e hq).1, ?_⟩, R1.inj⟩, ext⟩
  · by_cases ha : a = g.ρ k
    · subst ha
      have e : (L2.upd g.F (g.ρ k) ho) (g.ρ k) = some u := e
      rw [upd_same] at e
      rw [upd_same]; exact e
    · have e : (L2.upd g.F (g.ρ k) ho) a = some u := e
      rw [upd_ne ha] at e
      exact R1.f a u e
  · show L2.upd g.F (g.ρ k) ho (g.ρ j) = none
    rw [upd_ne (look j q e hq)]
    exact (R1.nb j q e hq).2
/-- what is just found is locked for good -/
def tFroz (t : TE) : TE := fun σ H Q => t σ H fun x H1 => Q x H1 ∨ ∃ d u, H1 d = some u ∧ Mut (some u) ∧ ∀ od, Q x (upd H1 d (.frz od u))
theorem pe_froz {X : Cx} {e : Expr} {t : TE} (h : PE X e t) : PE X e (tFroz t) := by
  refine ⟨fun pins s σ H Q I hw => ?_⟩
  refine thn (h.run pins s σ H _ I hw) fun v s1 ⟨x, H1, I1, r, q⟩ => ?_
  rcases q with q | ⟨d, u, hd, mu, q⟩
  · exact ⟨x, H1, I1, r, q⟩
  · obtain ⟨od, I2⟩ := I1.lock hd mu
    exact ⟨x, _, I2, r, q od⟩
def tFrozS (t : TS) : TS := fun D σ H => t D σ H ∨ ∃ d u, H d = some u ∧ Mut (some u) ∧ ∀ od, t D σ (upd H d (.frz od u))
theorem pss_froz {X : Cx} {l : List Stmt} {t : TS} (h : PSs X l t) : PSs X l (tFrozS t) := by
  refine ⟨fun pins s σ H D I hw => ?_⟩
  rcases hw with hw | ⟨d, u, hd, mu, hw⟩
  · exact h.run pins s σ H D I hw
  · obtain ⟨od, I1⟩ := I.lock hd mu
    exact h.run pins s σ _ D I1 (hw od)

/-! ## readings -/
/-- a result, or an exception of ours: its class, its fields -/
inductive Rz (α : Type) where
  | ok (a : α) | ex (k : Nat) (fs : List D)
abbrev M (α : Type) := Sl → Own → Option (Rz α × Own)
abbrev EM := M SV
abbrev TM := M Bool
abbrev AM := M (List SV)
inductive Fl where
  | nx (sd : Sl) (own : Own) | rt (s : SV) (own : Own) | bk (sd : Sl) (own : Own) | ct (sd : Sl) (own : Own) | ex (k : Nat) (fs : List D) (sd : Sl) (own : Own)
abbrev SM := Sl → Own → Option Fl

def M.bind {α β : Type} (f : M α) (k : α → M β) : M β := fun sd own => match f sd own with
  | some (.ok x, o1) => k x sd o1
  | some (.ex c fs, o1) => some (.ex c fs, o1)
  | none => none
def M.ret {α : Type} (x : α) : M α := fun _ own => some (.ok x, own)
/-- what the own objects tell, or nothing -/
def M.ask {α : Type} (f : Own → Option α) : M α := fun _ own => match f own with
  | some x => some (.ok x, own)
  | none => none
def M.fail {α : Type} : M α := fun _ _ => none
def SM.bind {α : Type} (f : M α) (k : α → SM) : SM := fun sd own => match f sd own with
  | some (.ok x, o1) => k x sd o1
  | some (.ex c fs, o1) => some (.ex c fs sd o1)
  | none => none

/-- an exception's own dict -/
def XD (T : Tb) (g : Gh) (H : Hp) (d : Option Addr) (k : Nat) (fs : List D) : Prop :=
  (fs = [] ∧ d = none) ∨ ∃ a ws, d = some a ∧ g.F a = some (.xd ((flds k).zip ws)) ∧ Reps T g.F fs ws

/-- what is fixed through a def's body: the tables, what is to stay, what is wanted of an exception -/
structure Cy where
  T : Tb
  B : Hp
  Ek : L2.St → XK

section
variable {α β γ δ : Type}
def ROk (Y : Cy) (rel : Gh → Nat → α → β → Prop) (g : Gh) (n : Nat) (σ : L2.St) (own' : Own) (Q : β → Hp → Prop) : Rz α → Prop
  | .ok x => ∀ g' v H', HRel Y.T Y.B g' own' H' → GExt Y.B g n g' own'.length → rel g' own'.length x v → Q v H'
  | .ex k fs => ∀ g' d H', HRel Y.T Y.B g' own' H' → GExt Y.B g n g' own'.length → XD Y.T g' H' d k fs → Y.Ek σ (.ref (Y.T.ct k)) d H'
/-- the reading at a point -/
def At (Y : Cy) (rel : Gh → Nat → α → β → Prop) (g : Gh) (sd : Sl) (own : Own) (σ : L2.St) (Q : β → Hp → Prop) (f : M α) : Prop :=
  ∃ r own', f sd own = some (r, own') ∧ ROk Y rel g own.length σ own' Q r
def trM (Y : Cy) (rel : Gh → Nat → α → β → Prop) (f : M α) : L2.St → Hp → (β → Hp → Prop) → Prop := fun σ H Q =>
  ∃ g sd own, HRel Y.T Y.B g own H ∧ SRel Y.T g own.length sd σ ∧ At Y rel g sd own σ Q f
def relB : Gh → Nat → Bool → Bool → Prop := fun _ _ a b => a = b
abbrev trE (Y : Cy) (f : EM) : TE := trM Y (RS Y.T) f
abbrev trT (Y : Cy) (f : TM) : TT := trM Y relB f
abbrev trA (Y : Cy) (f : AM) : TA := trM Y (RSs Y.T) f
def FOk (Y : Cy) (g : Gh) (n : Nat) (Dn : Ends) : Fl → Prop
  | .nx sd' own' => ∀ g' σ' H', HRel Y.T Y.B g' own' H' → SRel Y.T g' own'.length sd' σ' → GExt Y.B g n g' own'.length → Dn.nx σ' H'
  | .bk sd' own' => ∀ g' σ' H', HRel Y.T Y.B g' own' H' → SRel Y.T g' own'.length sd' σ' → GExt Y.B g n g' own'.length → Dn.bk σ' H'
  | .ct sd' own' => ∀ g' σ' H', HRel Y.T Y.B g' own' H' → SRel Y.T g' own'.length sd' σ' → GExt Y.B g n g' own'.length → Dn.ct σ' H'
  | .rt sv own' => ∀ g' v H', HRel Y.T Y.B g' own' H' → GExt Y.B g n g' own'.length → RS Y.T g' own'.length sv v → Dn.rt v H'
  | .ex k fs sd' own' => ∀ g' σ' d H', HRel Y.T Y.B g' own' H' → SRel Y.T g' own'.length sd' σ' → GExt Y.B g n g' own'.length → XD Y.T g' H' d k fs → Y.Ek σ' (.ref (Y.T.ct k)) d H'
def SAt (Y : Cy) (g : Gh) (sd : Sl) (own : Own) (Dn : Ends) (f : SM) : Prop := ∃ r, f sd own = some r ∧ FOk Y g own.length Dn r
def trS (Y : Cy) (f : SM) : TS := fun Dn σ H => ∃ g sd own, HRel Y.T Y.B g own H ∧ SRel Y.T g own.length sd σ ∧ SAt Y g sd own Dn f

section
variable {Y : Cy} {relA : Gh → Nat → α → β → Prop} {relC : Gh → Nat → γ → δ → Prop} {g g1 : Gh} {n n1 : Nat} {σ : L2.St} {own : Own} {sd : Sl} {H : Hp}
theorem ROk.shift {own' : Own} {Q : β → Hp → Prop} {r : Rz α} (e : GExt Y.B g n g1 n1) (h : ROk Y relA g n σ own' Q r) : ROk Y relA g1 n1 σ own' Q r := by
  cases r with
  | ok x => exact fun g' v H' R' e' rx => h g' v H' R' (e.trans e') rx
  | ex k fs => exact fun g' d H' R' e' x => h g' d H' R' (e.trans e') x
theorem FOk.shift {Dn : Ends} {r : Fl} (e : GExt Y.B g n g1 n1) (h : FOk Y g n Dn r) : FOk Y g1 n1 Dn r := by
  cases r with
  | nx sd' own' => exact fun g' σ' H' R' S' e' => h g' σ' H' R' S' (e.trans e')
  | bk sd' own' => exact fun g' σ' H' R' S' e' => h g' σ' H' R' S' (e.trans e')
  | ct sd' own' => exact fun g' σ' H' R' S' e' => h g' σ' H' R' S' (e.trans e')
  | rt sv own' => exact fun g' v H' R' e' rx => h g' v H' R' (e.trans e') rx
  | ex k fs sd' own' => exact fun g' σ' d H' R' S' e' x => h g' σ' d H' R' S' (e.trans e') x
theorem at_bind {f : M α} {k : α → M γ} {Q : δ → Hp → Prop} {Q1 : β → Hp → Prop} (R1 : HRel Y.T Y.B g own H) (S1 : SRel Y.T g own.length sd σ) (h : At Y relC g sd own σ Q (f.bind k))
    (c : ∀ g1 o1 x v H1, HRel Y.T Y.B g1 o1 H1 → SRel Y.T g1 o1.length sd σ → GExt Y.B g own.length g1 o1.length → relA g1 o1.length x v → At Y relC g1 sd o1 σ Q (k x) → Q1 v H1) : trM Y relA f σ H Q1 := by
  obtain ⟨r, own', e, q⟩ := h
  refine ⟨g, sd, own, R1, S1, ?_⟩
  unfold M.bind at e
  cases ef : f sd own with
  | none => rw [ef] at e; cases e
  | some p =>
    obtain ⟨r0, o1⟩ := p
    rw [ef] at e
    cases r0 with
    | ok x => exact ⟨.ok x, o1, ef, fun g' v H' R' x' rx => c g' o1 x v H' R' (S1.ext x') x' rx ⟨r, own', e, q.shift x'⟩⟩
    | ex k fs =>
      cases e
      exact ⟨.ex k fs, _, ef, q⟩
theorem s_bind {f : M α} {k : α → SM} {Dn : Ends} {Q1 : β → Hp → Prop} (R1 : HRel Y.T Y.B g own H) (S1 : SRel Y.T g own.length sd σ) (h : SAt Y g sd own Dn (SM.bind f k))
    (c : ∀ g1 o1 x v H1, HRel Y.T Y.B g1 o1 H1 → SRel Y.T g1 o1.length sd σ → GExt Y.B g own.length g1 o1.length → relA g1 o1.length x v → SAt Y g1 sd o1 Dn (k x) → Q1 v H1) : trM Y relA f σ H Q1 := by
  obtain ⟨r, e, q⟩ := h
  refine ⟨g, sd, own, R1, S1, ?_⟩
  unfold SM.bind at e
  cases ef : f sd own with
  | none => rw [ef] at e; cases e
  | some p =>
    obtain ⟨r0, o1⟩ := p
    rw [ef] at e
    cases r0 with
    | ok x => exact ⟨.ok x, o1, ef, fun g' v H' R' x' rx => c g' o1 x v H' R' (S1.ext x') x' rx ⟨r, e, q.shift x'⟩⟩
    | ex k fs =>
      cases e
      exact ⟨.ex k fs, o1, ef, fun g' d H' R' e' x => q g' σ d H' R' (S1.ext e') e' x⟩
theorem at_ret {x : α} {Q : β → Hp → Prop} (h : At Y relA g sd own σ Q (M.ret x)) : ∀ g' v H', HRel Y.T Y.B g' own H' → GExt Y.B g own.length g' own.length → relA g' own.length x v → Q v H' := by
  obtain ⟨r, own', e, q⟩ := h
  cases e
  exact q
theorem at_ask {f : Own → Option α} {Q : β → Hp → Prop} (h : At Y relA g sd own σ Q (M.ask f)) : ∃ x, f own = some x ∧ ∀ g' v H', HRel Y.T Y.B g' own H' → GExt Y.B g own.length g' own.length → relA g' own.length x v → Q v H' := by
  obtain ⟨r, own', e, q⟩ := h
  unfold M.ask at e
  cases ef : f own with
  | none => rw [ef] at e; cases e
  | some x => rw [ef] at e; cases e; exact ⟨x, rfl, q⟩
theorem at_fail {Q : β → Hp → Prop} (h : At Y relA g sd own σ Q M.fail) : False := by
  obtain ⟨r, own', e, q⟩ := h
  cases e
end
end

/-! ### consequence -/
section
variable {X : Cx}
theorem PE.imp {e : Expr} {t t' : TE} (h : PE X e t) (i : ∀ σ H Q, t' σ H Q → t σ H Q) : PE X e t' := ⟨fun pins s σ H Q I q => h.run pins s σ H Q I (i σ H Q q)⟩
theorem PT.imp {e : Expr} {t t' : TT} (h : PT X e t) (i : ∀ σ H Q, t' σ H Q → t σ H Q) : PT X e t' := ⟨fun pins s σ H Q I q => h.run pins s σ H Q I (i σ H Q q)⟩
theorem PW.imp {e : Expr} {t t' : TT} (h : PW X e t) (i : ∀ σ H Q, t' σ H Q → t σ H Q) : PW X e t' := ⟨fun wh pins s σ H Q I q => h.run wh pins s σ H Q I (i σ H Q q)⟩
theorem PA.imp {es : List Expr} {t t' : TA} (h : PA X es t) (i : ∀ σ H Q, t' σ H Q → t σ H Q) : PA X es t' := ⟨fun pos pins s σ H Q I q => h.run pos pins s σ H Q I (i σ H Q q)⟩
theorem PS.imp {st : Stmt} {t t' : TS} (h : PS X st t) (i : ∀ D σ H, t' D σ H → t D σ H) : PS X st t' := ⟨fun pins s σ H D I q => h.run pins s σ H D I (i D σ H q)⟩
theorem PSs.imp {st : List Stmt} {t t' : TS} (h : PSs X st t) (i : ∀ D σ H, t' D σ H → t D σ H) : PSs X st t' := ⟨fun pins s σ H D I q => h.run pins s σ H D I (i D σ H q)⟩
theorem PG.imp {e : Expr} {t t' : TG} (h : PG X e t) (i : ∀ v σ H Q, t' v σ H Q → t v σ H Q) : PG X e t' := ⟨fun pins s σ H v u Q I r q => h.run pins s σ H v u Q I r (i v σ H Q q)⟩
end
end Gx
end T_GxCore
section T_GxR1
set_option Elab.async false
set_option linter.all false
set_option maxRecDepth 100000
set_option maxHeartbeats 4000000
namespace Gx
open PySem PySem.Spec PyProof.Rows L2

/-! ## views -/
/-- a list or a tuple, as it is read -/
def seqV (own : Own) : SV → Option (List D)
  | .d (.lst xs) => some xs
  | .d (.tup xs) => some xs
  | .h k => match own[k]? with
    | some (.lst xs) => some xs
    | _ => none
  | _ => none
/-- a list alone -/
def lstV (own : Own) : SV → Option (List D)
  | .d (.lst xs) => some xs
  | .h k => match own[k]? with
    | some (.lst xs) => some xs
    | _ => none
  | _ => none
/-- data as it is read: a handle's list is seen through -/
def datV (own : Own) : SV → Option D
  | .d x => some x
  | .h k => match own[k]? with
    | some (.lst xs) => some (.lst xs)
    | some (.dic ks xs) => some (.dic ks xs)
    | _ => none
section
variable {T : Tb} {B : Hp} {g : Gh} {own : Own} {H : Hp} {s : SV} {v : V}
theorem lst_of (R : HRel T B g own H) (r : RS T g own.length s v) {xs : List D} (h : lstV own s = some xs) : ∃ a vs, v = .ref a ∧ H a = some (.lst vs) ∧ Reps T g.F xs vs := by
  cases s with
  | d x =>
    cases x with
    | lst ys =>
      cases h
      have r : Rep T g.F (.lst xs) v := r
      cases r with
      | lst h1 h2 => exact ⟨_, _, rfl, R.f _ _ h1, h2⟩
    | _ => cases h
  | h k =>
    have h : (match own[k]? with | some (.lst xs) => some xs | _ => none) = some xs := h
    cases e : own[k]? with
    | none => rw [e] at h; cases h
    | some o =>
      rw [e] at h
      cases o with
      | lst ys =>
        cases h
        obtain ⟨vs, h1, h2⟩ := R.o k _ e
        exact ⟨_, vs, r.2, h1, h2⟩
      | _ => cases h
theorem seq_of (R : HRel T B g own H) (r : RS T g own.length s v) {xs : List D} (h : seqV own s = some xs) : ∃ a vs, v = .ref a ∧ (SqL T.K H a vs ∨ SqT T.K H a vs) ∧ Reps T g.F xs vs := by
  cases s with
  | d x =>
    cases x with
    | lst ys =>
      obtain ⟨a, vs, e, h1, h2⟩ := lst_of R r (xs := xs) h
      exact ⟨a, vs, e, .inl (SqL.of h1), h2⟩
    | tup ys =>
      cases h
      have r : Rep T g.F (.tup xs) v := r
      cases r with
      | tup h1 h2 => exact ⟨_, _, rfl, .inr (SqT.le R.f h1), h2⟩
    | _ => cases h
  | h k =>
    obtain ⟨a, vs, e, h1, h2⟩ := lst_of R r (xs := xs) h
    exact ⟨a, vs, e, .inl (SqL.of h1), h2⟩
end

/-! ## comparing data -/
/-- data that == may read, at most n deep -/
def okN : Nat → D → Bool
  | _, .non => true
  | _, .bl _ => true
  | _, .int _ => true
  | _, .str x => PyData.strOk x
  | n + 1, .tup xs => xs.all (okN n)
  | n + 1, .lst xs => xs.all (okN n)
  | _, _ => false
def pyN : Nat → D → PyData
  | _, .bl b => .bool b
  | _, .int i => .int i
  | _, .str x => .str x
  | n + 1, .tup xs => .tuple (xs.map (pyN n))
  | n + 1, .lst xs => .list (xs.map (pyN n))
  | _, _ => .none
def eqAll (f : D → D → Bool) : List D → List D → Bool
  | [], [] => true
  | x :: xs, y :: ys => f x y && eqAll f xs ys
  | _, _ => false
def eqN : Nat → D → D → Bool
  | _, .non, .non => true
  | _, .bl a, .bl b => a == b
  | _, .bl a, .int j => (if a then 1 else 0) == j
  | _, .int i, .bl b => i == (if b then 1 else 0)
  | _, .int i, .int j => i == j
  | _, .str x, .str y => x == y
  | n + 1, .tup xs, .tup ys => eqAll (eqN n) xs ys
  | n + 1, .lst xs, .lst ys => eqAll (eqN n) xs ys
  | _, _, _ => false

theorem py_eq : ∀ (n : Nat) (x y : D), okN n x = true → okN n y = true → PyData.eqv (pyN n x) (pyN n y) = eqN n x y
  | 0, x, y, hx, hy => by
    cases x <;> cases y <;> first
      | rfl
      | (exact Bool.noConfusion hx)
      | (exact Bool.noConfusion hy)
  | n + 1, x, y, hx, hy => by
    have all : ∀ (xs ys : List D), xs.all (okN n) = true → ys.all (okN n) = true → PyData.eqvAll (xs.map (pyN n)) (ys.map (pyN n)) = eqAll (eqN n) xs ys := by
      intro xs
      induction xs with
      | nil => intro ys _ _; cases ys <;> rfl
      | cons a r ih =>
        intro ys h1 h2
        cases ys with
        | nil => rfl
        | cons b t =>
          rw [List.all_cons, Bool.and_eq_true] at h1 h2
          show (PyData.eqv (pyN n a) (pyN n b) && PyData.eqvAll (r.map (pyN n)) (t.map (pyN n))) = (eqN n a b && eqAll (eqN n) r t)
          rw [py_eq n a b h1.1 h2.1, ih t h1.2 h2.2]
    cases x <;> cases y <;> first
      | rfl
      | (exact Bool.noConfusion hx)
      | (exact Bool.noConfusion hy)
      | (exact all _ _ hx hy)
theorem py_lay : ∀ (n : Nat) (x : D), okN n x = true → (pyN n x).canLay0 = true ∧ (pyN n x).depth ≤ n
  | 0, x, hx => by
    cases x <;> first
      | exact ⟨rfl, Nat.le_refl _⟩
      | (exact Bool.noConfusion hx)
      | exact ⟨hx, Nat.le_refl _⟩
  | n + 1, x, hx => by
    have all : ∀ (xs : List D), xs.all (okN n) = true → PyData.canLayAll0 (xs.map (pyN n)) = true ∧ PyData.depthAll (xs.map (pyN n)) ≤ n := by
      intro xs
      induction xs with
      | nil => intro _; exact ⟨rfl, Nat.zero_le _⟩
      | cons a r ih =>
        intro h1
        rw [List.all_cons, Bool.and_eq_true] at h1
        obtain ⟨q1, q2⟩ := py_lay n a h1.1
        obtain ⟨q3, q4⟩ := ih h1.2
        refine ⟨?_, ?_⟩
        · show ((pyN n a).canLay0 && PyData.canLayAll0 (r.map (pyN n))) = true
          rw [q1, q3]; rfl
        · show max (pyN n a).depth (PyData.depthAll (r.map (pyN n))) ≤ n
          exact Nat.max_le.mpr ⟨q2, q4⟩
    cases x <;> first
      | exact ⟨rfl, Nat.zero_le _⟩
      | (exact Bool.noConfusion hx)
      | exact ⟨hx, Nat.zero_le _⟩
      | exact ⟨(all _ hx).1, Nat.succ_le_succ (all _ hx).2⟩
theorem shaped_of {x : D} (h : okN 60 x = true) : SeqAt.shaped (pyN 60 x) = true := by
  obtain ⟨h1, h2⟩ := py_lay 60 x h
  unfold SeqAt.shaped
  rw [h1, decide_eq_true (Nat.le_trans h2 (by decide))]; rfl

section
variable {T : Tb} {F H : Hp}
theorem SqL.leH {K : PySem.W.Frag} (l : Le F H) {a : Addr} {vs : List V} (h : F a = some (.lst vs)) : SqL K H a vs := SqL.of (l _ _ h)
theorem dp_of (l : Le F H) : ∀ (n : Nat) {x : D} {v : V}, Rep T F x v → okN n x = true → Dp T.K H v (pyN n x)
  | 0, _, _, r, h => by
    cases r with
    | non => exact .non
    | bl b => exact .bl b
    | int i => exact .int i
    | str x => exact .str x
    | ty n => exact Bool.noConfusion h
    | cls n => exact Bool.noConfusion h
    | tup h1 h2 => exact Bool.noConfusion h
    | lst h1 h2 => exact Bool.noConfusion h
    | dic h1 h2 h3 => exact Bool.noConfusion h
    | ldic h1 h2 h3 => exact Bool.noConfusion h
    | obj h1 h2 h3 => exact Bool.noConfusion h
  | n + 1, _, _, r, h => by
    have all : ∀ {xs : List D} {vs : List V}, Reps T F xs vs → xs.all (okN n) = true → DpAll T.K H vs (xs.map (pyN n)) := by
      intro xs
      induction xs with
      | nil => intro vs r _; cases r; exact .nil
      | cons a t ih =>
        intro vs r hh
        cases r with
        | cons r1 r2 =>
          rw [List.all_cons, Bool.and_eq_true] at hh
          exact .cons (dp_of l n r1 hh.1) (ih r2 hh.2)
    cases r with
    | non => exact .non
    | bl b => exact .bl b
    | int i => exact .int i
    | str x => exact .str x
    | ty n => exact Bool.noConfusion h
    | cls n => exact Bool.noConfusion h
    | tup h1 h2 => exact .tup (SqT.le l h1) (all h2 h)
    | lst h1 h2 => exact .lst (SqL.leH l h1) (all h2 h)
    | dic h1 h2 h3 => exact Bool.noConfusion h
    | ldic h1 h2 h3 => exact Bool.noConfusion h
    | obj h1 h2 h3 => exact Bool.noConfusion h
end
theorem dpAll_of {T : Tb} {F H : Hp} (l : Le F H) (n : Nat) : ∀ {xs : List D} {vs : List V}, Reps T F xs vs → xs.all (okN n) = true → DpAll T.K H vs (xs.map (pyN n))
  | _, _, .nil, _ => .nil
  | _, _, .cons r1 r2, hh => by
    rw [List.all_cons, Bool.and_eq_true] at hh
    exact .cons (dp_of l n r1 hh.1) (dpAll_of l n r2 hh.2)
/-- what is read as data -/
theorem dat_of {T : Tb} {B : Hp} {g : Gh} {own : Own} {H : Hp} {s : SV} {v : V} (R : HRel T B g own H) (r : RS T g own.length s v) {x : D} (h : datV own s = some x) (ok : okN 60 x = true) : Dp T.K H v (pyN 60 x) := by
  cases s with
  | d y =>
    have e : y = x := Option.some.inj h
    subst e
    exact dp_of R.f 60 r ok
  | h k =>
    have h : (match own[k]? with | some (.lst xs) => some (D.lst xs) | some (.dic ks xs) => some (D.dic ks xs) | _ => none) = some x := h
    cases e : own[k]? with
    | none => rw [e] at h; cases h
    | some o =>
      rw [e] at h
      cases o with
      | lst ys =>
        cases h
        obtain ⟨vs, h1, h2⟩ := R.o k _ e
        rw [r.2]
        have ok : ys.all (okN 59) = true := ok
        refine .lst (SqL.of h1) ?_
        exact dpAll_of R.f 59 h2 ok
      | dic ks ys => cases h; exact Bool.noConfusion ok
      | _ => cases h
end Gx
end T_GxR1
section T_GxR2
set_option Elab.async false
set_option linter.all false
set_option maxRecDepth 100000
set_option maxHeartbeats 4000000
namespace Gx
open PySem PySem.Spec PyProof.Rows L2

/-! ## expressions: what they reckon -/
def eV (i : Nat) : EM := fun sd own => match sd[i]? with
  | some (some s) => some (.ok s, own)
  | _ => none
def eK (d : D) : EM := M.ret (.d d)
def eB (m : Own → SV → SV → Option D) (f g : EM) : EM := f.bind fun x => g.bind fun y => M.ask fun own => (m own x y).map SV.d
def eU (m : Own → SV → Option D) (f : EM) : EM := f.bind fun x => M.ask fun own => (m own x).map SV.d
def eCh (m m' : Own → SV → SV → Option D) (f g h : EM) : EM := f.bind fun x => g.bind fun y => (M.ask fun own => m own x y).bind fun z => match z with
  | .bl true => h.bind fun w => M.ask fun own => (m' own y w).map SV.d
  | .bl false => M.ret (.d (.bl false))
  | _ => M.fail
def eAnd (f g : EM) : EM := f.bind fun x => match x with
  | .d (.bl true) => g
  | .d (.bl false) => M.ret (.d (.bl false))
  | _ => M.fail
def eOr (f g : EM) : EM := f.bind fun x => match x with
  | .d (.bl false) => g
  | .d (.bl true) => M.ret (.d (.bl true))
  | _ => M.fail
def eNot (f : EM) : EM := f.bind fun x => match x with
  | .d (.bl b) => M.ret (.d (.bl (!b)))
  | _ => M.fail
def tE (f : EM) : TM := f.bind fun x => match x with
  | .d (.bl b) => M.ret b
  | _ => M.fail
def tAnd (f g : TM) : TM := f.bind fun b => match b with
  | true => g
  | false => M.ret false
def tOr (f g : TM) : TM := f.bind fun b => match b with
  | true => M.ret true
  | false => g
def tNot (f : TM) : TM := f.bind fun b => M.ret (!b)
def eIf (c : TM) (f g : EM) : EM := c.bind fun b => match b with
  | true => f
  | false => g
def aNil : AM := M.ret []
def aCons (f : EM) (a : AM) : AM := f.bind fun x => a.bind fun xs => M.ret (x :: xs)
/-- all of them data -/
def dats : List SV → Option (List D)
  | [] => some []
  | .d x :: r => (dats r).map (x :: ·)
  | .h _ :: _ => none
def eTup (a : AM) : EM := a.bind fun xs => M.ask fun _ => (dats xs).bind fun ds => if ds.length ≤ sizeLine then some (.d (.tup ds)) else none
def eLst (a : AM) : EM := a.bind fun xs => M.ask fun _ => (dats xs).bind fun ds => if ds.length ≤ sizeLine then some (.d (.lst ds)) else none
/-- a list that will change -/
def eLstH (a : AM) : EM := a.bind fun xs => fun _ own => match dats xs with
  | some ds => if ds.length ≤ sizeLine then some (.ok (.h own.length), own ++ [.lst ds]) else none
  | none => none
/-- a call by values, nothing that stood is changed -/
def eCB (m : Own → List SV → Option SV) (a : AM) : EM := a.bind fun xs => M.ask fun own => m own xs

section
variable {X : Cx} {Y : Cy} {pos : Pos} {a b c : Expr} {f g h : EM} {t u : TM}

theorem dats_rel {T : Tb} {gh : Gh} {n : Nat} : ∀ {xs : List SV} {vs : List V} {ds : List D}, RSs T gh n xs vs → dats xs = some ds → Reps T gh.F ds vs
  | _, _, _, .nil, e => by cases e; exact .nil
  | _, _, ds, .cons (s := s) h r, e => by
    cases s with
    | d x =>
      have e : (dats _).map (x :: ·) = some ds := e
      obtain ⟨es, e1, e2⟩ := Option.map_eq_some_iff.mp e
      subst e2
      exact .cons h (dats_rel r e1)
    | h k => cases e

theorem r_v (i : Nat) (h : PE X a (tVar i)) : PE X a (trE Y (eV i)) := by
  refine PE.imp h fun σ H Q q => ?_
  obtain ⟨g, sd, own, R, S, r, own', e, q⟩ := q
  unfold eV at e
  cases e1 : sd[i]? with
  | none => rw [e1] at e; cases e
  | some o =>
    cases o with
    | none => rw [e1] at e; cases e
    | some s =>
      rw [e1] at e
      cases e
      obtain ⟨v, h1, h2⟩ := S.2 i s e1
      exact ⟨v, h1, q g v H R .rfl' h2⟩
theorem r_k {d : D} {v : V} (h : PE X a (tC v)) (r : ∀ F : Hp, Rep Y.T F d v) : PE X a (trE Y (eK d)) := by
  refine PE.imp h fun σ H Q q => ?_
  obtain ⟨g, sd, own, R, S, q⟩ := q
  exact at_ret q g v H R .rfl' (r _)
theorem r_int {i j pos} : PE X (.Constant (.int i) j pos) (trE Y (eK (.int i))) := r_k pe_int fun _ => .int i
theorem r_bl {i j pos} : PE X (.Constant (.bool i) j pos) (trE Y (eK (.bl i))) := r_k pe_bl fun _ => .bl i
theorem r_str {i j pos} : PE X (.Constant (.str i) j pos) (trE Y (eK (.str i))) := r_k pe_str fun _ => .str i
theorem r_non {j pos} : PE X (.Constant .none j pos) (trE Y (eK .non)) := r_k pe_non fun _ => .non

/-- an operator by values -/
def O2 (Y : Cy) (r : R2) (m : Own → SV → SV → Option D) : Prop := ∀ (gh : Gh) (own : Own) (H : Hp) (x y : SV) (v w : V) (z : D) (Q : VK),
  HRel Y.T Y.B gh own H → RS Y.T gh own.length x v → RS Y.T gh own.length y w → m own x y = some z →
  (∀ g' u H', HRel Y.T Y.B g' own H' → GExt Y.B gh own.length g' own.length → Rep Y.T g'.F z u → Q u H') → r v w H Q
theorem at_b {m : Own → SV → SV → Option D} {r : R2} (om : O2 Y r m) {σ : L2.St} {H : Hp} {Q : VK} (q : trE Y (eB m f g) σ H Q) : tOp r (trE Y f) (trE Y g) σ H Q := by
  obtain ⟨gh, sd, own, R, S, q⟩ := q
  refine at_bind R S q fun g1 o1 x v H1 R1 S1 e1 rx q1 => ?_
  refine at_bind R1 S1 q1 fun g2 o2 y w H2 R2 S2 e2 ry q2 => ?_
  obtain ⟨s, es, q3⟩ := at_ask q2
  obtain ⟨z, ez, e4⟩ := Option.map_eq_some_iff.mp es
  subst e4
  exact om g2 o2 H2 x y v w z Q R2 (rx.ext e2) ry ez q3
theorem r_bin {op : Operator} {m : Own → SV → SV → Option D} {r : R2} (ho : OpR X (binaryOp op) r) (om : O2 Y r m) (ha : PE X a (trE Y f)) (hb : PE X b (trE Y g)) : PE X (.BinOp a op b pos) (trE Y (eB m f g)) :=
  PE.imp (pe_op ho ha hb) fun _ _ _ q => at_b om q
theorem r_cmp {op : CmpOp} {m : Own → SV → SV → Option D} {r : R2} (ho : OpR X (compareOp op) r) (om : O2 Y r m) (ha : PE X a (trE Y f)) (hb : PE X b (trE Y g)) (hm : behindInMarks op b = false) : PE X (.Compare a [op] [b] pos) (trE Y (eB m f g)) :=
  PE.imp (pe_cmpR ho ha hb hm) fun _ _ _ q => at_b om q
theorem at_te {σ : L2.St} {H : Hp} {Q : Bool → Hp → Prop} (q : trT Y (tE f) σ H Q) : trE Y f σ H fun x H' => ∃ k, x = .bl k ∧ Q k H' := by
  obtain ⟨gh, sd, own, R, S, q⟩ := q
  refine at_bind R S q fun g1 o1 x v H1 R1 S1 e1 rx q1 => ?_
  cases x with
  | h k => exact (at_fail q1).elim
  | d x =>
    cases x with
    | bl k =>
      have rx : Rep Y.T g1.F (.bl k) v := rx
      cases rx
      exact ⟨k, rfl, at_ret q1 g1 k H1 R1 .rfl' rfl⟩
    | _ => exact (at_fail q1).elim
theorem b_te {m : Own → SV → SV → Option D} {r : R2} (om : O2 Y r m) {σ : L2.St} {H : Hp} {Q : Bool → Hp → Prop} (q : trT Y (tE (eB m f g)) σ H Q) : tTest (tOp r (trE Y f) (trE Y g)) σ H Q := at_b om (at_te q)
/-- a comparison as a test -/
theorem rt_cmp {op : CmpOp} {m : Own → SV → SV → Option D} {r : R2} (ho : OpR X (compareOp op) r) (om : O2 Y r m) (ha : PE X a (trE Y f)) (hb : PE X b (trE Y g)) (hm : behindInMarks op b = false) : PT X (.Compare a [op] [b] pos) (trT Y (tE (eB m f g))) :=
  PT.imp (pt_cmpR ho ha hb hm) fun _ _ _ q => b_te om q
/-- a plain expression as a test -/
theorem rt_val (h : PE X a (trE Y f)) (he : ∀ whole, isTrue a X.env whole = (do let v ← whole; standAt a.pos; holding [v] (truthy v)) := by intro _; rfl) : PT X a (trT Y (tE f)) :=
  PT.imp (pt_val h he) fun _ _ _ q => at_te q
theorem at_ch {m m' : Own → SV → SV → Option D} {r r' : R2} (om : O2 Y r m) (om' : O2 Y r' m') {σ : L2.St} {H : Hp} {Q : VK} (q : trE Y (eCh m m' f g h) σ H Q) : tChain r r' (trE Y f) (trE Y g) (trE Y h) σ H Q := by
  obtain ⟨gh, sd, own, R, S, q⟩ := q
  refine at_bind R S q fun g1 o1 x v H1 R1 S1 e1 rx q1 => ?_
  refine at_bind R1 S1 q1 fun g2 o2 y w H2 R2 S2 e2 ry q2 => ?_
  obtain ⟨r0, own', e, q2⟩ := q2
  cases ez : m o2 x y with
  | none => simp only [M.bind, M.ask, ez] at e; cases e
  | some z =>
    simp only [M.bind, M.ask, ez] at e
    refine om g2 o2 H2 x y v w z _ R2 (rx.ext e2) ry ez fun g3 u H3 R3 e3 rz => ?_
    cases z with
    | bl k =>
      cases rz
      refine ⟨k, rfl, ?_⟩
      cases k with
      | true =>
        rw [if_pos rfl]
        refine at_bind (relC := RS Y.T) R3 (S2.ext e3) (k := fun w => M.ask fun own => (m' own y w).map SV.d) ⟨r0, own', e, q2.shift e3⟩ fun g4 o4 zz ww H4 R4 S4 e4 rw4 q4 => ?_
        obtain ⟨s, es, q5⟩ := at_ask q4
        obtain ⟨z5, ez5, e5⟩ := Option.map_eq_some_iff.mp es
        subst e5
        exact om' g4 o4 H4 y zz w ww z5 Q R4 ((ry.ext e3).ext e4) rw4 ez5 q5
      | false =>
        rw [if_neg (by decide)]
        cases e
        exact q2 g3 _ H3 R3 e3 (.bl false)
    | _ => cases e
theorem r_ch {op op' : CmpOp} {m m' : Own → SV → SV → Option D} {r r' : R2} (ho : OpR X (compareOp op) r) (om : O2 Y r m) (ho' : OpR X (compareOp op') r') (om' : O2 Y r' m') (ha : PE X a (trE Y f)) (hb : PE X b (trE Y g)) (hc : PE X c (trE Y h)) (hlm : lastMarks [op, op'] [b, c] = false := by with_unfolding_all rfl) :
    PE X (.Compare a [op, op'] [b, c] pos) (trE Y (eCh m m' f g h)) := PE.imp (pe_chain ho ho' ha hb hc hlm) fun _ _ _ q => at_ch om om' q
theorem rt_ch {op op' : CmpOp} {m m' : Own → SV → SV → Option D} {r r' : R2} (ho : OpR X (compareOp op) r) (om : O2 Y r m) (ho' : OpR X (compareOp op') r') (om' : O2 Y r' m') (ha : PE X a (trE Y f)) (hb : PE X b (trE Y g)) (hc : PE X c (trE Y h)) (hlm : lastMarks [op, op'] [b, c] = false := by with_unfolding_all rfl) :
    PT X (.Compare a [op, op'] [b, c] pos) (trT Y (tE (eCh m m' f g h))) := PT.imp (pt_chain ho ho' ha hb hc hlm) fun _ _ _ q => at_ch om om' (at_te q)

theorem r_one {op} (h : PE X a (trE Y f)) : PE X (.BoolOp op [a] pos) (trE Y f) := pe_one h
theorem r_and {rest : List Expr} (ha : PE X a (trE Y f)) (hb : PE X (.BoolOp .And (b :: rest) pos) (trE Y g)) : PE X (.BoolOp .And (a :: b :: rest) pos) (trE Y (eAnd f g)) := by
  refine PE.imp (pe_and ha hb) fun σ H Q q => ?_
  obtain ⟨gh, sd, own, R, S, q⟩ := q
  refine at_bind R S q fun g1 o1 x v H1 R1 S1 e1 rx q1 => ?_
  cases x with
  | h k => exact (at_fail q1).elim
  | d x =>
    cases x with
    | bl k =>
      have rx : Rep Y.T g1.F (.bl k) v := rx
      cases rx
      refine ⟨k, rfl, ?_⟩
      cases k with
      | true => rw [if_pos rfl]; exact ⟨g1, sd, o1, R1, S1, q1⟩
      | false => rw [if_neg (by decide)]; exact at_ret q1 g1 _ H1 R1 .rfl' (Rep.bl false)
    | _ => exact (at_fail q1).elim
theorem r_or {rest : List Expr} (ha : PE X a (trE Y f)) (hb : PE X (.BoolOp .Or (b :: rest) pos) (trE Y g)) : PE X (.BoolOp .Or (a :: b :: rest) pos) (trE Y (eOr f g)) := by
  refine PE.imp (pe_or ha hb) fun σ H Q q => ?_
  obtain ⟨gh, sd, own, R, S, q⟩ := q
  refine at_bind R S q fun g1 o1 x v H1 R1 S1 e1 rx q1 => ?_
  cases x with
  | h k => exact (at_fail q1).elim
  | d x =>
    cases x with
    | bl k =>
      have rx : Rep Y.T g1.F (.bl k) v := rx
      cases rx
      refine ⟨k, rfl, ?_⟩
      cases k with
      | false => rw [if_neg (by decide)]; exact ⟨g1, sd, o1, R1, S1, q1⟩
      | true => rw [if_pos rfl]; exact at_ret q1 g1 _ H1 R1 .rfl' (Rep.bl true)
    | _ => exact (at_fail q1).elim
theorem r_not (ha : PE X a (trE Y f)) : PE X (.UnaryOp .Not a pos) (trE Y (eNot f)) := by
  refine PE.imp (pe_not ha) fun σ H Q q => ?_
  obtain ⟨gh, sd, own, R, S, q⟩ := q
  refine at_bind R S q fun g1 o1 x v H1 R1 S1 e1 rx q1 => ?_
  cases x with
  | h k => exact (at_fail q1).elim
  | d x =>
    cases x with
    | bl k =>
      have rx : Rep Y.T g1.F (.bl k) v := rx
      cases rx
      exact ⟨k, rfl, at_ret q1 g1 _ H1 R1 .rfl' (Rep.bl (!k))⟩
    | _ => exact (at_fail q1).elim
theorem rw_and1 (ha : PT X a (trT Y t)) : PW X (.BoolOp .And [a] pos) (trT Y t) := pw_and1 ha
theorem rw_or1 (ha : PT X a (trT Y t)) : PW X (.BoolOp .Or [a] pos) (trT Y t) := pw_or1 ha
theorem rw_and {rest : List Expr} (ha : PT X a (trT Y t)) (hb : PW X (.BoolOp .And (b :: rest) pos) (trT Y u)) : PW X (.BoolOp .And (a :: b :: rest) pos) (trT Y (tAnd t u)) := by
  refine PW.imp (pw_and ha hb) fun σ H Q q => ?_
  obtain ⟨gh, sd, own, R, S, q⟩ := q
  refine at_bind R S q fun g1 o1 x v H1 R1 S1 e1 rx q1 => ?_
  obtain rfl : x = v := rx
  cases x with
  | true => rw [if_pos rfl]; exact ⟨g1, sd, o1, R1, S1, q1⟩
  | false => rw [if_neg (by decide)]; exact at_ret q1 g1 _ H1 R1 .rfl' rfl
theorem rw_or {rest : List Expr} (ha : PT X a (trT Y t)) (hb : PW X (.BoolOp .Or (b :: rest) pos) (trT Y u)) : PW X (.BoolOp .Or (a :: b :: rest) pos) (trT Y (tOr t u)) := by
  refine PW.imp (pw_or ha hb) fun σ H Q q => ?_
  obtain ⟨gh, sd, own, R, S, q⟩ := q
  refine at_bind R S q fun g1 o1 x v H1 R1 S1 e1 rx q1 => ?_
  obtain rfl : x = v := rx
  cases x with
  | false => rw [if_neg (by decide)]; exact ⟨g1, sd, o1, R1, S1, q1⟩
  | true => rw [if_pos rfl]; exact at_ret q1 g1 _ H1 R1 .rfl' rfl
theorem rt_not (ha : PT X a (trT Y t)) : PT X (.UnaryOp .Not a pos) (trT Y (tNot t)) := by
  refine PT.imp (pt_not ha) fun σ H Q q => ?_
  obtain ⟨gh, sd, own, R, S, q⟩ := q
  refine at_bind R S q fun g1 o1 x v H1 R1 S1 e1 rx q1 => ?_
  obtain rfl : x = v := rx
  exact at_ret q1 g1 _ H1 R1 .rfl' rfl
theorem r_if (hc : PT X c (trT Y t)) (ha : PE X a (trE Y f)) (hb : PE X b (trE Y g)) : PE X (.IfExp c a b pos) (trE Y (eIf t f g)) := by
  refine PE.imp (pe_ifExp hc ha hb) fun σ H Q q => ?_
  obtain ⟨gh, sd, own, R, S, q⟩ := q
  refine at_bind R S q fun g1 o1 x v H1 R1 S1 e1 rx q1 => ?_
  obtain rfl : x = v := rx
  cases x with
  | true => rw [if_pos rfl]; exact ⟨g1, sd, o1, R1, S1, q1⟩
  | false => rw [if_neg (by decide)]; exact ⟨g1, sd, o1, R1, S1, q1⟩

/-! ### arguments, displays -/
theorem ra_nil : PA X [] (trA Y aNil) := by
  refine PA.imp pa_nil fun σ H Q q => ?_
  obtain ⟨gh, sd, own, R, S, q⟩ := q
  exact at_ret q gh _ H R .rfl' .nil
theorem ra_cons {es : List Expr} {al : AM} (ha : PE X a (trE Y f)) (hr : PA X es (trA Y al)) (hs : starEach (a :: es) X.env = (false, eval a X.env) :: starEach es X.env := by rfl) : PA X (a :: es) (trA Y (aCons f al)) := by
  refine PA.imp (pa_cons ha hr hs) fun σ H Q q => ?_
  obtain ⟨gh, sd, own, R, S, q⟩ := q
  refine at_bind R S q fun g1 o1 x v H1 R1 S1 e1 rx q1 => ?_
  refine at_bind R1 S1 q1 fun g2 o2 xs vs H2 R2 S2 e2 rs q2 => ?_
  exact at_ret q2 g2 _ H2 R2 .rfl' (.cons (rx.ext e2) rs)
theorem r_tup {es : List Expr} {x1} {al : AM} (ha : PA X es (trA Y al)) : PE X (.Tuple es x1 pos) (trE Y (eTup al)) := by
  refine PE.imp (pe_tup ha) fun σ H Q q => ?_
  obtain ⟨gh, sd, own, R, S, q⟩ := q
  refine at_bind R S q fun g1 o1 xs vs H1 R1 S1 e1 rs q1 => ?_
  obtain ⟨s, es, q2⟩ := at_ask q1
  obtain ⟨ds, ed, e3⟩ := Option.bind_eq_some_iff.mp es
  have rd := dats_rel rs ed
  by_cases hl : ds.length ≤ sizeLine
  · rw [if_pos hl] at e3
    cases e3
    refine ⟨by rw [← rd.length]; exact hl, fun p hp => ?_⟩
    obtain ⟨R2, e2⟩ := R1.new hp (.tup vs)
    exact q2 _ _ _ R2 e2 (Rep.tup (SqT.of upd_same) (rd.le e2.F))
  · rw [if_neg hl] at e3; cases e3
theorem r_lst {es : List Expr} {al : AM} (ha : PA X es (trA Y al)) : PE X (.List es pos) (trE Y (eLst al)) := by
  refine PE.imp (pe_lst ha) fun σ H Q q => ?_
  obtain ⟨gh, sd, own, R, S, q⟩ := q
  refine at_bind R S q fun g1 o1 xs vs H1 R1 S1 e1 rs q1 => ?_
  obtain ⟨s, es, q2⟩ := at_ask q1
  obtain ⟨ds, ed, e3⟩ := Option.bind_eq_some_iff.mp es
  have rd := dats_rel rs ed
  by_cases hl : ds.length ≤ sizeLine
  · rw [if_pos hl] at e3
    cases e3
    refine ⟨by rw [← rd.length]; exact hl, fun p hp => ?_⟩
    obtain ⟨R2, e2⟩ := R1.new hp (.lst vs)
    exact q2 _ _ _ R2 e2 (Rep.lst upd_same (rd.le e2.F))
  · rw [if_neg hl] at e3; cases e3
theorem r_lstH {es : List Expr} {al : AM} (ha : PA X es (trA Y al)) : PE X (.List es pos) (trE Y (eLstH al)) := by
  refine PE.imp (pe_lst ha) fun σ H Q q => ?_
  obtain ⟨gh, sd, own, R, S, q⟩ := q
  refine at_bind R S q fun g1 o1 xs vs H1 R1 S1 e1 rs q1 => ?_
  obtain ⟨r0, own', e, q1⟩ := q1
  cases ed : dats xs with
  | none => rw [ed] at e; cases e
  | some ds =>
    rw [ed] at e
    have rd := dats_rel rs ed
    by_cases hl : ds.length ≤ sizeLine
    · have e : (if ds.length ≤ sizeLine then some (Rz.ok (SV.h o1.length), o1 ++ [O.lst ds]) else none) = some (r0, own') := e
      rw [if_pos hl] at e
      cases e
      refine ⟨by rw [← rd.length]; exact hl, fun p hp => ?_⟩
      obtain ⟨R2, e2⟩ := R1.made hp (ho := .lst vs) (o := .lst ds) ⟨vs, upd_same, rd⟩
      exact q1 _ _ _ R2 e2 ⟨by simp, by show V.ref p = .ref (if o1.length = o1.length then p else _); rw [if_pos rfl]⟩
    · have e : (if ds.length ≤ sizeLine then some (Rz.ok (SV.h o1.length), o1 ++ [O.lst ds]) else none) = some (r0, own') := e
      rw [if_neg hl] at e; cases e

/-! ### built-ins by values -/
def OB (Y : Cy) (r : List V → Hp → VK → Prop) (m : Own → List SV → Option SV) : Prop := ∀ (gh : Gh) (own : Own) (H : Hp) (xs : List SV) (vs : List V) (z : SV) (Q : VK),
  HRel Y.T Y.B gh own H → RSs Y.T gh own.length xs vs → m own xs = some z →
  (∀ g' u H', HRel Y.T Y.B g' own H' → GExt Y.B gh own.length g' own.length → RS Y.T g' own.length z u → Q u H') → r vs H Q
theorem at_cb {m : Own → List SV → Option SV} {r : List V → Hp → VK → Prop} (om : OB Y r m) {al : AM} {σ : L2.St} {H : Hp} {Q : VK} (q : trE Y (eCB m al) σ H Q) : tCB r (trA Y al) σ H Q := by
  obtain ⟨gh, sd, own, R, S, q⟩ := q
  refine at_bind R S q fun g1 o1 xs vs H1 R1 S1 e1 rs q1 => ?_
  obtain ⟨s, es, q2⟩ := at_ask q1
  exact om g1 o1 H1 xs vs s Q R1 rs es q2
theorem r_cb {x : Str} {id : String} {p : Pos} {es : List Expr} {m : Own → List SV → Option SV} {r : List V → Hp → VK → Prop} {al : AM} (hc : CallR X (.builtin id) r) (om : OB Y r m) (hm : X.mg x = none) (ha : PA X (a :: es) (trA Y al)) (hg : Gl X x := by rfl) (hv : bootBuiltins x = some (.builtin id) := by decide +kernel)
    (hn : x ≠ "__name__" := by decide) (hdb : (x == ("__debug__" : Str)) = false := by decide) (he : starEach (a :: es) X.env = (false, eval a X.env) :: starEach es X.env := by rfl) (hpl : (backTo pos (starEach es X.env)).any (·.1) = false := by rfl) : PE X (.Call (.Name x p) (a :: es) [] pos) (trE Y (eCB m al)) :=
  PE.imp (pe_callB hc hg hm hv ha hn hdb he hpl) fun _ _ _ q => at_cb om q
theorem r_ct {x : Str} {ty : String} {p : Pos} {es : List Expr} {m : Own → List SV → Option SV} {r : List V → Hp → VK → Prop} {al : AM} (hc : CallR X (.type ty) r) (om : OB Y r m) (hm : X.mg x = none) (ha : PA X (a :: es) (trA Y al)) (hg : Gl X x := by rfl) (hv : bootBuiltins x = some (.type ty) := by decide +kernel)
    (hn : x ≠ "__name__" := by decide) (hdb : (x == ("__debug__" : Str)) = false := by decide) (he : starEach (a :: es) X.env = (false, eval a X.env) :: starEach es X.env := by rfl) (hpl : (backTo pos (starEach es X.env)).any (·.1) = false := by rfl) : PE X (.Call (.Name x p) (a :: es) [] pos) (trE Y (eCB m al)) :=
  PE.imp (pe_callTy hc hg hm hv ha hn hdb he hpl) fun _ _ _ q => at_cb om q
end
end Gx
end T_GxR2
section T_GxR3
set_option Elab.async false
set_option linter.all false
set_option maxRecDepth 100000
set_option maxHeartbeats 4000000
namespace Gx
open PySem PySem.Spec PyProof.Rows L2

section
variable {T : Tb} {F : Hp}
theorem rep_int {i : Int} {v : V} (r : Rep T F (.int i) v) : v = .int i := by cases r; rfl
theorem rep_str {i : Str} {v : V} (r : Rep T F (.str i) v) : v = .str i := by cases r; rfl
theorem rep_bl {i : Bool} {v : V} (r : Rep T F (.bl i) v) : v = .bl i := by cases r; rfl
theorem rep_non {v : V} (r : Rep T F .non v) : v = .non := by cases r; rfl
theorem reps_ints : ∀ {is : List Int} {vs : List V}, Reps T F (is.map D.int) vs → vs = is.map V.int
  | [], _, r => by cases r; rfl
  | i :: is, _, r => by
    cases r with
    | cons h t =>
      rw [rep_int h, reps_ints t]; rfl
theorem reps_bls : ∀ {is : List Bool} {vs : List V}, Reps T F (is.map D.bl) vs → vs = is.map V.bl
  | [], _, r => by cases r; rfl
  | i :: is, _, r => by
    cases r with
    | cons h t =>
      rw [rep_bl h, reps_bls t]; rfl
theorem reps_strs : ∀ {is : List Str} {vs : List V}, Reps T F (is.map D.str) vs → vs = is.map V.str
  | [], _, r => by cases r; rfl
  | i :: is, _, r => by
    cases r with
    | cons h t =>
      rw [rep_str h, reps_strs t]; rfl
end
/-- ints, bools, texts out of data -/
def intsD : List D → Option (List Int)
  | [] => some []
  | .int i :: r => (intsD r).map (i :: ·)
  | _ :: _ => none
def blsD : List D → Option (List Bool)
  | [] => some []
  | .bl i :: r => (blsD r).map (i :: ·)
  | _ :: _ => none
def strsD : List D → Option (List Str)
  | [] => some []
  | .str i :: r => (strsD r).map (i :: ·)
  | _ :: _ => none
theorem intsD_map : ∀ {ds : List D} {is : List Int}, intsD ds = some is → ds = is.map D.int
  | [], _, h => by cases h; rfl
  | .int i :: r, is, h => by
    have h : (intsD r).map (i :: ·) = some is := h
    obtain ⟨js, e1, e2⟩ := Option.map_eq_some_iff.mp h
    subst e2
    rw [intsD_map e1]; rfl
  | .non :: _, _, h => by cases h
  | .bl _ :: _, _, h => by cases h
  | .str _ :: _, _, h => by cases h
  | .ty _ :: _, _, h => by cases h
  | .cls _ :: _, _, h => by cases h
  | .tup _ :: _, _, h => by cases h
  | .lst _ :: _, _, h => by cases h
  | .dic _ _ :: _, _, h => by cases h
  | .obj _ _ :: _, _, h => by cases h
theorem intsD_of : ∀ (is : List Int), intsD (is.map D.int) = some is
  | [] => rfl
  | i :: r => by show (intsD (r.map D.int)).map (i :: ·) = _; rw [intsD_of r]; rfl
theorem blsD_map : ∀ {ds : List D} {is : List Bool}, blsD ds = some is → ds = is.map D.bl
  | [], _, h => by cases h; rfl
  | .bl i :: r, is, h => by
    have h : (blsD r).map (i :: ·) = some is := h
    obtain ⟨js, e1, e2⟩ := Option.map_eq_some_iff.mp h
    subst e2
    rw [blsD_map e1]; rfl
  | .non :: _, _, h => by cases h
  | .int _ :: _, _, h => by cases h
  | .str _ :: _, _, h => by cases h
  | .ty _ :: _, _, h => by cases h
  | .cls _ :: _, _, h => by cases h
  | .tup _ :: _, _, h => by cases h
  | .lst _ :: _, _, h => by cases h
  | .dic _ _ :: _, _, h => by cases h
  | .obj _ _ :: _, _, h => by cases h
theorem blsD_of : ∀ (is : List Bool), blsD (is.map D.bl) = some is
  | [] => rfl
  | i :: r => by show (blsD (r.map D.bl)).map (i :: ·) = _; rw [blsD_of r]; rfl
theorem strsD_map : ∀ {ds : List D} {is : List Str}, strsD ds = some is → ds = is.map D.str
  | [], _, h => by cases h; rfl
  | .str i :: r, is, h => by
    have h : (strsD r).map (i :: ·) = some is := h
    obtain ⟨js, e1, e2⟩ := Option.map_eq_some_iff.mp h
    subst e2
    rw [strsD_map e1]; rfl
  | .non :: _, _, h => by cases h
  | .int _ :: _, _, h => by cases h
  | .bl _ :: _, _, h => by cases h
  | .ty _ :: _, _, h => by cases h
  | .cls _ :: _, _, h => by cases h
  | .tup _ :: _, _, h => by cases h
  | .lst _ :: _, _, h => by cases h
  | .dic _ _ :: _, _, h => by cases h
  | .obj _ _ :: _, _, h => by cases h
theorem strsD_of : ∀ (is : List Str), strsD (is.map D.str) = some is
  | [] => rfl
  | i :: r => by show (strsD (r.map D.str)).map (i :: ·) = _; rw [strsD_of r]; rfl

/-! ## operators upon ints -/
/-- two ints, a condition, the value -/
def m2I (C : Int → Int → Bool) (f : Int → Int → D) : Own → SV → SV → Option D := fun _ x y => match x, y with
  | .d (.int i), .d (.int j) => if C i j = true then some (f i j) else none
  | _, _ => none
theorem sv_int {T : Tb} {g : Gh} {n : Nat} {i : Int} {v : V} (r : RS T g n (.d (.int i)) v) : v = .int i := rep_int r
theorem m2I_inv {C : Int → Int → Bool} {f : Int → Int → D} {own : Own} {x y : SV} {z : D} (h : m2I C f own x y = some z) : ∃ i j, x = .d (.int i) ∧ y = .d (.int j) ∧ C i j = true ∧ z = f i j := by
  cases x with
  | h k => cases h
  | d x =>
    cases x with
    | int i =>
      cases y with
      | h k => cases h
      | d y =>
        cases y with
        | int j =>
          have h : (if C i j = true then some (f i j) else none) = some z := h
          by_cases c : C i j = true
          · rw [if_pos c] at h; cases h; exact ⟨i, j, rfl, rfl, c, rfl⟩
          · rw [if_neg c] at h; cases h
        | _ => cases h
    | _ => cases h
section
variable {Y : Cy}
theorem o2_I0 {g : Int → Int → V} {f : Int → Int → D} (hf : ∀ F i j, Rep Y.T F (f i j) (g i j)) : O2 Y (rI0 g) (m2I (fun _ _ => true) f) := by
  intro gh own H x y v w z Q R rx ry h k
  obtain ⟨i, j, rfl, rfl, _, rfl⟩ := m2I_inv h
  exact ⟨i, j, sv_int rx, sv_int ry, k gh _ H R .rfl' (hf _ i j)⟩
theorem o2_I {C : Int → Int → Prop} {c : Int → Int → Bool} {g : Int → Int → V} {f : Int → Int → D} (hc : ∀ i j, c i j = true → C i j) (hf : ∀ F i j, Rep Y.T F (f i j) (g i j)) : O2 Y (rI C g) (m2I c f) := by
  intro gh own H x y v w z Q R rx ry h k
  obtain ⟨i, j, rfl, rfl, e, rfl⟩ := m2I_inv h
  exact ⟨i, j, sv_int rx, sv_int ry, hc i j e, k gh _ H R .rfl' (hf _ i j)⟩
end
def mSub := m2I (fun _ _ => true) fun i j => .int (i - j)
def mMul := m2I (fun i j => decide ((-(2 ^ 64) < i ∧ i < 2 ^ 64) ∨ (-(2 ^ 64) < j ∧ j < 2 ^ 64))) fun i j => .int (i * j)
def mFdiv := m2I (fun _ j => decide (0 < j ∧ j < 1073741824)) fun i j => .int (i / j)
def mMod := m2I (fun _ j => decide (0 < j)) fun i j => .int (i % j)
def mPow := m2I (fun i j => decide (0 ≤ j ∧ j ≤ 1000000 ∧ i.natAbs < 2 ^ 64)) fun i j => .int (i ^ j.toNat)
def mLt := m2I (fun _ _ => true) fun i j => .bl (decide (i < j))
def mLe := m2I (fun _ _ => true) fun i j => .bl (decide (i ≤ j))
def mGt := m2I (fun _ _ => true) fun i j => .bl (decide (j < i))
def mGe := m2I (fun _ _ => true) fun i j => .bl (decide (j ≤ i))
def mNeg : Own → SV → Option D := fun _ x => match x with
  | .d (.int i) => some (.int (-i))
  | _ => none
/-- + of ints, texts, tuples, lists -/
def mAdd : Own → SV → SV → Option D := fun own x y => match x, y with
  | .d (.int i), .d (.int j) => some (.int (i + j))
  | .d (.str a), .d (.str b) => if a.length + b.length ≤ sizeLine then some (.str (a ++ b)) else none
  | .d (.tup xs), .d (.tup ys) => if xs.length + ys.length ≤ sizeLine then some (.tup (xs ++ ys)) else none
  | x, y => (lstV own x).bind fun xs => (lstV own y).bind fun ys => if xs.length + ys.length ≤ sizeLine then some (.lst (xs ++ ys)) else none
def mEq : Own → SV → SV → Option D := fun own x y => (datV own x).bind fun a => (datV own y).bind fun b => if (okN 60 a && okN 60 b) = true then some (.bl (eqN 60 a b)) else none
def mNe : Own → SV → SV → Option D := fun own x y => (datV own x).bind fun a => (datV own y).bind fun b => if (okN 60 a && okN 60 b) = true then some (.bl (!eqN 60 a b)) else none
def mIsN : Own → SV → SV → Option D := fun _ x y => match x, y with
  | .d .non, .d .non => some (.bl true)
  | _, .d .non => some (.bl false)
  | _, _ => none
def mNotN : Own → SV → SV → Option D := fun _ x y => match x, y with
  | .d .non, .d .non => some (.bl false)
  | _, .d .non => some (.bl true)
  | _, _ => none
/-- the mark of a locked dict is no key -/
def unM : List D → List D
  | .ty 5 :: ks => ks
  | ks => ks
theorem unM_keys : ∀ kvs : List (Key × V), unM (kvs.map fun p => keyD p.1) = kvs.map fun p => keyD p.1
  | [] => rfl
  | (.inl _, _) :: _ => rfl
  | (.inr _, _) :: _ => rfl
/-- x in a list or a tuple, or in a dict -/
def dicV (own : Own) : SV → Option (List D × List D)
  | .d (.dic ks xs) => some (unM ks, xs)
  | .h k => match own[k]? with
    | some (.dic ks xs) => some (ks, xs)
    | _ => none
  | _ => none
def keyOf : D → Option Key
  | .int i => some (.inl i)
  | .str x => some (.inr x)
  | _ => none
/-- the value of a key -/
def getK (k : Key) : List D → List D → Option D
  | .int i :: ks, x :: xs => if k = .inl i then some x else getK k ks xs
  | .str i :: ks, x :: xs => if k = .inr i then some x else getK k ks xs
  | _, _ => none
def mIn (neg : Bool) : Own → SV → SV → Option D := fun own x y => match dicV own y with
  | some (ks, xs) => match x with
    | .d d => (keyOf d).map fun k => .bl ((getK k ks xs).isSome != neg)
    | _ => none
  | none => (seqV own y).bind fun ys => (datV own x).bind fun a => if (okN 60 a && ys.all (okN 59)) = true then some (.bl ((ys.any fun z => eqN 60 z a) != neg)) else none

section
variable {X : Cx} {Y : Cy}
theorem okN_mono : ∀ (n : Nat) (d : D), okN n d = true → okN (n + 1) d = true
  | 0, d, h => by cases d <;> first | rfl | exact h | exact Bool.noConfusion h
  | n + 1, d, h => by
    have all : ∀ xs : List D, xs.all (okN n) = true → xs.all (okN (n + 1)) = true := fun xs h => by
      rw [List.all_eq_true] at h ⊢
      exact fun x hx => okN_mono n x (h x hx)
    cases d <;> first | rfl | exact h | exact Bool.noConfusion h | exact all _ h
theorem pyN_mono : ∀ (n : Nat) (d : D), okN n d = true → pyN (n + 1) d = pyN n d
  | 0, d, h => by cases d <;> first | rfl | exact Bool.noConfusion h
  | n + 1, d, h => by
    have all : ∀ xs : List D, xs.all (okN n) = true → xs.map (pyN (n + 1)) = xs.map (pyN n) := fun xs h => by
      rw [List.all_eq_true] at h
      exact List.map_congr_left fun x hx => pyN_mono n x (h x hx)
    cases d <;> first | rfl | exact Bool.noConfusion h | exact congrArg PyData.tuple (all _ h) | exact congrArg PyData.list (all _ h)
theorem eqN_mono : ∀ (n : Nat) (a b : D), okN n a = true → okN n b = true → eqN (n + 1) a b = eqN n a b := fun n a b ha hb => by
  rw [← py_eq n a b ha hb, ← py_eq (n + 1) a b (okN_mono n a ha) (okN_mono n b hb), pyN_mono n a ha, pyN_mono n b hb]

theorem o2_eq : O2 Y (rEqD Y.T.K) mEq := by
  intro gh own H x y v w z Q R rx ry h k
  obtain ⟨a, ea, h⟩ := Option.bind_eq_some_iff.mp h
  obtain ⟨b, eb, h⟩ := Option.bind_eq_some_iff.mp h
  by_cases c : (okN 60 a && okN 60 b) = true
  · rw [if_pos c] at h
    cases h
    obtain ⟨c1, c2⟩ := Bool.and_eq_true_iff.mp c
    refine ⟨_, _, dat_of R rx ea c1, dat_of R ry eb c2, shaped_of c1, shaped_of c2, ?_⟩
    rw [py_eq 60 a b c1 c2]
    exact k gh _ H R .rfl' (.bl _)
  · rw [if_neg c] at h; cases h
theorem o2_ne : O2 Y (rNeD Y.T.K) mNe := by
  intro gh own H x y v w z Q R rx ry h k
  obtain ⟨a, ea, h⟩ := Option.bind_eq_some_iff.mp h
  obtain ⟨b, eb, h⟩ := Option.bind_eq_some_iff.mp h
  by_cases c : (okN 60 a && okN 60 b) = true
  · rw [if_pos c] at h
    cases h
    obtain ⟨c1, c2⟩ := Bool.and_eq_true_iff.mp c
    refine ⟨_, _, dat_of R rx ea c1, dat_of R ry eb c2, shaped_of c1, shaped_of c2, ?_⟩
    rw [py_eq 60 a b c1 c2]
    exact k gh _ H R .rfl' (.bl _)
  · rw [if_neg c] at h; cases h
abbrev rAddA (K : PySem.W.Frag) : R2 := fun x y H Q => (rI0 (fun i j => .int (i + j)) x y H Q ∨ ∃ i j, x = .str i ∧ y = .str j ∧ i.length + j.length ≤ sizeLine ∧ Q (.str (i ++ j)) H) ∨ (rCatA K x y H Q ∨ rCat x y H Q)
theorem op_addA : OpR X (binaryOp .Add) (rAddA X.K) := (op_add.or op_add_str).or (op_catA.or op_cat)
theorem o2_add : O2 Y (rAddA Y.T.K) mAdd := by
  intro gh own H x y v w z Q R rx ry h k
  have lists : (lstV own x).bind (fun xs => (lstV own y).bind fun ys => if xs.length + ys.length ≤ sizeLine then some (D.lst (xs ++ ys)) else none) = some z → rAddA Y.T.K v w H Q := fun h => by
    obtain ⟨xs, ex, h⟩ := Option.bind_eq_some_iff.mp h
    obtain ⟨ys, ey, h⟩ := Option.bind_eq_some_iff.mp h
    obtain ⟨a, vs, rfl, h1, h2⟩ := lst_of R rx ex
    obtain ⟨b, ws, rfl, h3, h4⟩ := lst_of R ry ey
    by_cases c : xs.length + ys.length ≤ sizeLine
    · rw [if_pos c] at h
      cases h
      refine .inr (.inr ⟨a, b, vs, ws, rfl, rfl, h1, h3, by rw [← h2.length, ← h4.length]; exact c, fun p hp => ?_⟩)
      obtain ⟨R2, e2⟩ := R.new hp (.lst (vs ++ ws))
      exact k _ _ _ R2 e2 (.lst upd_same ((h2.append h4).le e2.F))
    · rw [if_neg c] at h; cases h
  cases x with
  | h kx => exact lists h
  | d x =>
    cases x with
    | int i =>
      cases y with
      | h ky => exact lists h
      | d y =>
        cases y with
        | int j => cases h; exact .inl (.inl ⟨i, j, sv_int rx, sv_int ry, k gh _ H R .rfl' (.int _)⟩)
        | _ => exact lists h
    | str a =>
      cases y with
      | h ky => exact lists h
      | d y =>
        cases y with
        | str b =>
          have h : (if a.length + b.length ≤ sizeLine then some (D.str (a ++ b)) else none) = some z := h
          by_cases c : a.length + b.length ≤ sizeLine
          · rw [if_pos c] at h; cases h
            exact .inl (.inr ⟨a, b, rep_str rx, rep_str ry, c, k gh _ H R .rfl' (.str _)⟩)
          · rw [if_neg c] at h; cases h
        | _ => exact lists h
    | tup xs =>
      cases y with
      | h ky => exact lists h
      | d y =>
        cases y with
        | tup ys =>
          have h : (if xs.length + ys.length ≤ sizeLine then some (D.tup (xs ++ ys)) else none) = some z := h
          by_cases c : xs.length + ys.length ≤ sizeLine
          · rw [if_pos c] at h; cases h
            have rx' : Rep Y.T gh.F (.tup xs) v := rx
            have ry' : Rep Y.T gh.F (.tup ys) w := ry
            cases rx' with
            | @tup a vs _ h1 h2 =>
              cases ry' with
              | @tup b ws _ h3 h4 =>
                have lx := h2.length
                have ly := h4.length
                refine .inr (.inl ⟨a, b, vs, ws, rfl, rfl, SqT.le R.f h1, SqT.le R.f h3, by rw [← lx, ← ly]; exact c, fun e => ?_, fun _ e => ?_, fun _ _ p hp => ?_⟩)
                · subst e
                  have : xs = [] := List.length_eq_zero_iff.mp lx
                  subst this
                  exact k gh _ H R .rfl' ry
                · subst e
                  have : ys = [] := List.length_eq_zero_iff.mp ly
                  subst this
                  rw [List.append_nil] at k
                  exact k gh _ H R .rfl' rx
                · obtain ⟨R2, e2⟩ := R.new hp (.tup (vs ++ ws))
                  exact k _ _ _ R2 e2 (.tup (SqT.of upd_same) ((h2.append h4).le e2.F))
          · rw [if_neg c] at h; cases h
        | _ => exact lists h
    | _ => exact lists h
def isNonS : SV → Bool
  | .d .non => true
  | _ => false
theorem isN_of {T : Tb} {g : Gh} {n : Nat} {x : SV} {v : V} (r : RS T g n x v) : decide (v = .non) = isNonS x := by
  cases x with
  | h k =>
    have e : v = .ref (g.ρ k) := r.2
    subst e; rfl
  | d x =>
    have r : Rep T g.F x v := r
    cases r <;> rfl
abbrev rIsNo : R2 := fun x y H Q => y = .non ∧ Q (.bl (decide (x = .non))) H
abbrev rNotNo : R2 := fun x y H Q => y = .non ∧ Q (.bl (!decide (x = .non))) H
theorem o2_isN : O2 Y rIsNo mIsN := by
  intro gh own H x y v w z Q R rx ry h k
  have e := isN_of rx
  cases y with
  | h ky => cases x with
    | h kx => cases h
    | d x => cases x <;> cases h
  | d y =>
    cases y with
    | non =>
      refine ⟨rep_non ry, ?_⟩
      rw [e]
      cases x with
      | h kx => cases h; exact k gh _ H R .rfl' (.bl _)
      | d x => cases x <;> (cases h; exact k gh _ H R .rfl' (.bl _))
    | _ => cases x with
      | h kx => cases h
      | d x => cases x <;> cases h
theorem o2_notN : O2 Y rNotNo mNotN := by
  intro gh own H x y v w z Q R rx ry h k
  have e := isN_of rx
  cases y with
  | h ky => cases x with
    | h kx => cases h
    | d x => cases x <;> cases h
  | d y =>
    cases y with
    | non =>
      refine ⟨rep_non ry, ?_⟩
      rw [e]
      cases x with
      | h kx => cases h; exact k gh _ H R .rfl' (.bl _)
      | d x => cases x <;> (cases h; exact k gh _ H R .rfl' (.bl _))
    | _ => cases x with
      | h kx => cases h
      | d x => cases x <;> cases h
end
end Gx
end T_GxR3
section T_GxR4
set_option Elab.async false
set_option linter.all false
set_option maxRecDepth 100000
set_option maxHeartbeats 4000000
namespace Gx
open PySem PySem.Spec PyProof.Rows L2

/-! ## in -/
theorem getK_rel {T : Tb} {F : Hp} {k : Key} : ∀ {kvs : List (Key × V)} {xs : List D}, Reps T F xs (kvs.map (·.2)) →
    (∀ d, getK k (kvs.map fun p => keyD p.1) xs = some d → ∃ v, valV kvs k = some v ∧ Rep T F d v) ∧ (getK k (kvs.map fun p => keyD p.1) xs = none → valV kvs k = none) := by
  intro kvs
  induction kvs with
  | nil => intro xs r; cases r; exact ⟨fun d h => (nomatch h), fun _ => rfl⟩
  | cons p r ih =>
    intro xs rr
    cases rr with
    | @cons d v ds vs h t =>
      obtain ⟨i1, i2⟩ := ih t
      obtain ⟨kk, kv⟩ := p
      have hd : getK k (List.map (fun p => keyD p.1) ((kk, kv) :: r)) (d :: ds) = if k = kk then some d else getK k (r.map fun p => keyD p.1) ds := by
        cases kk <;> rfl
      have hv : valV ((kk, kv) :: r) k = if kk = k then some kv else valV r k := by
        unfold valV
        rw [List.find?_cons]
        by_cases c : kk = k
        · rw [if_pos c, decide_eq_true c]; rfl
        · rw [if_neg c, decide_eq_false c]
      rw [hd, hv]
      by_cases c : k = kk
      · subst c
        rw [if_pos rfl, if_pos rfl]
        exact ⟨fun e he => ⟨kv, rfl, by cases he; exact h⟩, fun z => (nomatch z)⟩
      · rw [if_neg c, if_neg (fun z => c z.symm)]
        exact ⟨i1, i2⟩
theorem dic_of {T : Tb} {B : Hp} {g : Gh} {own : Own} {H : Hp} {s : SV} {v : V} (R : HRel T B g own H) (r : RS T g own.length s v) {ks xs : List D} (h : dicV own s = some (ks, xs)) :
    ∃ a, ∃ kvs : List (Key × V), v = .ref a ∧ Rd H a (.dK kvs) ∧ ks = kvs.map (fun p => keyD p.1) ∧ Reps T g.F xs (kvs.map (·.2)) := by
  cases s with
  | d x =>
    cases x with
    | dic k1 x1 =>
      have r : Rep T g.F (.dic k1 x1) v := r
      cases h
      cases r with
      | dic h1 h2 h3 => subst h2; exact ⟨_, _, rfl, Rd.le R.f h1, unM_keys _, h3⟩
      | ldic h1 h2 h3 => exact ⟨_, _, rfl, .inr ⟨_, R.f _ _ h1⟩, h2, h3⟩
    | _ => cases h
  | h k =>
    have h : (match own[k]? with | some (.dic ks xs) => some (ks, xs) | _ => none) = some (ks, xs) := h
    cases e : own[k]? with
    | none => rw [e] at h; cases h
    | some o =>
      rw [e] at h
      cases o with
      | dic k1 x1 =>
        cases h
        obtain ⟨kvs, h1, h2, h3⟩ := R.o k _ e
        exact ⟨_, kvs, r.2, .inl h1, h2, h3⟩
      | _ => cases h
theorem keyOf_rel {T : Tb} {F : Hp} {d : D} {v : V} {k : Key} (h : keyOf d = some k) (r : Rep T F d v) : v = kV k := by
  cases d with
  | int i => cases h; exact rep_int r
  | str i => cases h; exact rep_str r
  | _ => cases h
abbrev rInDic (neg : Bool) : R2 := fun y x H Q => ∃ a o, x = .ref a ∧ DGet H a y o ∧ Q (.bl (o.isSome != neg)) H
/-- in a tuple of data -/
abbrev rInDT (K : PySem.W.Frag) (neg : Bool) : R2 := fun x y H Q => ∃ d ds, Dp K H x d ∧ Dp K H y (.tuple ds) ∧ SeqAt.shaped d = true ∧ SeqAt.shaped (.tuple ds) = true ∧ Q (.bl ((ds.any fun z => PyData.eqv z d) != neg)) H
section
variable {X : Cx}
theorem op_inDic (hu : X.A.units + 1 < cLine) : OpR X (compareOp .In) (rInDic false) := by
  intro pins s σ H y x u v Q I ry rx h
  obtain ⟨a, o, ex, g, q⟩ := h
  subst ex
  obtain rfl : v = Value.ref a := rx
  exact d_in hu I g ry fun s3 I3 => ⟨.bl (o.isSome != false), H, I3, by show Value.bool _ = Value.bool _; simp, q⟩
theorem op_ninDic (hu : X.A.units + 1 < cLine) : OpR X (compareOp .NotIn) (rInDic true) := by
  intro pins s σ H y x u v Q I ry rx h
  obtain ⟨a, o, ex, g, q⟩ := h
  subst ex
  obtain rfl : v = Value.ref a := rx
  exact d_notIn hu I g ry fun s3 I3 => ⟨.bl (o.isSome != true), H, I3, by cases o <;> rfl, q⟩
theorem room_t {A : Around} {d : PyData} {n : Nat} (h : SeqAt.shaped d = true) (hu : A.units + 65 < cLine) : A.units + 1 + min n d.depth < cLine := by
  have h1 := SeqAt.depth_of_shaped h
  have h2 : min n d.depth ≤ d.depth := Nat.min_le_right _ _
  omega
theorem op_inDT (hu : X.A.units + 65 < cLine) : OpR X (compareOp .In) (rInDT X.K false) := by
  intro pins s σ H x y v u Q I rx ry h
  obtain ⟨d, ds, hd, he, sd, se, q⟩ := h
  obtain ⟨as, r1⟩ := Dp.reads I d x v hd rx
  obtain ⟨bs, r2⟩ := Dp.reads I (.tuple ds) y u he ry
  exact SeqAt.in_tuple_reads r2 r1 (SeqAt.canLay_of_shaped se) (SeqAt.canLay_of_shaped sd) (room_t sd hu) ⟨.bl _, H, I, by show Value.bool _ = Value.bool _; simp, q⟩
theorem op_ninDT (hu : X.A.units + 65 < cLine) : OpR X (compareOp .NotIn) (rInDT X.K true) := by
  intro pins s σ H x y v u Q I rx ry h
  obtain ⟨d, ds, hd, he, sd, se, q⟩ := h
  obtain ⟨as, r1⟩ := Dp.reads I d x v hd rx
  obtain ⟨bs, r2⟩ := Dp.reads I (.tuple ds) y u he ry
  exact SeqAt.notIn_tuple_reads r2 r1 (SeqAt.canLay_of_shaped se) (SeqAt.canLay_of_shaped sd) (room_t sd hu) ⟨.bl _, H, I, by show Value.bool _ = Value.bool _; cases (ds.any fun z => PyData.eqv z d) <;> rfl, q⟩
abbrev rInA (K : PySem.W.Frag) : R2 := fun x y H Q => (rInD K x y H Q ∨ rInDT K false x y H Q) ∨ rInDic false x y H Q
abbrev rNinA (K : PySem.W.Frag) : R2 := fun x y H Q => (rNotInD K x y H Q ∨ rInDT K true x y H Q) ∨ rInDic true x y H Q
theorem op_inA (hu : X.A.units + 65 < cLine) : OpR X (compareOp .In) (rInA X.K) := ((op_inD hu).or (op_inDT hu)).or (op_inDic (by omega))
theorem op_ninA (hu : X.A.units + 65 < cLine) : OpR X (compareOp .NotIn) (rNinA X.K) := ((op_notInD hu).or (op_ninDT hu)).or (op_ninDic (by omega))
end
section
variable {Y : Cy}
theorem in_core {gh : Gh} {own : Own} {H : Hp} {x y : SV} {v w : V} {ys : List D} {a : D} (R : HRel Y.T Y.B gh own H) (rx : RS Y.T gh own.length x v) (ry : RS Y.T gh own.length y w) (hy : seqV own y = some ys) (hx : datV own x = some a)
    (c1 : okN 60 a = true) (c2 : ys.all (okN 59) = true) : ∃ d ds, Dp Y.T.K H v d ∧ (Dp Y.T.K H w (.list ds) ∨ Dp Y.T.K H w (.tuple ds)) ∧ SeqAt.shaped d = true ∧ SeqAt.shaped (.list ds) = true ∧ SeqAt.shaped (.tuple ds) = true ∧ (ds.any fun z => PyData.eqv z d) = ys.any fun z => eqN 60 z a := by
  obtain ⟨p, vs, rfl, hs, hr⟩ := seq_of R ry hy
  have da := dpAll_of R.f 59 hr c2
  have l1 := shaped_of (x := .lst ys) c2
  have l2 := shaped_of (x := .tup ys) c2
  refine ⟨_, ys.map (pyN 59), dat_of R rx hx c1, ?_, shaped_of c1, l1, l2, ?_⟩
  · rcases hs with hs | hs
    · exact .inl (.lst hs da)
    · exact .inr (.tup hs da)
  · rw [List.any_map]
    have c2' : ∀ z ∈ ys, okN 59 z = true := by rw [List.all_eq_true] at c2; exact c2
    clear hr da l1 l2 c2 hy
    induction ys with
    | nil => rfl
    | cons z t ih =>
      rw [List.any_cons, List.any_cons, ih fun q hq => c2' q (List.mem_cons_of_mem _ hq)]
      have hz := c2' z List.mem_cons_self
      show (PyData.eqv (pyN 59 z) (pyN 60 a) || _) = _
      rw [← pyN_mono 59 z hz, py_eq 60 z a (okN_mono 59 z hz) c1]
theorem mIn_inv {neg : Bool} {own : Own} {x y : SV} {z : D} (h : mIn neg own x y = some z) :
    (∃ ks xs d k, dicV own y = some (ks, xs) ∧ x = .d d ∧ keyOf d = some k ∧ z = .bl ((getK k ks xs).isSome != neg)) ∨
    (∃ ys a, seqV own y = some ys ∧ datV own x = some a ∧ okN 60 a = true ∧ ys.all (okN 59) = true ∧ z = .bl ((ys.any fun z => eqN 60 z a) != neg)) := by
  unfold mIn at h
  cases e : dicV own y with
  | some p =>
    obtain ⟨ks, xs⟩ := p
    rw [e] at h
    cases x with
    | h k => cases h
    | d d =>
      obtain ⟨k, e1, e2⟩ := Option.map_eq_some_iff.mp h
      exact .inl ⟨ks, xs, d, k, rfl, rfl, e1, e2.symm⟩
  | none =>
    rw [e] at h
    obtain ⟨ys, e1, h⟩ := Option.bind_eq_some_iff.mp h
    obtain ⟨a, e2, h⟩ := Option.bind_eq_some_iff.mp h
    by_cases c : (okN 60 a && ys.all (okN 59)) = true
    · rw [if_pos c] at h
      cases h
      obtain ⟨c1, c2⟩ := Bool.and_eq_true_iff.mp c
      exact .inr ⟨ys, a, e1, e2, c1, c2, rfl⟩
    · rw [if_neg c] at h; cases h
theorem dget_of {gh : Gh} {own : Own} {H : Hp} {y : SV} {w : V} {ks xs : List D} {k : Key} (R : HRel Y.T Y.B gh own H) (ry : RS Y.T gh own.length y w) (h : dicV own y = some (ks, xs)) :
    ∃ a o, w = .ref a ∧ DGet H a (kV k) o ∧ (∀ d, getK k ks xs = some d → ∃ v, o = some v ∧ Rep Y.T gh.F d v) ∧ (getK k ks xs = none → o = none) := by
  obtain ⟨a, kvs, rfl, h1, h2, h3⟩ := dic_of R ry h
  subst h2
  obtain ⟨q1, q2⟩ := getK_rel (k := k) h3
  exact ⟨a, valV kvs k, rfl, .inl ⟨kvs, k, h1, rfl, rfl⟩, q1, q2⟩
theorem o2_in : O2 Y (rInA Y.T.K) (mIn false) := by
  intro gh own H x y v w z Q R rx ry h k
  rcases mIn_inv h with ⟨ks, xs, d, kk, e1, rfl, e2, rfl⟩ | ⟨ys, a, e1, e2, c1, c2, rfl⟩
  · obtain ⟨a, o, rfl, hg, h1, h2⟩ := dget_of (k := kk) R ry e1
    obtain rfl := keyOf_rel e2 (show Rep Y.T gh.F d v from rx)
    refine .inr ⟨a, o, rfl, hg, ?_⟩
    have : o.isSome = (getK kk ks xs).isSome := by
      cases e : getK kk ks xs with
      | none => rw [h2 e]; rfl
      | some d => obtain ⟨v, ev, _⟩ := h1 d e; rw [ev]; rfl
    rw [this]
    exact k gh _ H R .rfl' (.bl _)
  · obtain ⟨d, ds, h1, h2, h3, h4, h5, h6⟩ := in_core R rx ry e1 e2 c1 c2
    rcases h2 with h2 | h2
    · refine .inl (.inl ⟨d, ds, h1, h2, h3, h4, ?_⟩)
      rw [h6]
      have := k gh (.bl (ys.any fun z => eqN 60 z a)) H R .rfl' (by simpa using Rep.bl (T := Y.T) (F := gh.F) _)
      exact this
    · refine .inl (.inr ⟨d, ds, h1, h2, h3, h5, ?_⟩)
      rw [h6]
      exact k gh _ H R .rfl' (.bl _)
theorem o2_nin : O2 Y (rNinA Y.T.K) (mIn true) := by
  intro gh own H x y v w z Q R rx ry h k
  rcases mIn_inv h with ⟨ks, xs, d, kk, e1, rfl, e2, rfl⟩ | ⟨ys, a, e1, e2, c1, c2, rfl⟩
  · obtain ⟨a, o, rfl, hg, h1, h2⟩ := dget_of (k := kk) R ry e1
    obtain rfl := keyOf_rel e2 (show Rep Y.T gh.F d v from rx)
    refine .inr ⟨a, o, rfl, hg, ?_⟩
    have : o.isSome = (getK kk ks xs).isSome := by
      cases e : getK kk ks xs with
      | none => rw [h2 e]; rfl
      | some d => obtain ⟨v, ev, _⟩ := h1 d e; rw [ev]; rfl
    rw [this]
    exact k gh _ H R .rfl' (.bl _)
  · obtain ⟨d, ds, h1, h2, h3, h4, h5, h6⟩ := in_core R rx ry e1 e2 c1 c2
    have fin : Rep Y.T gh.F (.bl ((ys.any fun z => eqN 60 z a) != true)) (.bl (!(ys.any fun z => eqN 60 z a))) := by
      cases (ys.any fun z => eqN 60 z a) <;> exact .bl _
    rcases h2 with h2 | h2
    · refine .inl (.inl ⟨d, ds, h1, h2, h3, h4, ?_⟩)
      rw [h6]
      exact k gh _ H R .rfl' fin
    · refine .inl (.inr ⟨d, ds, h1, h2, h3, h5, ?_⟩)
      rw [h6]
      exact k gh _ H R .rfl' (.bl _)
end

/-! ## subscripts -/
def mIx : Own → SV → SV → Option D := fun own x y => match dicV own x with
  | some (ks, xs) => match y with
    | .d d => (keyOf d).bind fun k => getK k ks xs
    | _ => none
  | none => match y with
    | .d (.int i) => (seqV own x).bind fun xs => atI xs i
    | _ => none
abbrev rIxDic : R2 := fun x y H Q => ∃ a v, x = .ref a ∧ DGet H a y (some v) ∧ Q v H
abbrev rIxA (K : PySem.W.Frag) : R2 := fun x y H Q => (rIxL K x y H Q ∨ rIxT K x y H Q) ∨ rIxDic x y H Q
theorem ix_dic {X : Cx} (hu : X.A.units + 1 < cLine) : IxR X rIxDic := by
  intro value slice pins s σ H x y v u Q I rx ry h hs
  obtain ⟨a, z, rfl, g, q⟩ := h
  obtain rfl : v = Value.ref a := rx
  exact tail_any (dict_typeIs I g) PySem.F.slot_dict_getitem.lookup (d_getItem hu I g ry fun w' s3 I3 rw' => ⟨z, H, I3, rw', q⟩) hs
theorem ix_A {X : Cx} (hu : X.A.units + 1 < cLine) : IxR X (rIxA X.K) := (ix_list.or ix_tup).or (ix_dic hu)
theorem atI_rel {T : Tb} {F : Hp} {xs : List D} {vs : List V} {i : Int} {d : D} (r : Reps T F xs vs) (h : atI xs i = some d) : ∃ v, atI vs i = some v ∧ Rep T F d v := by
  unfold atI at h ⊢
  rw [r.length] at h
  obtain ⟨j, e1, e2⟩ := Option.bind_eq_some_iff.mp h
  obtain ⟨v, e3, e4⟩ := r.get e2
  exact ⟨v, by rw [e1]; exact e3, e4⟩
theorem o2_ix {Y : Cy} : O2 Y (rIxA Y.T.K) mIx := by
  intro gh own H x y v w z Q R rx ry h k
  unfold mIx at h
  cases e : dicV own x with
  | some p =>
    obtain ⟨ks, xs⟩ := p
    rw [e] at h
    cases y with
    | h k => cases h
    | d d =>
      obtain ⟨kk, e1, e2⟩ := Option.bind_eq_some_iff.mp h
      obtain ⟨a, o, rfl, hg, h1, h2⟩ := dget_of (k := kk) R rx e
      obtain rfl := keyOf_rel e1 (show Rep Y.T gh.F d w from ry)
      obtain ⟨v, ev, rv⟩ := h1 z e2
      subst ev
      exact .inr ⟨a, v, rfl, hg, k gh v H R .rfl' rv⟩
  | none =>
    rw [e] at h
    cases y with
    | h k => cases h
    | d d =>
      cases d with
      | int i =>
        obtain ⟨xs, e1, e2⟩ := Option.bind_eq_some_iff.mp h
        obtain ⟨a, vs, rfl, hs, hr⟩ := seq_of R rx e1
        obtain ⟨v, ev, rv⟩ := atI_rel hr e2
        rcases hs with hs | hs
        · exact .inl (.inl ⟨a, vs, i, v, rfl, sv_int ry, hs, ev, k gh v H R .rfl' rv⟩)
        · exact .inl (.inr ⟨a, vs, i, v, rfl, sv_int ry, hs, ev, k gh v H R .rfl' rv⟩)
      | _ => cases h
theorem r_ix {X : Cx} {Y : Cy} {a b : Expr} {f g : EM} {pos : Pos} {m : Own → SV → SV → Option D} {r : R2} (hr : IxR X r) (om : O2 Y r m) (ha : PE X a (trE Y f)) (hb : PE X b (trE Y g)) (hs : PlainIx b := by intro _ _; rfl) : PE X (.Subscript a b pos) (trE Y (eB m f g)) :=
  PE.imp (pe_ix hr ha hb hs) fun _ _ _ q => at_b om q

/-! ## slices -/
abbrev OM := M (Option Int)
def relO : Gh → Nat → Option Int → Option Int → Prop := fun _ _ a b => a = b
def oNo : OM := M.ret none
def oSo (f : EM) : OM := f.bind fun x => match x with
  | .d (.int i) => M.ret (some i)
  | _ => M.fail
abbrev trO (Y : Cy) (f : OM) : TO := trM Y relO f
def cutD (xs : List D) (lo hi : Option Int) : List D := (xs.drop (HT.sIx xs.length 0 lo)).take (HT.sIx xs.length xs.length hi - HT.sIx xs.length 0 lo)
def mSl (own : Own) (x : SV) (lo hi : Option Int) : Option D := match x with
  | .d (.tup xs) => some (.tup (cutD xs lo hi))
  | x => (lstV own x).map fun xs => .lst (cutD xs lo hi)
def eSl (f : EM) (l h : OM) : EM := f.bind fun x => l.bind fun lo => h.bind fun hi => M.ask fun own => (mSl own x lo hi).map SV.d
theorem PO.imp {X : Cx} {e : Option Expr} {t t' : TO} (h : PO X e t) (i : ∀ σ H Q, t' σ H Q → t σ H Q) : PO X e t' := ⟨fun pins s σ H Q I q => h.run pins s σ H Q I (i σ H Q q)⟩
section
variable {X : Cx} {Y : Cy} {pos p2 : Pos} {a : Expr} {lo hi : Option Expr} {f : EM} {l h : OM}
theorem ro_no : PO X none (trO Y oNo) := PO.imp po_none fun σ H Q q => by
  obtain ⟨gh, sd, own, R, S, q⟩ := q
  exact at_ret q gh none H R .rfl' rfl
theorem ro_so {e : Expr} (he : PE X e (trE Y f)) : PO X (some e) (trO Y (oSo f)) := PO.imp (po_some he) fun σ H Q q => by
  obtain ⟨gh, sd, own, R, S, q⟩ := q
  refine at_bind R S q fun g1 o1 x v H1 R1 S1 e1 rx q1 => ?_
  cases x with
  | h k => exact (at_fail q1).elim
  | d x =>
    cases x with
    | int i => exact ⟨i, sv_int rx, at_ret q1 g1 _ H1 R1 .rfl' rfl⟩
    | _ => exact (at_fail q1).elim
theorem r_sl (ha : PE X a (trE Y f)) (hl : PO X lo (trO Y l)) (hh : PO X hi (trO Y h)) (hK : X.K = Y.T.K := by rfl) : PE X (.Subscript a (.Slice lo hi none p2) pos) (trE Y (eSl f l h)) := by
  refine PE.imp (pe_slice (sl_tupA.or sl_list) ha hl hh) fun σ H Q q => ?_
  obtain ⟨gh, sd, own, R, S, q⟩ := q
  refine at_bind R S q fun g1 o1 x v H1 R1 S1 e1 rx q1 => ?_
  refine at_bind R1 S1 q1 fun g2 o2 a b H2 R2 S2 e2 rl q2 => ?_
  refine at_bind R2 S2 q2 fun g3 o3 c d H3 R3 S3 e3 rh q3 => ?_
  obtain rfl : a = b := rl
  obtain rfl : c = d := rh
  obtain ⟨s, es, q4⟩ := at_ask q3
  obtain ⟨z, ez, e5⟩ := Option.map_eq_some_iff.mp es
  subst e5
  have rx3 := (rx.ext e2).ext e3
  rw [hK]
  have cut : ∀ {xs : List D} {vs : List V}, Reps Y.T g3.F xs vs → Reps Y.T g3.F (cutD xs a c) (cutV vs a c) := fun {xs vs} r => by
    unfold cutD cutV
    rw [r.length]
    exact (r.drop _).take _
  have lists : (lstV o3 x).map (fun xs => D.lst (cutD xs a c)) = some z → rSlL Y.T.K v a c H3 Q := fun ez => by
    obtain ⟨xs, e1, e2⟩ := Option.map_eq_some_iff.mp ez
    subst e2
    obtain ⟨p, vs, rfl, h1, h2⟩ := lst_of R3 rx3 e1
    refine ⟨p, vs, rfl, SqL.of h1, fun q hq => ?_⟩
    obtain ⟨R5, e5⟩ := R3.new hq (.lst (cutV vs a c))
    exact q4 _ _ _ R5 e5 (Rep.lst upd_same ((cut h2).le e5.F))
  cases x with
  | h k => exact .inr (lists ez)
  | d x =>
    cases x with
    | tup xs =>
      cases ez
      have rx3 : Rep Y.T g3.F (.tup xs) v := rx3
      cases rx3 with
      | @tup p vs _ h1 h2 =>
        refine .inl ⟨p, vs, rfl, SqT.le R3.f h1, fun hw => ?_, fun _ q hq => ?_⟩
        · have e : cutD xs a c = xs := by
            unfold cutD
            rw [h2.length, hw.1, hw.2, List.drop_zero, Nat.sub_zero, ← h2.length]
            exact List.take_length
          rw [e] at q4
          exact q4 g3 _ H3 R3 .rfl' (Rep.tup h1 h2)
        · obtain ⟨R5, e5⟩ := R3.new hq (.tup (cutV vs a c))
          exact q4 _ _ _ R5 e5 (Rep.tup (SqT.of upd_same) ((cut h2).le e5.F))
    | _ => exact .inr (lists ez)
end
end Gx
end T_GxR4
section T_GxR5
set_option Elab.async false
set_option linter.all false
set_option maxRecDepth 100000
set_option maxHeartbeats 4000000
namespace Gx
open PySem PySem.Spec PyProof.Rows L2

/-! ## built-ins by values -/
theorem rss1 {T : Tb} {g : Gh} {n : Nat} {x : SV} {vs : List V} (r : RSs T g n [x] vs) : ∃ v, vs = [v] ∧ RS T g n x v := by
  cases r with
  | cons h t => cases t; exact ⟨_, rfl, h⟩
theorem rss2 {T : Tb} {g : Gh} {n : Nat} {x y : SV} {vs : List V} (r : RSs T g n [x, y] vs) : ∃ v w, vs = [v, w] ∧ RS T g n x v ∧ RS T g n y w := by
  cases r with
  | cons h t =>
    obtain ⟨w, rfl, hw⟩ := rss1 t
    exact ⟨_, _, rfl, h, hw⟩
/-- one argument -/
def m1 (m : Own → SV → Option D) : Own → List SV → Option SV := fun own xs => match xs with
  | [x] => (m own x).map SV.d
  | _ => none
def m2 (m : Own → SV → SV → Option D) : Own → List SV → Option SV := fun own xs => match xs with
  | [x, y] => (m own x y).map SV.d
  | _ => none
def O1 (Y : Cy) (r : V → Hp → VK → Prop) (m : Own → SV → Option D) : Prop := ∀ (gh : Gh) (own : Own) (H : Hp) (x : SV) (v : V) (z : D) (Q : VK),
  HRel Y.T Y.B gh own H → RS Y.T gh own.length x v → m own x = some z →
  (∀ g' u H', HRel Y.T Y.B g' own H' → GExt Y.B gh own.length g' own.length → Rep Y.T g'.F z u → Q u H') → r v H Q
theorem ob_1 {Y : Cy} {m : Own → SV → Option D} {r : V → Hp → VK → Prop} {rr : List V → Hp → VK → Prop} (om : O1 Y r m) (hr : ∀ v H Q, r v H Q → rr [v] H Q) : OB Y rr (m1 m) := by
  intro gh own H xs vs z Q R rs h k
  match xs, rs, h with
  | [x], rs, h =>
    obtain ⟨d, e1, e2⟩ := Option.map_eq_some_iff.mp h
    subst e2
    obtain ⟨v, rfl, rx⟩ := rss1 rs
    exact hr v H Q (om gh own H x v d Q R rx e1 k)
theorem ob_2 {Y : Cy} {m : Own → SV → SV → Option D} {r : R2} {rr : List V → Hp → VK → Prop} (om : O2 Y r m) (hr : ∀ v w H Q, r v w H Q → rr [v, w] H Q) : OB Y rr (m2 m) := by
  intro gh own H xs vs z Q R rs h k
  match xs, rs, h with
  | [x, y], rs, h =>
    obtain ⟨d, e1, e2⟩ := Option.map_eq_some_iff.mp h
    subst e2
    obtain ⟨v, w, rfl, rx, ry⟩ := rss2 rs
    exact hr v w H Q (om gh own H x y v w d Q R rx ry e1 k)

/-! ### len -/
def mLen : Own → SV → Option D := fun own x => match dicV own x with
  | some (ks, _) => some (.int ks.length)
  | none => match x with
    | .d (.str z) => if z.length ≤ sizeLine then some (.int z.length) else none
    | x => (seqV own x).map fun xs => .int xs.length
abbrev rLenA (K : PySem.W.Frag) : List V → Hp → VK → Prop := fun xs H Q => (∃ x n, xs = [x] ∧ LenV K x H n ∧ Q (.int n) H) ∨ ∃ a, ∃ kvs : List (Key × V), xs = [V.ref a] ∧ Rd H a (.dK kvs) ∧ Q (.int kvs.length) H
theorem call_lenR {X : Cx} : CallR X (.builtin "len") (fun xs H Q => ∃ a, ∃ kvs : List (Key × V), xs = [V.ref a] ∧ Rd H a (.dK kvs) ∧ Q (.int kvs.length) H) := by
  intro pins s σ H xs us Q I r h
  obtain ⟨a, kvs, rfl, ha, q⟩ := h
  obtain ⟨u, rfl, ru⟩ := vals1 r
  cases ru
  exact d_len I ha fun t s' I' => ⟨.int kvs.length, H, I', ⟨t, rfl⟩, q⟩
theorem call_lenA {X : Cx} : CallR X (.builtin "len") (rLenA X.K) := call_len.or call_lenR
theorem ob_len {Y : Cy} : OB Y (rLenA Y.T.K) (m1 mLen) := by
  refine ob_1 (r := fun v H Q => rLenA Y.T.K [v] H Q) (fun gh own H x v z Q R rx h k => ?_) fun _ _ _ h => h
  unfold mLen at h
  have seqs : (seqV own x).map (fun xs => D.int xs.length) = some z → rLenA Y.T.K [v] H Q := fun h => by
    obtain ⟨xs, e1, e2⟩ := Option.map_eq_some_iff.mp h
    subst e2
    obtain ⟨a, vs, rfl, hs, hr⟩ := seq_of R rx e1
    have e := hr.length
    rw [e] at k
    refine .inl ⟨_, vs.length, rfl, ?_, k gh _ H R .rfl' (.int _)⟩
    rcases hs with hs | hs
    · exact .inl ⟨vs, hs, rfl⟩
    · exact .inr ⟨vs, hs, rfl⟩
  cases e : dicV own x with
  | some p =>
    obtain ⟨ks, xs⟩ := p
    rw [e] at h
    cases h
    obtain ⟨a, kvs, rfl, h1, h2, h3⟩ := dic_of R rx e
    subst h2
    rw [List.length_map] at k
    exact .inr ⟨a, kvs, rfl, h1, k gh _ H R .rfl' (.int _)⟩
  | none =>
    rw [e] at h
    cases x with
    | h k => exact seqs h
    | d x =>
      cases x with
      | str s =>
        have h : (if s.length ≤ sizeLine then some (D.int s.length) else none) = some z := h
        by_cases c : s.length ≤ sizeLine
        · rw [if_pos c] at h
          cases h
          obtain rfl := rep_str (show Rep Y.T gh.F (.str s) v from rx)
          exact .inl ⟨_, s.length, rfl, ⟨c, rfl⟩, k gh _ H R .rfl' (.int _)⟩
        · rw [if_neg c] at h; cases h
      | _ => exact seqs h

/-! ### tuple(), list() -/
def mTupC : Own → SV → Option D := fun own x => (seqV own x).map .tup
def mLstC : Own → SV → Option D := fun own x => (seqV own x).map .lst
theorem ob_tup {X : Cx} {Y : Cy} (hK : X.K = Y.T.K := by rfl) : OB Y (fun xs H Q => ∃ p ys, xs = [V.ref p] ∧ ((SqL X.K H p ys ∧ ∀ l, H l = none → Q (.ref l) (upd H l (.tup ys))) ∨ (SqT X.K H p ys ∧ Q (.ref p) H))) (m1 mTupC) := by
  refine ob_1 (r := fun v H Q => ∃ p ys, v = .ref p ∧ ((SqL X.K H p ys ∧ ∀ l, H l = none → Q (.ref l) (upd H l (.tup ys))) ∨ (SqT X.K H p ys ∧ Q (.ref p) H))) (fun gh own H x v z Q R rx h k => ?_) fun _ _ _ ⟨p, ys, e, q⟩ => ⟨p, ys, by rw [e], q⟩
  obtain ⟨xs, e1, e2⟩ := Option.map_eq_some_iff.mp h
  subst e2
  rw [hK]
  cases x with
  | d x =>
    cases x with
    | tup ys =>
      cases e1
      have rx' : Rep Y.T gh.F (.tup xs) v := rx
      cases rx' with
      | @tup p vs _ h1 h2 => exact ⟨p, vs, rfl, .inr ⟨SqT.le R.f h1, k gh _ H R .rfl' (.tup h1 h2)⟩⟩
    | lst ys =>
      obtain ⟨p, vs, rfl, h1, h2⟩ := lst_of R rx (xs := xs) e1
      refine ⟨p, vs, rfl, .inl ⟨SqL.of h1, fun q hq => ?_⟩⟩
      obtain ⟨R2, e2⟩ := R.new hq (.tup vs)
      exact k _ _ _ R2 e2 (.tup (SqT.of upd_same) (h2.le e2.F))
    | _ => cases e1
  | h kk =>
    obtain ⟨p, vs, rfl, h1, h2⟩ := lst_of R rx (xs := xs) e1
    refine ⟨p, vs, rfl, .inl ⟨SqL.of h1, fun q hq => ?_⟩⟩
    obtain ⟨R2, e2⟩ := R.new hq (.tup vs)
    exact k _ _ _ R2 e2 (.tup (SqT.of upd_same) (h2.le e2.F))
abbrev rLstOf (K : PySem.W.Frag) : List V → Hp → VK → Prop := fun xs H Q => ∃ p ys, xs = [.ref p] ∧ (SqL K H p ys ∨ SqT K H p ys) ∧ ∀ l, H l = none → Q (.ref l) (upd H l (.lst ys))
theorem ob_lst {Y : Cy} : OB Y (rLstOf Y.T.K) (m1 mLstC) := by
  refine ob_1 (r := fun v H Q => rLstOf Y.T.K [v] H Q) (fun gh own H x v z Q R rx h k => ?_) fun _ _ _ h => h
  obtain ⟨xs, e1, e2⟩ := Option.map_eq_some_iff.mp h
  subst e2
  obtain ⟨a, vs, rfl, hs, hr⟩ := seq_of R rx e1
  refine ⟨a, vs, rfl, hs, fun q hq => ?_⟩
  obtain ⟨R2, e2⟩ := R.new hq (.lst vs)
  exact k _ _ _ R2 e2 (.lst upd_same (hr.le e2.F))
/-- list(x), a list that will change -/
def eLstCH (a : AM) : EM := a.bind fun xs => fun _ own => match xs with
  | [x] => match seqV own x with
    | some ds => some (.ok (.h own.length), own ++ [.lst ds])
    | none => none
  | _ => none
theorem r_lstCH {X : Cx} {Y : Cy} {p pos : Pos} {a : Expr} {es : List Expr} {al : AM} (hm : X.mg "list" = none) (ha : PA X (a :: es) (trA Y al)) (hg : Gl X "list" := by rfl) (hK : X.K = Y.T.K := by rfl)
    (he : starEach (a :: es) X.env = (false, eval a X.env) :: starEach es X.env := by rfl) (hpl : (backTo pos (starEach es X.env)).any (·.1) = false := by rfl) : PE X (.Call (.Name "list" p) (a :: es) [] pos) (trE Y (eLstCH al)) := by
  refine PE.imp (pe_callTy call_list_of hg hm boot_list ha (by decide) (by decide) he hpl) fun σ H Q q => ?_
  obtain ⟨gh, sd, own, R, S, q⟩ := q
  refine at_bind R S q fun g1 o1 xs vs H1 R1 S1 e1 rs q1 => ?_
  obtain ⟨r0, own', e, q1⟩ := q1
  match xs, rs, e with
  | [x], rs, e =>
    obtain ⟨v, rfl, rx⟩ := rss1 rs
    cases es : seqV o1 x with
    | none => simp only [es] at e; cases e
    | some ds =>
      simp only [es] at e
      cases e
      obtain ⟨a, vs, rfl, hs, hr⟩ := seq_of R1 rx es
      refine ⟨a, vs, rfl, by rw [hK]; exact hs, fun q hq => ?_⟩
      obtain ⟨R2, e2⟩ := R1.made hq (ho := .lst vs) (o := .lst ds) ⟨vs, upd_same, hr⟩
      exact q1 _ _ _ R2 e2 ⟨by simp, by show V.ref q = .ref (if o1.length = o1.length then q else _); rw [if_pos rfl]⟩

/-! ### sum, max, min, any, all, abs, int -/
def maxI : List Int → Option Int
  | [] => none
  | x :: xs => some (xs.foldl max x)
def minI : List Int → Option Int
  | [] => none
  | x :: xs => some (xs.foldl min x)
theorem foldl_max : ∀ (xs : List Int) (x : Int), (xs.foldl max x = x ∨ xs.foldl max x ∈ xs) ∧ x ≤ xs.foldl max x ∧ ∀ y ∈ xs, y ≤ xs.foldl max x
  | [], x => ⟨.inl rfl, Int.le_refl _, fun _ h => nomatch h⟩
  | z :: zs, x => by
    obtain ⟨h1, h2, h3⟩ := foldl_max zs (max x z)
    have e : (z :: zs).foldl max x = zs.foldl max (max x z) := rfl
    rw [e]
    have a1 : x ≤ max x z := Int.le_max_left _ _
    have a2 : z ≤ max x z := Int.le_max_right _ _
    refine ⟨?_, Int.le_trans a1 h2, fun y hy => ?_⟩
    · rcases h1 with h1 | h1
      · rw [h1]
        by_cases c : x ≤ z
        · exact .inr (by rw [show max x z = z from Int.max_eq_right c]; exact List.mem_cons_self)
        · exact .inl (Int.max_eq_left (by omega))
      · exact .inr (List.mem_cons_of_mem _ h1)
    · rcases List.mem_cons.mp hy with rfl | hy
      · exact Int.le_trans a2 h2
      · exact h3 y hy
theorem foldl_min : ∀ (xs : List Int) (x : Int), (xs.foldl min x = x ∨ xs.foldl min x ∈ xs) ∧ xs.foldl min x ≤ x ∧ ∀ y ∈ xs, xs.foldl min x ≤ y
  | [], x => ⟨.inl rfl, Int.le_refl _, fun _ h => nomatch h⟩
  | z :: zs, x => by
    obtain ⟨h1, h2, h3⟩ := foldl_min zs (min x z)
    have e : (z :: zs).foldl min x = zs.foldl min (min x z) := rfl
    rw [e]
    have a1 : min x z ≤ x := Int.min_le_left _ _
    have a2 : min x z ≤ z := Int.min_le_right _ _
    refine ⟨?_, Int.le_trans h2 a1, fun y hy => ?_⟩
    · rcases h1 with h1 | h1
      · rw [h1]
        by_cases c : x ≤ z
        · exact .inl (Int.min_eq_left c)
        · exact .inr (by rw [show min x z = z from Int.min_eq_right (by omega)]; exact List.mem_cons_self)
      · exact .inr (List.mem_cons_of_mem _ h1)
    · rcases List.mem_cons.mp hy with rfl | hy
      · exact Int.le_trans h2 a2
      · exact h3 y hy
theorem maxI_of {xs : List Int} {m : Int} (h : maxI xs = some m) : m ∈ xs ∧ ∀ y ∈ xs, y ≤ m := by
  cases xs with
  | nil => cases h
  | cons x xs =>
    cases h
    obtain ⟨h1, h2, h3⟩ := foldl_max xs x
    refine ⟨?_, fun y hy => ?_⟩
    · rcases h1 with h1 | h1
      · rw [h1]; exact List.mem_cons_self
      · exact List.mem_cons_of_mem _ h1
    · rcases List.mem_cons.mp hy with rfl | hy
      · exact h2
      · exact h3 y hy
theorem minI_of {xs : List Int} {m : Int} (h : minI xs = some m) : m ∈ xs ∧ ∀ y ∈ xs, m ≤ y := by
  cases xs with
  | nil => cases h
  | cons x xs =>
    cases h
    obtain ⟨h1, h2, h3⟩ := foldl_min xs x
    refine ⟨?_, fun y hy => ?_⟩
    · rcases h1 with h1 | h1
      · rw [h1]; exact List.mem_cons_self
      · exact List.mem_cons_of_mem _ h1
    · rcases List.mem_cons.mp hy with rfl | hy
      · exact h2
      · exact h3 y hy
def mInts (f : List Int → Option D) : Own → SV → Option D := fun own x => (lstV own x).bind fun ds => (intsD ds).bind f
def mSum := mInts fun is => some (.int is.sum)
def mMaxL := mInts fun is => (maxI is).map D.int
def mMinL := mInts fun is => (minI is).map D.int
def mAny : Own → SV → Option D := fun own x => (lstV own x).bind fun ds => (blsD ds).map fun bs => .bl (bs.any id)
def mAll : Own → SV → Option D := fun own x => (lstV own x).bind fun ds => (blsD ds).map fun bs => .bl (bs.all id)
theorem ints_of {Y : Cy} {gh : Gh} {own : Own} {H : Hp} {x : SV} {v : V} {ds : List D} {is : List Int} (R : HRel Y.T Y.B gh own H) (rx : RS Y.T gh own.length x v) (h1 : lstV own x = some ds) (h2 : intsD ds = some is) : ∃ a, v = .ref a ∧ SqL Y.T.K H a (is.map V.int) := by
  obtain ⟨a, vs, rfl, h3, h4⟩ := lst_of R rx h1
  rw [intsD_map h2] at h4
  rw [reps_ints h4] at h3
  exact ⟨a, rfl, SqL.of h3⟩
theorem bls_of {Y : Cy} {gh : Gh} {own : Own} {H : Hp} {x : SV} {v : V} {ds : List D} {is : List Bool} (R : HRel Y.T Y.B gh own H) (rx : RS Y.T gh own.length x v) (h1 : lstV own x = some ds) (h2 : blsD ds = some is) : ∃ a, v = .ref a ∧ SqL Y.T.K H a (is.map V.bl) := by
  obtain ⟨a, vs, rfl, h3, h4⟩ := lst_of R rx h1
  rw [blsD_map h2] at h4
  rw [reps_bls h4] at h3
  exact ⟨a, rfl, SqL.of h3⟩
theorem ob_sum {Y : Cy} : OB Y (rSum Y.T.K) (m1 mSum) := by
  refine ob_1 (r := fun v H Q => rSum Y.T.K [v] H Q) (fun gh own H x v z Q R rx h k => ?_) fun _ _ _ h => h
  obtain ⟨ds, e1, h⟩ := Option.bind_eq_some_iff.mp h
  obtain ⟨is, e2, h⟩ := Option.bind_eq_some_iff.mp h
  cases h
  obtain ⟨a, rfl, hs⟩ := ints_of R rx e1 e2
  exact ⟨a, is, rfl, hs, k gh _ H R .rfl' (.int _)⟩
theorem ob_maxL {Y : Cy} : OB Y (rMax Y.T.K) (m1 mMaxL) := by
  refine ob_1 (r := fun v H Q => rMax Y.T.K [v] H Q) (fun gh own H x v z Q R rx h k => ?_) fun _ _ _ h => h
  obtain ⟨ds, e1, h⟩ := Option.bind_eq_some_iff.mp h
  obtain ⟨is, e2, h⟩ := Option.bind_eq_some_iff.mp h
  obtain ⟨m, e3, e4⟩ := Option.map_eq_some_iff.mp h
  subst e4
  obtain ⟨a, rfl, hs⟩ := ints_of R rx e1 e2
  obtain ⟨q1, q2⟩ := maxI_of e3
  refine ⟨a, is, rfl, hs, List.length_pos_of_mem q1, fun m' h1 h2 => ?_⟩
  obtain rfl : m' = m := Int.le_antisymm (q2 _ h1) (h2 _ q1)
  exact k gh _ H R .rfl' (.int _)
theorem ob_minL {Y : Cy} : OB Y (rMin Y.T.K) (m1 mMinL) := by
  refine ob_1 (r := fun v H Q => rMin Y.T.K [v] H Q) (fun gh own H x v z Q R rx h k => ?_) fun _ _ _ h => h
  obtain ⟨ds, e1, h⟩ := Option.bind_eq_some_iff.mp h
  obtain ⟨is, e2, h⟩ := Option.bind_eq_some_iff.mp h
  obtain ⟨m, e3, e4⟩ := Option.map_eq_some_iff.mp h
  subst e4
  obtain ⟨a, rfl, hs⟩ := ints_of R rx e1 e2
  obtain ⟨q1, q2⟩ := minI_of e3
  refine ⟨a, is, rfl, hs, List.length_pos_of_mem q1, fun m' h1 h2 => ?_⟩
  obtain rfl : m' = m := Int.le_antisymm (h2 _ q1) (q2 _ h1)
  exact k gh _ H R .rfl' (.int _)
theorem ob_any {Y : Cy} : OB Y (rAny Y.T.K) (m1 mAny) := by
  refine ob_1 (r := fun v H Q => rAny Y.T.K [v] H Q) (fun gh own H x v z Q R rx h k => ?_) fun _ _ _ h => h
  obtain ⟨ds, e1, h⟩ := Option.bind_eq_some_iff.mp h
  obtain ⟨bs, e2, h⟩ := Option.map_eq_some_iff.mp h
  subst h
  obtain ⟨a, rfl, hs⟩ := bls_of R rx e1 e2
  exact ⟨a, bs, rfl, hs, k gh _ H R .rfl' (.bl _)⟩
theorem ob_all {Y : Cy} : OB Y (rAll Y.T.K) (m1 mAll) := by
  refine ob_1 (r := fun v H Q => rAll Y.T.K [v] H Q) (fun gh own H x v z Q R rx h k => ?_) fun _ _ _ h => h
  obtain ⟨ds, e1, h⟩ := Option.bind_eq_some_iff.mp h
  obtain ⟨bs, e2, h⟩ := Option.map_eq_some_iff.mp h
  subst h
  obtain ⟨a, rfl, hs⟩ := bls_of R rx e1 e2
  exact ⟨a, bs, rfl, hs, k gh _ H R .rfl' (.bl _)⟩
def mAbs : Own → SV → Option D := fun _ x => match x with
  | .d (.int i) => some (.int (if i < 0 then -i else i))
  | _ => none
def mInt : Own → SV → Option D := fun _ x => match x with
  | .d (.int i) => some (.int i)
  | .d (.bl b) => some (.int (if b then 1 else 0))
  | _ => none
theorem ob_abs {Y : Cy} : OB Y (fun xs H Q => ∃ i, xs = [V.int i] ∧ Q (.int (if i < 0 then -i else i)) H) (m1 mAbs) := by
  refine ob_1 (r := fun v H Q => ∃ i, v = V.int i ∧ Q (.int (if i < 0 then -i else i)) H) (fun gh own H x v z Q R rx h k => ?_) fun _ _ _ ⟨i, e, q⟩ => ⟨i, by rw [e], q⟩
  cases x with
  | h k => cases h
  | d x =>
    cases x with
    | int i => cases h; exact ⟨i, sv_int rx, k gh _ H R .rfl' (.int _)⟩
    | _ => cases h
theorem ob_int {Y : Cy} : OB Y (fun xs H Q => (∃ i, xs = [V.int i] ∧ Q (.int i) H) ∨ ∃ k, xs = [V.bl k] ∧ Q (.int (if k then 1 else 0)) H) (m1 mInt) := by
  refine ob_1 (r := fun v H Q => (∃ i, v = V.int i ∧ Q (.int i) H) ∨ ∃ k, v = V.bl k ∧ Q (.int (if k then 1 else 0)) H) (fun gh own H x v z Q R rx h k => ?_) fun _ _ _ q => ?_
  · cases x with
    | h k => cases h
    | d x =>
      cases x with
      | int i => cases h; exact .inl ⟨i, sv_int rx, k gh _ H R .rfl' (.int _)⟩
      | bl b => cases h; exact .inr ⟨b, rep_bl rx, k gh _ H R .rfl' (.int _)⟩
      | _ => cases h
  · rcases q with ⟨i, e, q⟩ | ⟨i, e, q⟩
    · exact .inl ⟨i, by rw [e], q⟩
    · exact .inr ⟨i, by rw [e], q⟩
def mMax2 := m2I (fun _ _ => true) fun i j => .int (if j > i then j else i)
def mMin2 := m2I (fun _ _ => true) fun i j => .int (if j < i then j else i)
theorem ob_max2 {Y : Cy} : OB Y (fun xs H Q => ∃ i j, xs = [V.int i, V.int j] ∧ Q (.int (if j > i then j else i)) H) (m2 mMax2) :=
  ob_2 (o2_I0 (g := fun i j => .int (if j > i then j else i)) fun _ _ _ => .int _) fun _ _ _ _ ⟨i, j, e1, e2, q⟩ => ⟨i, j, by rw [e1, e2], q⟩
theorem ob_min2 {Y : Cy} : OB Y (fun xs H Q => ∃ i j, xs = [V.int i, V.int j] ∧ Q (.int (if j < i then j else i)) H) (m2 mMin2) :=
  ob_2 (o2_I0 (g := fun i j => .int (if j < i then j else i)) fun _ _ _ => .int _) fun _ _ _ _ ⟨i, j, e1, e2, q⟩ => ⟨i, j, by rw [e1, e2], q⟩

/-! ### isinstance with a built-in class -/
def tyOf : D → Option Nat
  | .int _ => some 0
  | .bl _ => some 1
  | .str _ => some 2
  | .tup _ => some 3
  | .lst _ => some 4
  | .dic _ _ => some 5
  | .non => some 6
  | _ => none
def isTy (t k : Nat) : Bool := t == k || (t == 1 && k == 0)
/-- isinstance(x, a built-in class); of data alone -/
def mIsi : Own → SV → SV → Option D := fun own x c => match c with
  | .d (.ty k) => if k < 7 then (datV own x).bind fun d => (tyOf d).map fun t => .bl (isTy t k) else none
  | _ => none
theorem kit_tys : ∀ t k : Nat, t < 7 → k < 7 → kitB (tyName t) (tyName k) = some (isTy t k) := by
  intro t k ht hk
  have : ∀ t : Fin 7, ∀ k : Fin 7, kitB (tyName t) (tyName k) = some (isTy t k) := by decide +kernel
  exact this ⟨t, ht⟩ ⟨k, hk⟩
theorem tyOf_lt {d : D} {t : Nat} (h : tyOf d = some t) : t < 7 := by
  cases d <;> cases h <;> decide
theorem tyX_of {T : Tb} {B : Hp} {g : Gh} {own : Own} {H : Hp} {s : SV} {v : V} {d : D} {t : Nat} (R : HRel T B g own H) (r : RS T g own.length s v) (h : datV own s = some d) (e : tyOf d = some t) : TyX T.K H v (.type (tyName t)) := by
  have lists : ∀ {xs : List D}, lstV own s = some xs → TyX T.K H v (.type "list") := fun {xs} h => by
    obtain ⟨a, vs, rfl, h1, _⟩ := lst_of R r h
    exact .base (.lst h1)
  have dicts : ∀ {ks xs : List D}, dicV own s = some (ks, xs) → TyX T.K H v (.type "dict") := fun {ks xs} h => by
    obtain ⟨a, kvs, rfl, h1, _⟩ := dic_of R r h
    rcases h1 with h1 | ⟨o, h1⟩
    · exact .base (.dK h1)
    · exact .fDict h1
  cases s with
  | d x =>
    have ex : x = d := Option.some.inj h
    subst ex
    have r' : Rep T g.F x v := r
    cases x with
    | non => cases e; cases r'; exact .base .non
    | bl b => cases e; cases r'; exact .base (.bl b)
    | int i => cases e; cases r'; exact .base (.int i)
    | str z => cases e; cases r'; exact .base (.str z)
    | tup xs =>
      cases e
      cases r' with
      | tup h1 h2 =>
        rcases SqT.le R.f h1 with (h1 | ⟨o, h1⟩) | ⟨o, its, n, h1, h2, _⟩
        · exact .base (.tup h1)
        · exact .fTuple h1
        · exact .kTuple h1 h2
    | lst xs => cases e; exact lists (xs := xs) rfl
    | dic ks xs => cases e; exact dicts (ks := unM ks) (xs := xs) rfl
    | _ => cases e
  | h k =>
    have h : (match own[k]? with | some (.lst xs) => some (D.lst xs) | some (.dic ks xs) => some (D.dic ks xs) | _ => none) = some d := h
    cases eo : own[k]? with
    | none => rw [eo] at h; cases h
    | some o =>
      rw [eo] at h
      cases o with
      | lst xs => cases h; cases e; exact lists (xs := xs) (by show (match own[k]? with | some (.lst xs) => some xs | _ => none) = _; rw [eo])
      | dic ks xs => cases h; cases e; exact dicts (ks := ks) (xs := xs) (by show (match own[k]? with | some (.dic ks xs) => some (ks, xs) | _ => none) = _; rw [eo])
      | _ => cases h
theorem ob_isi {Y : Cy} : OB Y (rIsi Y.T.K) (m2 mIsi) := by
  refine ob_2 (r := fun v w H Q => rIsi Y.T.K [v, w] H Q) (fun gh own H x c v w z Q R rx rc h k => ?_) fun _ _ _ _ h => h
  unfold mIsi at h
  cases c with
  | h k => cases h
  | d c =>
    cases c with
    | ty kk =>
      have h : (if kk < 7 then (datV own x).bind fun d => (tyOf d).map fun t => D.bl (isTy t kk) else none) = some z := h
      by_cases c : kk < 7
      · rw [if_pos c] at h
        obtain ⟨d, e1, h⟩ := Option.bind_eq_some_iff.mp h
        obtain ⟨t, e2, e3⟩ := Option.map_eq_some_iff.mp h
        subst e3
        have rc : Rep Y.T gh.F (.ty kk) w := rc
        cases rc
        exact ⟨v, _, _, _, isTy t kk, rfl, .ty _, tyX_of R rx e1 e2, kit_ty (kit_tys t kk (tyOf_lt e2) c), k gh _ H R .rfl' (.bl _)⟩
      · rw [if_neg c] at h; cases h
    | _ => cases h
end Gx
end T_GxR5
section T_GxR6
set_option Elab.async false
set_option linter.all false
set_option maxRecDepth 100000
set_option maxHeartbeats 4000000
namespace Gx
open PySem PySem.Spec PyProof.Rows L2

theorem rss3 {T : Tb} {g : Gh} {n : Nat} {x y z : SV} {vs : List V} (r : RSs T g n [x, y, z] vs) : ∃ u v w, vs = [u, v, w] ∧ RS T g n x u ∧ RS T g n y v ∧ RS T g n z w := by
  cases r with
  | cons h t =>
    obtain ⟨v, w, rfl, h2, h3⟩ := rss2 t
    exact ⟨_, _, _, rfl, h, h2, h3⟩
/-! ## statements -/
def sNil : SM := fun sd own => some (.nx sd own)
def sSeq (f g : SM) : SM := fun sd own => match f sd own with
  | some (.nx sd' own') => g sd' own'
  | r => r
def sExpr (f : EM) : SM := SM.bind f fun _ => sNil
def sRet (f : EM) : SM := SM.bind f fun x => fun _ own => some (.rt x own)
def sRetN : SM := fun _ own => some (.rt (.d .non) own)
def sBrk : SM := fun sd own => some (.bk sd own)
def sCnt : SM := fun sd own => some (.ct sd own)
def sIf (c : TM) (f g : SM) : SM := SM.bind c fun b => match b with
  | true => f
  | false => g
def sSet (i : Nat) (f : EM) : SM := SM.bind f fun x => fun sd own => some (.nx (sd.set i (some x)) own)
/-- several names at once -/
def setL : List Nat → List SV → Sl → Option Sl
  | [], [], sd => some sd
  | i :: is, x :: xs, sd => setL is xs (sd.set i (some x))
  | _, _, _ => none
def sPar (is : List Nat) (a : AM) : SM := SM.bind a fun xs => fun sd own => (setL is xs sd).map fun sd' => .nx sd' own
/-- a, b = e, e a tuple of data -/
def sUnp (is : List Nat) (f : EM) : SM := SM.bind f fun x => fun sd own => match x with
  | .d (.tup ds) => (setL is (ds.map SV.d) sd).map fun sd' => .nx sd' own
  | _ => none
/-- name op= e, ints -/
def sAug (g : Int → Int → Int) (i : Nat) (f : EM) : SM := fun sd own => match sd[i]? with
  | some (some (.d (.int k))) => SM.bind f (fun y => fun sd own => match y with
    | .d (.int m) => some (.nx (sd.set i (some (.d (.int (g k m))))) own)
    | _ => none) sd own
  | _ => none
/-- o[i] = v, o a list of one's own -/
def setIx (own : Own) (o i : SV) (v : D) : Option Own := match o, i with
  | .h k, .d (.int z) => match own[k]? with
    | some (.lst xs) => (ixN xs.length z).map fun j => own.set k (.lst (xs.set j v))
    | _ => none
  | _, _ => none
def sPutL (o i v : EM) : SM := SM.bind v fun x => SM.bind o fun a => SM.bind i fun b => fun sd own => match x with
  | .d d => (setIx own a b d).map fun own' => .nx sd own'
  | _ => none
/-- never come to -/
def sNo : SM := fun _ _ => none
def eNo : EM := fun _ _ => none

section
variable {X : Cx} {Y : Cy} {pos : Pos} {a b c : Expr} {f g : EM} {t : TM} {st : Stmt} {l m : List Stmt} {p q : SM}
theorem rss_nil : PSs X [] (trS Y sNil) := PSs.imp pss_nil fun D σ H q => by
  obtain ⟨gh, sd, own, R, S, r, e, k⟩ := q
  cases e
  exact k gh σ H R S .rfl'
theorem seq_at {Dn : Ends} {σ : L2.St} {H : Hp} (h : trS Y (sSeq p q) Dn σ H) : trS Y p { Dn with nx := trS Y q Dn } σ H := by
  obtain ⟨gh, sd, own, R, S, r, e, k⟩ := h
  refine ⟨gh, sd, own, R, S, ?_⟩
  unfold sSeq at e
  cases ep : p sd own with
  | none => rw [ep] at e; cases e
  | some r0 =>
    rw [ep] at e
    refine ⟨r0, ep, ?_⟩
    cases r0 with
    | nx sd' own' => exact fun g' σ' H' R' S' e' => ⟨g', sd', own', R', S', r, e, k.shift e'⟩
    | rt s own' => cases e; exact k
    | bk sd' own' => cases e; exact k
    | ct sd' own' => cases e; exact k
    | ex c fs sd' own' => cases e; exact k
theorem rss_cons (h1 : PS X st (trS Y p)) (h2 : PSs X l (trS Y q)) : PSs X (st :: l) (trS Y (sSeq p q)) := PSs.imp (pss_cons h1 h2) fun D σ H h => seq_at h
theorem rss_one (h1 : PS X st (trS Y p)) : PSs X [st] (trS Y p) := pss_one h1
theorem rs_no : PS X st (trS Y sNo) := PS.imp ps_never fun D σ H q => by
  obtain ⟨gh, sd, own, R, S, r, e, k⟩ := q
  cases e
theorem rss_no : PSs X l (trS Y sNo) := PSs.imp pss_never fun D σ H q => by
  obtain ⟨gh, sd, own, R, S, r, e, k⟩ := q
  cases e
theorem re_no : PE X a (trE Y eNo) := ⟨fun pins s σ H Q I q => by
  obtain ⟨gh, sd, own, R, S, r, own', e, k⟩ := q
  cases e⟩
theorem rs_pass : PS X (.Pass pos) (trS Y sNil) := PS.imp ps_pass fun D σ H q => by
  obtain ⟨gh, sd, own, R, S, r, e, k⟩ := q
  cases e
  exact k gh σ H R S .rfl'
theorem rs_brk : PS X (.Break pos) (trS Y sBrk) := PS.imp ps_break fun D σ H q => by
  obtain ⟨gh, sd, own, R, S, r, e, k⟩ := q
  cases e
  exact k gh σ H R S .rfl'
theorem rs_cnt : PS X (.Continue pos) (trS Y sCnt) := PS.imp ps_continue fun D σ H q => by
  obtain ⟨gh, sd, own, R, S, r, e, k⟩ := q
  cases e
  exact k gh σ H R S .rfl'
theorem sat_nx {g' : Gh} {sd sd' : Sl} {own own' : Own} {Dn : Ends} {f : SM} (h : SAt Y g' sd own Dn f) (e : f sd own = some (.nx sd' own')) : ∀ g2 σ' H', HRel Y.T Y.B g2 own' H' → SRel Y.T g2 own'.length sd' σ' → GExt Y.B g' own.length g2 own'.length → Dn.nx σ' H' := by
  obtain ⟨r, e1, k⟩ := h
  rw [e] at e1
  cases e1
  exact k
theorem rs_expr (h : PE X a (trE Y f)) (hs : swapsWith a none pos.line X.env = pure false := by rfl) : PS X (.Expr a pos) (trS Y (sExpr f)) := PS.imp (ps_expr h hs) fun D σ H q => by
  obtain ⟨gh, sd, own, R, S, q⟩ := q
  refine s_bind R S q fun g1 o1 x v H1 R1 S1 e1 rx q1 => ?_
  exact sat_nx q1 rfl g1 σ H1 R1 S1 .rfl'
theorem rs_ret (h : PE X a (trE Y f)) : PS X (.Return (some a) pos) (trS Y (sRet f)) := PS.imp (ps_ret h) fun D σ H q => by
  obtain ⟨gh, sd, own, R, S, q⟩ := q
  refine s_bind R S q fun g1 o1 x v H1 R1 S1 e1 rx q1 => ?_
  obtain ⟨r, e, k⟩ := q1
  cases e
  exact k g1 v H1 R1 .rfl' rx
theorem rs_retN : PS X (.Return none pos) (trS Y sRetN) := PS.imp ps_retN fun D σ H q => by
  obtain ⟨gh, sd, own, R, S, r, e, k⟩ := q
  cases e
  exact k gh _ H R .rfl' .non
theorem rs_if (hc : PT X c (trT Y t)) (ha : PSs X l (trS Y p)) (hb : PSs X m (trS Y q)) : PS X (.If c l m pos) (trS Y (sIf t p q)) := PS.imp (ps_if hc ha hb) fun D σ H q => by
  obtain ⟨gh, sd, own, R, S, q⟩ := q
  refine s_bind R S q fun g1 o1 x v H1 R1 S1 e1 rx q1 => ?_
  obtain rfl : x = v := rx
  cases x with
  | true => rw [if_pos rfl]; exact ⟨g1, sd, o1, R1, S1, q1⟩
  | false => rw [if_neg (by decide)]; exact ⟨g1, sd, o1, R1, S1, q1⟩
theorem rs_set {i : Nat} {x : Str} {pos' : Pos} (hN : X.N.Nodup) (h : PE X a (trE Y f)) (hi : X.N[i]? = some x := by rfl) (hx : Loc X.env.scope x := by first | exact Or.inl rfl | exact Or.inr rfl) (hs : swapsWith a (some (.Name x pos')) pos.line X.env = pure false := by rfl)
    (hf : X.fn x = true ∨ X.env.scope.names.lookup x = some .local := by first | exact .inl rfl | exact .inr rfl) : PS X (.Assign [.Name x pos'] a pos) (trS Y (sSet i f)) := PS.imp (ps_set hN hi hx h hs hf) fun D σ H q => by
  obtain ⟨gh, sd, own, R, S, q⟩ := q
  refine s_bind R S q fun g1 o1 x v H1 R1 S1 e1 rx q1 => ?_
  exact sat_nx q1 rfl g1 _ H1 R1 (S1.set rx) .rfl'
theorem rs_par {i j : Nat} {x y : Str} {al : AM} {px py pt : Pos} {kt k2 pt2} (hN : X.N.Nodup) (ha : PA X [a, b] (trA Y al)) (hc : X.calm = true := by rfl) (hi : X.N[i]? = some x := by rfl) (hj : X.N[j]? = some y := by rfl) (hij : i ≠ j := by decide)
    (hx : X.env.scope.names.lookup x = some .local := by rfl) (hy : X.env.scope.names.lookup y = some .local := by rfl)
    (hw : swappedStores [.Tuple [.Name x px, .Name y py] kt pt] (.Tuple [a, b] k2 pt2) X.env = pure (some [x, y]) := by rfl)
    (hs : swapsWithSole [.Tuple [.Name x px, .Name y py] kt pt] (.Tuple [a, b] k2 pt2) pos.line X.env = pure false := by rfl) :
    PS X (.Assign [.Tuple [.Name x px, .Name y py] kt pt] (.Tuple [a, b] k2 pt2) pos) (trS Y (sPar [i, j] al)) := PS.imp (ps_par hc hN hi hj hij hx hy ha hw hs) fun D σ H q => by
  obtain ⟨gh, sd, own, R, S, q⟩ := q
  refine s_bind R S q fun g1 o1 xs vs H1 R1 S1 e1 rs q1 => ?_
  obtain ⟨r, e, k⟩ := q1
  match xs, rs, e with
  | [s1, s2], rs, e =>
    obtain ⟨v, w, rfl, r1, r2⟩ := rss2 rs
    cases e
    exact ⟨v, w, rfl, k g1 _ H1 R1 ((S1.set r1).set r2) .rfl'⟩
  | [], _, e => cases e
  | [_], _, e => cases e
  | _ :: _ :: _ :: _, _, e => cases e
theorem rs_par3 {i j k : Nat} {x y z : Str} {al : AM} {px py pz pt : Pos} {kt k2 pt2} (hN : X.N.Nodup) (ha : PA X [a, b, c] (trA Y al)) (hc : X.calm = true := by rfl) (hi : X.N[i]? = some x := by rfl) (hj : X.N[j]? = some y := by rfl) (hk : X.N[k]? = some z := by rfl) (hij : i ≠ j := by decide) (hik : i ≠ k := by decide) (hjk : j ≠ k := by decide)
    (hx : X.env.scope.names.lookup x = some .local := by rfl) (hy : X.env.scope.names.lookup y = some .local := by rfl) (hz : X.env.scope.names.lookup z = some .local := by rfl)
    (hw : swappedStores [.Tuple [.Name x px, .Name y py, .Name z pz] kt pt] (.Tuple [a, b, c] k2 pt2) X.env = pure (some [x, y, z]) := by rfl)
    (hs : swapsWithSole [.Tuple [.Name x px, .Name y py, .Name z pz] kt pt] (.Tuple [a, b, c] k2 pt2) pos.line X.env = pure false := by rfl) :
    PS X (.Assign [.Tuple [.Name x px, .Name y py, .Name z pz] kt pt] (.Tuple [a, b, c] k2 pt2) pos) (trS Y (sPar [i, j, k] al)) := PS.imp (ps_par3 hc hN hi hj hk hij hik hjk hx hy hz ha hw hs) fun D σ H q => by
  obtain ⟨gh, sd, own, R, S, q⟩ := q
  refine s_bind R S q fun g1 o1 xs vs H1 R1 S1 e1 rs q1 => ?_
  obtain ⟨r, e, k⟩ := q1
  match xs, rs, e with
  | [s1, s2, s3], rs, e =>
    obtain ⟨u, v, w, rfl, r1, r2, r3⟩ := rss3 rs
    cases e
    exact ⟨u, v, w, rfl, k g1 _ H1 R1 (((S1.set r1).set r2).set r3) .rfl'⟩
  | [], _, e => cases e
  | [_], _, e => cases e
  | [_, _], _, e => cases e
  | _ :: _ :: _ :: _ :: _, _, e => cases e
/-! several names -/
def gSets : List Nat → TGs
  | [] => gNil
  | i :: is => gCons (gName i) (gSets is)
theorem setL_rel {gh : Gh} {n : Nat} {Q : L2.St → Hp → Prop} {H : Hp} : ∀ {is : List Nat} {xs : List SV} {vs : List V} {sd sd' : Sl} {σ : L2.St}, RSs Y.T gh n xs vs → SRel Y.T gh n sd σ → setL is xs sd = some sd' →
    (∀ σ', SRel Y.T gh n sd' σ' → Q σ' H) → gSets is vs σ H Q
  | [], _, _, sd, sd', σ, .nil, S, e, k => by cases e; exact ⟨rfl, k σ S⟩
  | [], _, _, sd, sd', σ, .cons _ _, S, e, k => by cases e
  | i :: is, _, _, sd, sd', σ, .nil, S, e, k => by cases e
  | i :: is, _, _, sd, sd', σ, .cons h t, S, e, k => ⟨_, _, rfl, setL_rel t (S.set h) e k⟩
theorem reps_rss {gh : Gh} {n : Nat} : ∀ {ds : List D} {vs : List V}, Reps Y.T gh.F ds vs → RSs Y.T gh n (ds.map SV.d) vs
  | _, _, .nil => .nil
  | _, _, .cons h r => .cons h (reps_rss r)
/-- (a, b, ..) = a tuple of data -/
theorem rs_unp {is : List Nat} {es : List Expr} {n k : Nat} {pt : Pos} (h : PE X a (trE Y f)) (hg : PGs X es (gSets is)) (hn : is.length = n) (hc : X.calm = true := by rfl) (hn2 : (assignEach es X.env).length = n := by rfl) (hst : (assignEach es X.env).findIdx? (·.1) = none := by rfl)
    (hs : swapsWithSole [.Tuple es k pt] a pos.line X.env = pure false := by rfl) (hw : swappedStores [.Tuple es k pt] a X.env = pure none := by rfl) (h1 : (assignEach [.Tuple es k pt] X.env).map (·.2) = [assign (.Tuple es k pt) X.env] := by rfl) (hK : X.K = Y.T.K := by rfl) :
    PS X (.Assign [.Tuple es k pt] a pos) (trS Y (sUnp is f)) := PS.imp (ps_asg h (pg_tup hc hg hn2 hst) hs hw h1) fun D σ H q => by
  obtain ⟨gh, sd, own, R, S, q⟩ := q
  refine s_bind R S q fun g1 o1 x v H1 R1 S1 e1 rx q1 => ?_
  obtain ⟨r, e, k⟩ := q1
  cases x with
  | h kk => cases e
  | d x =>
    cases x with
    | tup ds =>
      obtain ⟨sd', e1, e2⟩ := Option.map_eq_some_iff.mp e
      subst e2
      have rx : Rep Y.T g1.F (.tup ds) v := rx
      cases rx with
      | @tup p vs _ h1 h2 =>
        refine ⟨p, vs, rfl, by rw [hK]; exact SqT.le R1.f h1, ?_, setL_rel (reps_rss h2) S1 e1 fun σ' S' => k g1 σ' H1 R1 S' .rfl'⟩
        rw [← h2.length, ← hn]
        have : ∀ {is : List Nat} {xs : List SV} {sd sd' : Sl}, setL is xs sd = some sd' → xs.length = is.length := by
          intro is
          induction is with
          | nil => intro xs sd sd' e; cases xs with
            | nil => rfl
            | cons _ _ => cases e
          | cons i is ih => intro xs sd sd' e; cases xs with
            | nil => cases e
            | cons x xs => rw [List.length_cons, List.length_cons, ih e]
        have := this e1
        rw [List.length_map] at this
        exact this
    | _ => cases e
theorem rs_aug {i : Nat} {x : Str} {op : Operator} {gg : Int → Int → Int} {pos' : Pos} (hN : X.N.Nodup) (ho : PIp X op (ipI gg)) (h : PE X a (trE Y f)) (hi : X.N[i]? = some x := by rfl) (hx : Loc X.env.scope x := by first | exact Or.inl rfl | exact Or.inr rfl)
    (hf : X.fn x = true ∨ X.env.scope.names.lookup x = some .local := by first | exact .inl rfl | exact .inr rfl) : PS X (.AugAssign (.Name x pos') op a pos) (trS Y (sAug gg i f)) := PS.imp (ps_aug hN hi hx h ho hf) fun D σ H q => by
  obtain ⟨gh, sd, own, R, S, r, e, k⟩ := q
  unfold sAug at e
  cases e0 : sd[i]? with
  | none => rw [e0] at e; cases e
  | some o =>
    rw [e0] at e
    cases o with
    | none => cases e
    | some s =>
      cases s with
      | h kk => cases e
      | d x =>
        cases x with
        | int n =>
          obtain ⟨v, ev, rv⟩ := S.2 i _ e0
          obtain rfl := sv_int rv
          refine ⟨_, ev, ?_⟩
          refine s_bind R S ⟨r, e, k⟩ fun g1 o1 y w H1 R1 S1 e1 ry q1 => ?_
          obtain ⟨r2, e2, k2⟩ := q1
          cases y with
          | h kk => cases e2
          | d y =>
            cases y with
            | int m =>
              cases e2
              exact ⟨n, m, rfl, sv_int ry, k2 g1 _ H1 R1 (S1.set (show RS Y.T g1 _ (.d (.int (gg n m))) (.int (gg n m)) from Rep.int _)) .rfl'⟩
            | _ => cases e2
        | _ => cases e
theorem rs_putL {po : Pos} {o i : Expr} {fo fi : EM} (ho : PE X o (trE Y fo)) (hi : PE X i (trE Y fi)) (hv : PE X a (trE Y f)) (hs : swapsWithSole [.Subscript o i po] a pos.line X.env = pure false := by rfl) (hw : swappedStores [.Subscript o i po] a X.env = pure none := by rfl)
    (h1 : (assignEach [.Subscript o i po] X.env).map (·.2) = [assign (.Subscript o i po) X.env] := by rfl)
    (ha : ∀ v, assign (.Subscript o i po) X.env v = (do
      let ov ← holding [v] (eval o X.env)
      let iv ← holding [v, ov] (eval i X.env)
      standAt po
      holding [v, ov, iv] (setItem ov iv v)
      release [v, ov, iv] []) := by intro _; rfl) : PS X (.Assign [.Subscript o i po] a pos) (trS Y (sPutL fo fi f)) := PS.imp (ps_asg hv (pg_sub ho hi set_list ha) hs hw h1) fun D σ H q => by
  obtain ⟨gh, sd, own, R, S, q⟩ := q
  refine s_bind R S q fun g1 o1 x v H1 R1 S1 e1 rx q1 => ?_
  refine s_bind R1 S1 q1 fun g2 o2 y w H2 R2 S2 e2 ry q2 => ?_
  refine s_bind R2 S2 q2 fun g3 o3 z u H3 R3 S3 e3 rz q3 => ?_
  have rx3 := (rx.ext e2).ext e3
  have ry3 := ry.ext e3
  obtain ⟨r, e, k⟩ := q3
  cases x with
  | h kk => cases e
  | d d =>
    obtain ⟨own', e4, e5⟩ := Option.map_eq_some_iff.mp e
    subst e5
    cases y with
    | d y => cases e4
    | h kk =>
      cases z with
      | h k2 => cases e4
      | d z =>
        cases z with
        | int i =>
          have e4 : (match o3[kk]? with | some (.lst xs) => (ixN xs.length i).map fun j => o3.set kk (.lst (xs.set j d)) | _ => none) = some own' := e4
          cases eo : o3[kk]? with
          | none => rw [eo] at e4; cases e4
          | some ob =>
            rw [eo] at e4
            cases ob with
            | lst xs =>
              obtain ⟨j, e6, e7⟩ := Option.map_eq_some_iff.mp e4
              subst e7
              obtain ⟨vs, h1, h2⟩ := R3.o kk _ eo
              have hw := ry3.2
              subst hw
              obtain rfl := sv_int rz
              refine ⟨g3.ρ kk, vs, i, j, rfl, rfl, h1, by rw [← h2.length]; exact e6, ?_⟩
              have R4 := R3.put (ho := .lst (vs.set j v)) (o' := .lst (xs.set j d)) eo rfl ⟨_, upd_same, h2.set j rx3⟩
              exact k g3 σ _ R4 (by rw [List.length_set]; exact S3) (by rw [List.length_set]; exact .rfl')
            | _ => cases e4
        | _ => cases e4
/-- a ghost's step: the list in slot i is frozen -/
def sFrz (i : Nat) (p : SM) : SM := fun sd own => match sd[i]? with
  | some (some (.h k)) => match own[k]? with
    | some (.lst xs) => p (sd.set i (some (.d (.lst xs)))) (own.set k .dead)
    | some (.dic ks xs) => p (sd.set i (some (.d (.dic ks xs)))) (own.set k .dead)
    | _ => none
  | _ => none
theorem set_same {α : Type} : ∀ {l : List α} {i : Nat} {x : α}, l[i]? = some x → l.set i x = l
  | [], _, _, h => by simp at h
  | _ :: _, 0, _, h => by simp at h; subst h; rfl
  | a :: l, i + 1, x, h => by
    rw [List.set_cons_succ, set_same (by simpa using h)]
theorem rss_frz (i : Nat) (h : PSs X l (trS Y p)) : PSs X l (trS Y (sFrz i p)) := PSs.imp h fun D σ H q => by
  obtain ⟨gh, sd, own, R, S, r, e, k⟩ := q
  unfold sFrz at e
  cases e0 : sd[i]? with
  | none => rw [e0] at e; cases e
  | some o =>
    rw [e0] at e
    cases o with
    | none => cases e
    | some s =>
      cases s with
      | d x => cases e
      | h kk =>
        obtain ⟨v, ev, rv⟩ := S.2 i _ e0
        have hv := rv.2
        subst hv
        cases eo : own[kk]? with
        | none => simp only [eo] at e; cases e
        | some ob =>
          cases ob with
          | lst xs =>
            simp only [eo] at e
            obtain ⟨vs, h1, h2⟩ := R.o kk _ eo
            obtain ⟨R2, e2⟩ := R.freeze eo rfl h1
            have S2 := (S.ext e2).set (i := i) (sv := .d (.lst xs)) (v := .ref (gh.ρ kk)) (Rep.lst upd_same (h2.le e2.F))
            rw [set_same ev] at S2
            exact ⟨_, _, _, R2, S2, r, e, k.shift e2⟩
          | dic ks xs =>
            simp only [eo] at e
            obtain ⟨kvs, h1, h2, h3⟩ := R.o kk _ eo
            obtain ⟨R2, e2⟩ := R.freeze eo rfl h1
            have S2 := (S.ext e2).set (i := i) (sv := .d (.dic ks xs)) (v := .ref (gh.ρ kk)) (Rep.dic (.inl upd_same) h2 (h3.le e2.F))
            rw [set_same ev] at S2
            exact ⟨_, _, _, R2, S2, r, e, k.shift e2⟩
          | _ => simp only [eo] at e; cases e
end
end Gx
end T_GxR6
section T_GxR7
set_option Elab.async false
set_option linter.all false
set_option maxRecDepth 100000
set_option maxHeartbeats 4000000
namespace Gx
open PySem PySem.Spec PyProof.Rows L2

/-! ## methods that change a list of one's own -/
abbrev MM := Own → List D → List SV → Option (D × List D)
def eMut (mm : MM) (f : EM) (a : AM) : EM := f.bind fun x => (M.ask fun own => lstV own x).bind fun _ => a.bind fun ys => fun _ own => match x with
  | .h k => match own[k]? with
    | some (.lst xs) => match mm own xs ys with
      | some (z, xs') => some (.ok (.d z), own.set k (.lst xs'))
      | none => none
    | _ => none
  | _ => none
def OMt (Y : Cy) (r : V → List V → Hp → VK → Prop) (mm : MM) : Prop := ∀ (gh : Gh) (own : Own) (H : Hp) (p : Addr) (xs : List D) (vs : List V) (ys : List SV) (ws : List V) (z : D) (xs' : List D) (Q : VK),
  HRel Y.T Y.B gh own H → H p = some (.lst vs) → Reps Y.T gh.F xs vs → RSs Y.T gh own.length ys ws → mm own xs ys = some (z, xs') →
  (∀ u vs', Reps Y.T gh.F xs' vs' → Rep Y.T gh.F z u → Q u (upd H p (.lst vs'))) → r (.ref p) ws H Q
theorem ask_at {α γ δ : Type} {Y : Cy} {relC : Gh → Nat → γ → δ → Prop} {gh : Gh} {sd : Sl} {own : Own} {σ : L2.St} {Q : δ → Hp → Prop} {f : Own → Option α} {k : α → M γ} (h : At Y relC gh sd own σ Q ((M.ask f).bind k)) : ∃ x, f own = some x ∧ At Y relC gh sd own σ Q (k x) := by
  obtain ⟨r, own', e, q⟩ := h
  unfold M.bind M.ask at e
  cases ef : f own with
  | none => simp only [ef] at e; cases e
  | some x => simp only [ef] at e; exact ⟨x, rfl, r, own', e, q⟩
theorem at_mut {Y : Cy} {K : PySem.W.Frag} {r : V → List V → Hp → VK → Prop} {mm : MM} {f : EM} {al : AM} (om : OMt Y r mm) {σ : L2.St} {H : Hp} {Q : VK} (q : trE Y (eMut mm f al) σ H Q) : tBM K "list" r (trE Y f) (trA Y al) σ H Q := by
  obtain ⟨gh, sd, own, R, S, q⟩ := q
  refine at_bind R S q fun g1 o1 x v H1 R1 S1 e1 rx q1 => ?_
  obtain ⟨xs0, ex0, q1⟩ := ask_at q1
  obtain ⟨a0, vs0, rfl, h0, _⟩ := lst_of R1 rx ex0
  refine ⟨.inl ⟨rfl, _, SqL.of h0⟩, ?_⟩
  refine at_bind R1 S1 q1 fun g2 o2 ys ws H2 R2 S2 e2 rs q2 => ?_
  obtain ⟨r0, own', e, k⟩ := q2
  cases x with
  | d x => cases e
  | h kk =>
    have rx2 := rx.ext e2
    cases eo : o2[kk]? with
    | none => simp only [eo] at e; cases e
    | some ob =>
      cases ob with
      | lst xs =>
        simp only [eo] at e
        cases em : mm o2 xs ys with
        | none => simp only [em] at e; cases e
        | some p =>
          obtain ⟨z, xs'⟩ := p
          simp only [em] at e
          cases e
          obtain ⟨vs, h1, h2⟩ := R2.o kk _ eo
          have ea : a0 = g2.ρ kk := V.ref.inj rx2.2
          subst ea
          refine om g2 o2 H2 (g2.ρ kk) xs vs ys ws z xs' Q R2 h1 h2 rs em fun u vs' r1 r2 => ?_
          have R4 := R2.put (ho := .lst vs') (o' := .lst xs') eo rfl ⟨_, upd_same, r1⟩
          exact k g2 u _ R4 (by rw [List.length_set]; exact .rfl') r2
      | _ => simp only [eo] at e; cases e
section
variable {X : Cx} {Y : Cy} {apos cpos : Pos} {o e : Expr} {es : List Expr} {name : Str} {id : String} {r : V → List V → Hp → VK → Prop} {mm : MM} {f : EM} {al : AM}
theorem r_mut (slot : Slot "list" name id) (hty : typeOf (.builtin id) = pure (.type "method_descriptor")) (hm : MtR X id r) (om : OMt Y r mm) (ho : PE X o (trE Y f)) (ha : PA X (e :: es) (trA Y al))
    (hbase : attributeBase o name X.env (eval o X.env) = eval o X.env := by rfl)
    (hfew : ((backTo cpos (starEach (e :: es) X.env)).all (fun x => !x.1) && (backToKw cpos (keywordEach [] X.env)).all (fun x => x.1.isSome)
      && decide ((e :: es).length + ([] : List Keyword).length + (if ([] : List Keyword).isEmpty then 0 else 1) < 30)) = true := by rfl)
    (hline : (apos.endLine == cpos.line) = true := by rfl) (hs : starEach (e :: es) X.env = (false, eval e X.env) :: starEach es X.env := by rfl) (hplain : (backTo cpos (starEach es X.env)).any (·.1) = false := by rfl) :
    PE X (.Call (.Attribute o name apos) (e :: es) [] cpos) (trE Y (eMut mm f al)) :=
  PE.imp (pe_bm PySem.F.plainAttrs_list slot hty hm ho ha hbase hfew hline hs hplain) fun _ _ _ q => at_mut om q
end
def mmApp : MM := fun _ xs ys => match ys with
  | [.d y] => if xs.length < sizeLine then some (.non, xs ++ [y]) else none
  | _ => none
theorem om_app {Y : Cy} : OMt Y rAppend mmApp := by
  intro gh own H p xs vs ys ws z xs' Q R h1 h2 rs e k
  match ys, rs, e with
  | [.d y], rs, e =>
    obtain ⟨w, rfl, rw'⟩ := rss1 rs
    have e : (if xs.length < sizeLine then some (D.non, xs ++ [y]) else none) = some (z, xs') := e
    by_cases c : xs.length < sizeLine
    · rw [if_pos c] at e
      cases e
      exact ⟨p, vs, w, rfl, rfl, h1, by rw [← h2.length]; exact c, k _ _ (h2.snoc rw') .non⟩
    · rw [if_neg c] at e; cases e
def mmExt : MM := fun own xs ys => match ys with
  | [y] => (lstV own y).bind fun zs => if xs.length + zs.length ≤ sizeLine then some (.non, xs ++ zs) else none
  | _ => none
theorem om_ext {Y : Cy} : OMt Y rExtend mmExt := by
  intro gh own H p xs vs ys ws z xs' Q R h1 h2 rs e k
  match ys, rs, e with
  | [y], rs, e =>
    obtain ⟨w, rfl, rw'⟩ := rss1 rs
    obtain ⟨zs, e1, e⟩ := Option.bind_eq_some_iff.mp e
    obtain ⟨b, us, rfl, h3, h4⟩ := lst_of R rw' e1
    by_cases c : xs.length + zs.length ≤ sizeLine
    · rw [if_pos c] at e
      cases e
      exact ⟨p, b, vs, us, rfl, rfl, h1, h3, by rw [← h2.length, ← h4.length]; exact c, k _ _ (h2.append h4) .non⟩
    · rw [if_neg c] at e; cases e
theorem Reps.eraseIdx {T : Tb} {F : Hp} : ∀ {ds : List D} {vs : List V} (i : Nat), Reps T F ds vs → Reps T F (ds.eraseIdx i) (vs.eraseIdx i)
  | _, _, _, .nil => .nil
  | _, _, 0, .cons _ t => t
  | _, _, i + 1, .cons h t => .cons h (t.eraseIdx i)
def mmPopAt : MM := fun _ xs ys => match ys with
  | [.d (.int i)] => if -(2 ^ 63) ≤ i ∧ i < 2 ^ 63 then (seqIndex? i xs.length).bind fun k => (xs[k]?).map fun y => (y, xs.eraseIdx k) else none
  | _ => none
theorem om_popAt {Y : Cy} : OMt Y rPopAt mmPopAt := by
  intro gh own H p xs vs ys ws z xs' Q R h1 h2 rs e k
  match ys, rs, e with
  | [.d (.int i)], rs, e =>
    obtain ⟨w, rfl, rw'⟩ := rss1 rs
    obtain rfl := sv_int rw'
    have e : (if -(2 ^ 63) ≤ i ∧ i < 2 ^ 63 then (seqIndex? i xs.length).bind fun k => (xs[k]?).map fun y => (y, xs.eraseIdx k) else none) = some (z, xs') := e
    by_cases c : -(2 ^ 63) ≤ i ∧ i < 2 ^ 63
    · rw [if_pos c] at e
      obtain ⟨j, e1, e⟩ := Option.bind_eq_some_iff.mp e
      obtain ⟨y, e2, e3⟩ := Option.map_eq_some_iff.mp e
      cases e3
      obtain ⟨v, e4, r4⟩ := h2.get e2
      exact ⟨p, vs, i, j, v, rfl, rfl, h1, c.1, c.2, by rw [← h2.length]; exact e1, e4, k _ _ (h2.eraseIdx j) r4⟩
    · rw [if_neg c] at e; cases e

/-! ## for -/
abbrev IM := M (List D)
/-- what an iterator yields -/
structure Walks (T : Tb) (J : It) (g0 : Gh) (xs : List D) : Prop where
  go : ∀ (B : Hp) (i : Nat) (g : Gh) (own : Own) (H : Hp), HRel T B g own H → Le g0.F g.F → i < xs.length → J.go i H
  stop : ∀ (B : Hp) (i : Nat) (g : Gh) (own : Own) (H : Hp), HRel T B g own H → Le g0.F g.F → xs.length ≤ i → J.stop i H
  yld : ∀ (B : Hp) (i : Nat) (g : Gh) (own : Own) (H : Hp) (x : V) (H' : Hp) (d : D), HRel T B g own H → Le g0.F g.F → J.yld i H x H' → xs[i]? = some d →
    ∃ g2, HRel T B g2 own H' ∧ GExt B g own.length g2 own.length ∧ Rep T g2.F d x
def trI (Y : Cy) (f : IM) : TI := trM Y (fun g _ xs J => Walks Y.T J g xs) f
theorem PI.imp {X : Cx} {tg e : Expr} {t t' : TI} (h : PI X tg e t) (i : ∀ σ H Q, t' σ H Q → t σ H Q) : PI X tg e t' := ⟨fun pins s σ H Q I q => h.run pins s σ H Q I (i σ H Q q)⟩
theorem PI.or {X : Cx} {tg e : Expr} {t t' : TI} (h : PI X tg e t) (h' : PI X tg e t') : PI X tg e (fun σ H Q => t σ H Q ∨ t' σ H Q) := ⟨fun pins s σ H Q I q => q.elim (h.run pins s σ H Q I) (h'.run pins s σ H Q I)⟩
/-- a list or a tuple of data -/
def iSeq (f : EM) : IM := f.bind fun x => match x with
  | .d (.lst xs) => M.ret xs
  | .d (.tup xs) => M.ret xs
  | _ => M.fail
section
variable {X : Cx} {Y : Cy} {tg a b c : Expr} {f : EM}
theorem at_all {α β : Type} {rel : Gh → Nat → α → β → Prop} {ff : M α} {gh : Gh} {sd : Sl} {own : Own} {σ : L2.St} {H : Hp} {Q Q' : β → Hp → Prop} (R : HRel Y.T Y.B gh own H) (S : SRel Y.T gh own.length sd σ) (h : At Y rel gh sd own σ Q ff) (i : ∀ v H, Q v H → Q' v H) : trM Y rel ff σ H Q' := by
  obtain ⟨r, own', e, q⟩ := h
  refine ⟨gh, sd, own, R, S, r, own', e, ?_⟩
  cases r with
  | ok x => exact fun g' v H' R' e' rx => i _ _ (q g' v H' R' e' rx)
  | ex k fs => exact q
theorem ri_seq (h : PE X a (trE Y f)) (hK : X.K = Y.T.K := by rfl) : PI X tg a (trI Y (iSeq f)) := by
  refine PI.imp (PI.or (pi_list h) (pi_tup h)) fun σ H Q q => ?_
  obtain ⟨gh, sd, own, R, S, q⟩ := q
  obtain ⟨r, own', e, q0⟩ := id q
  unfold iSeq M.bind at e
  cases ef : f sd own with
  | none => rw [ef] at e; cases e
  | some p =>
    obtain ⟨r0, o1⟩ := p
    rw [ef] at e
    cases r0 with
    | ex k fs => cases e; exact .inl ⟨gh, sd, own, R, S, _, _, ef, q0⟩
    | ok x =>
      cases x with
      | h k => cases e
      | d x =>
        cases x with
        | lst xs =>
          cases e
          refine .inl ⟨gh, sd, own, R, S, _, _, ef, fun g' v H' R' e' rx => ?_⟩
          have rx : Rep Y.T g'.F (.lst xs) v := rx
          cases rx with
          | @lst p vs _ h1 h2 =>
            rw [hK]
            refine ⟨p, rfl, ⟨vs, SqL.of (R'.f _ _ h1)⟩, q0 g' _ H' R' e' ⟨fun _ i g own H R l hi => ?_, fun _ i g own H R l hi => ?_, fun _ i g own H x H2 d R l y hd => ?_⟩⟩
            · obtain ⟨v, hv⟩ : ∃ v, vs[i]? = some v := ⟨vs[i]'(by rw [← h2.length]; exact hi), by simp⟩
              exact ⟨vs, v, SqL.of (R.f _ _ (l _ _ h1)), hv⟩
            · exact ⟨vs, SqL.of (R.f _ _ (l _ _ h1)), by rw [← h2.length]; exact hi⟩
            · obtain ⟨e1, e2⟩ := y
              subst e1
              obtain ⟨v, hv, rv⟩ := h2.get hd
              have := e2 vs (SqL.of (R.f _ _ (l _ _ h1)))
              rw [hv] at this
              cases this
              exact ⟨g, R, .rfl', rv.le l⟩
        | tup xs =>
          cases e
          refine .inr ⟨gh, sd, own, R, S, _, _, ef, fun g' v H' R' e' rx => ?_⟩
          have rx : Rep Y.T g'.F (.tup xs) v := rx
          cases rx with
          | @tup p vs _ h1 h2 =>
            rw [hK]
            refine ⟨p, rfl, ⟨vs, SqT.le R'.f h1⟩, q0 g' _ H' R' e' ⟨fun _ i g own H R l hi => ?_, fun _ i g own H R l hi => ?_, fun _ i g own H x H2 d R l y hd => ?_⟩⟩
            · obtain ⟨v, hv⟩ : ∃ v, vs[i]? = some v := ⟨vs[i]'(by rw [← h2.length]; exact hi), by simp⟩
              exact ⟨vs, v, SqT.le R.f (SqT.le l h1), hv⟩
            · exact ⟨vs, SqT.le R.f (SqT.le l h1), by rw [← h2.length]; exact hi⟩
            · obtain ⟨e1, e2⟩ := y
              subst e1
              obtain ⟨v, hv, rv⟩ := h2.get hd
              have := e2 vs (SqT.le R.f (SqT.le l h1))
              rw [hv] at this
              cases this
              exact ⟨g, R, .rfl', rv.le l⟩
        | _ => cases e
/-- range: the items -/
def rgD (a : Int) (n : Nat) : List D := (List.range n).map fun i => .int (a + (i : Nat))
def rgOk (a b : Int) : Bool := decide (-(2 ^ 62) ≤ a ∧ a < 2 ^ 62 ∧ -(2 ^ 62) ≤ b ∧ b < 2 ^ 62)
def iRg1 (a : AM) : IM := a.bind fun xs => match xs with
  | [.d (.int j)] => if rgOk 0 j = true then M.ret (rgD 0 j.toNat) else M.fail
  | _ => M.fail
def iRg2 (a : AM) : IM := a.bind fun xs => match xs with
  | [.d (.int i), .d (.int j)] => if rgOk i j = true then M.ret (rgD i (j - i).toNat) else M.fail
  | _ => M.fail
theorem walks_rg {g0 : Gh} {lo : Int} {n : Nat} : Walks Y.T (Itr lo n) g0 (rgD lo n) := by
  have hl : (rgD lo n).length = n := by unfold rgD; simp
  refine ⟨fun _ i g own H R l hi => by rw [hl] at hi; exact hi, fun _ i g own H R l hi => by rw [hl] at hi; exact hi, fun _ i g own H x H2 d R l y hd => ?_⟩
  obtain ⟨e1, e2⟩ := y
  subst e1 e2
  unfold rgD at hd
  rw [List.getElem?_map] at hd
  have hi : i < n := by
    by_cases c : i < n
    · exact c
    · rw [List.getElem?_eq_none (by simp; omega)] at hd; cases hd
  rw [List.getElem?_range hi] at hd
  cases hd
  exact ⟨g, R, .rfl', .int _⟩
theorem ri_rg1 {p pos : Pos} {al : AM} (hm : X.mg "range" = none) (ha : PA X [a] (trA Y al)) (hg : Gl X "range" := by rfl) (hs : starEach [a] X.env = [(false, eval a X.env)] := by rfl) : PI X tg (.Call (.Name "range" p) [a] [] pos) (trI Y (iRg1 al)) := by
  refine PI.imp (pi_range1 hg hm ha hs) fun σ H Q q => ?_
  obtain ⟨gh, sd, own, R, S, q⟩ := q
  refine at_bind R S q fun g1 o1 xs vs H1 R1 S1 e1 rs q1 => ?_
  match xs, rs, q1 with
  | [.d (.int j)], rs, q1 =>
    obtain ⟨v, rfl, rv⟩ := rss1 rs
    obtain rfl := sv_int rv
    have q1 : At Y _ g1 sd o1 σ Q (if rgOk 0 j = true then M.ret (rgD 0 j.toNat) else M.fail) := q1
    by_cases c : rgOk 0 j = true
    · rw [if_pos c] at q1
      obtain ⟨c1, c2, c3, c4⟩ := of_decide_eq_true c
      exact ⟨j, rfl, c3, c4, at_ret q1 g1 _ H1 R1 .rfl' walks_rg⟩
    · rw [if_neg c] at q1; exact (at_fail q1).elim
theorem ri_rg2 {p pos : Pos} {al : AM} (hm : X.mg "range" = none) (ha : PA X [a, b] (trA Y al)) (hg : Gl X "range" := by rfl) (hs : starEach [a, b] X.env = [(false, eval a X.env), (false, eval b X.env)] := by rfl) (hs2 : starEach [b] X.env = [(false, eval b X.env)] := by rfl) : PI X tg (.Call (.Name "range" p) [a, b] [] pos) (trI Y (iRg2 al)) := by
  refine PI.imp (pi_range2 hg hm ha hs hs2) fun σ H Q q => ?_
  obtain ⟨gh, sd, own, R, S, q⟩ := q
  refine at_bind R S q fun g1 o1 xs vs H1 R1 S1 e1 rs q1 => ?_
  match xs, rs, q1 with
  | [.d (.int i), .d (.int j)], rs, q1 =>
    obtain ⟨v, w, rfl, rv, rw'⟩ := rss2 rs
    obtain rfl := sv_int rv
    obtain rfl := sv_int rw'
    have q1 : At Y _ g1 sd o1 σ Q (if rgOk i j = true then M.ret (rgD i (j - i).toNat) else M.fail) := q1
    by_cases c : rgOk i j = true
    · rw [if_pos c] at q1
      exact ⟨i, j, rfl, of_decide_eq_true c, at_ret q1 g1 _ H1 R1 .rfl' walks_rg⟩
    · rw [if_neg c] at q1; exact (at_fail q1).elim
end
/-- a target -/
abbrev GM := D → Sl → Option Sl
def tgN (i : Nat) : GM := fun d sd => some (sd.set i (some (.d d)))
def tgU (is : List Nat) : GM := fun d sd => match d with
  | .tup ds => setL is (ds.map SV.d) sd
  | _ => none
/-- only the slots at is differ -/
def Upd (is : List Nat) (σ σ' : L2.St) : Prop := σ'.length = σ.length ∧ ∀ j, j ∉ is → σ'[j]? = σ[j]?
theorem Upd.rfl' {is : List Nat} {σ : L2.St} : Upd is σ σ := ⟨rfl, fun _ _ => rfl⟩
def OG (T : Tb) (gg : TG) (tg : GM) (is : List Nat) : Prop := ∀ (B : Hp) (gh : Gh) (own : Own) (H : Hp) (d : D) (v : V) (sd sd' : Sl) (σ : L2.St) (Q : L2.St → Hp → Prop),
  HRel T B gh own H → Rep T gh.F d v → SRel T gh own.length sd σ → tg d sd = some sd' → (∀ σ', SRel T gh own.length sd' σ' → Upd is σ σ' → Q σ' H) → gg v σ H Q
theorem og_n {T : Tb} (i : Nat) : OG T (gName i) (tgN i) [i] := by
  intro B gh own H d v sd sd' σ Q R r S e k
  cases e
  exact k _ (S.set r) ⟨by simp, fun j hj => List.getElem?_set_ne (fun z => hj (by rw [z]; exact List.mem_singleton.mpr rfl))⟩
theorem setL_len : ∀ {is : List Nat} {xs : List SV} {sd sd' : Sl}, setL is xs sd = some sd' → xs.length = is.length := by
  intro is
  induction is with
  | nil => intro xs sd sd' e; cases xs with
    | nil => rfl
    | cons _ _ => cases e
  | cons i is ih => intro xs sd sd' e; cases xs with
    | nil => cases e
    | cons x xs => rw [List.length_cons, List.length_cons, ih e]
theorem setL_relU {T : Tb} {gh : Gh} {n : Nat} {Q : L2.St → Hp → Prop} {H : Hp} : ∀ {is : List Nat} {xs : List SV} {vs : List V} {sd sd' : Sl} {σ : L2.St}, RSs T gh n xs vs → SRel T gh n sd σ → setL is xs sd = some sd' →
    (∀ σ', SRel T gh n sd' σ' → Upd is σ σ' → Q σ' H) → gSets is vs σ H Q
  | [], _, _, sd, sd', σ, .nil, S, e, k => by cases e; exact ⟨rfl, k σ S .rfl'⟩
  | [], _, _, sd, sd', σ, .cons _ _, S, e, k => by cases e
  | i :: is, _, _, sd, sd', σ, .nil, S, e, k => by cases e
  | i :: is, _, _, sd, sd', σ, .cons h t, S, e, k => ⟨_, _, rfl, setL_relU t (S.set h) e fun σ' S' u => k σ' S' ⟨by rw [u.1]; simp, fun j hj => by
      rw [List.mem_cons, not_or] at hj
      rw [u.2 j hj.2, List.getElem?_set_ne (fun z => hj.1 z.symm)]⟩⟩
theorem og_u {T : Tb} (is : List Nat) : OG T (gTup T.K is.length (gSets is)) (tgU is) is := by
  intro B gh own H d v sd sd' σ Q R r S e k
  cases d with
  | tup ds =>
    have e : setL is (ds.map SV.d) sd = some sd' := e
    cases r with
    | @tup p vs _ h1 h2 =>
      have hl := setL_len e
      rw [List.length_map] at hl
      exact ⟨p, vs, rfl, SqT.le R.f h1, by rw [← h2.length, hl], setL_relU (reps_rss (Y := ⟨T, B, fun _ _ _ _ => True⟩) h2) S e k⟩
  | _ => cases e
def forL (tg : GM) (body : SM) : List D → SM
  | [] => sNil
  | x :: xs => fun sd own => match tg x sd with
    | none => none
    | some sd1 => match body sd1 own with
      | some (.nx sd2 own2) => forL tg body xs sd2 own2
      | some (.ct sd2 own2) => forL tg body xs sd2 own2
      | some (.bk sd2 own2) => some (.nx sd2 own2)
      | r => r
def sFor (src : IM) (tg : GM) (body : SM) : SM := SM.bind src fun xs => forL tg body xs
theorem rs_for {X : Cx} {Y : Cy} {t iter : Expr} {body : List Stmt} {pos : Pos} {src : IM} {tg : GM} {gg : TG} {is : List Nat} {p : SM} (hp : PassesOwn (model X.prog X.w) X.A X.env X.xe) (hi : PI X t iter (trI Y src)) (hg : PG X t gg) (og : OG Y.T gg tg is) (hb : PSs X body (trS Y p)) (hc : X.calm = true := by rfl)
    (hs : ∀ x, foldedSetIterable iter X.env x = pure x := by intro _; rfl) : PS X (.For t iter body [] pos) (trS Y (sFor src tg p)) := PS.imp (ps_for hp hc hi hg hb hs) fun Dn σ H q => by
  obtain ⟨gh, sd, own, R, S, q⟩ := q
  refine s_bind R S q fun g1 o1 xs J H1 R1 S1 e1 wk q1 => ?_
  refine ⟨fun i m σ H => m = xs.length - i ∧ i ≤ xs.length ∧ ∃ g2 sd2 o2, HRel Y.T Y.B g2 o2 H ∧ SRel Y.T g2 o2.length sd2 σ ∧ Le g1.F g2.F ∧ SAt Y g2 sd2 o2 Dn (forL tg p (xs.drop i)), ⟨xs.length, by omega, Nat.zero_le _, g1, sd, o1, R1, S1, .rfl', by rw [List.drop_zero]; exact q1⟩, ?_⟩
  rintro i m σ2 H2 ⟨rfl, hi, g2, sd2, o2, R2, S2, l2, q2⟩
  by_cases c : i < xs.length
  · refine .inr ⟨wk.go _ i g2 o2 H2 R2 l2 c, fun σ' H' => i + 1 ≤ xs.length ∧ ∃ g2 sd2 o2, HRel Y.T Y.B g2 o2 H' ∧ SRel Y.T g2 o2.length sd2 σ' ∧ Le g1.F g2.F ∧ SAt Y g2 sd2 o2 Dn (forL tg p (xs.drop (i + 1))),
      fun σ' H' w => ⟨xs.length - (i + 1), by omega, rfl, w⟩, fun x H' y => ?_⟩
    have hx : xs[i]? = some xs[i] := by simp [c]
    obtain ⟨g3, R3, e3, r3⟩ := wk.yld _ i g2 o2 H2 x H' xs[i] R2 l2 y hx
    rw [List.drop_eq_getElem_cons c] at q2
    obtain ⟨r, er, k⟩ := q2
    have l3 := l2.trans e3.F
    have S3 := S2.ext e3
    have k3 := k.shift e3
    unfold forL at er
    cases et : tg xs[i] sd2 with
    | none => simp only [et] at er; cases er
    | some sd3 =>
      simp only [et] at er
      refine og _ g3 o2 H' xs[i] x sd2 sd3 σ2 _ R3 r3 S3 et fun σ3 S4 _ => ?_
      cases eb : p sd3 o2 with
      | none => simp only [eb] at er; cases er
      | some rb =>
        simp only [eb] at er
        refine ⟨g3, sd3, o2, R3, S4, rb, eb, ?_⟩
        cases rb with
        | nx sd5 o5 => exact fun g5 σ5 H5 R5 S5 e5 => ⟨c, g5, sd5, o5, R5, S5, l3.trans e5.F, r, er, k3.shift e5⟩
        | ct sd5 o5 => exact fun g5 σ5 H5 R5 S5 e5 => ⟨c, g5, sd5, o5, R5, S5, l3.trans e5.F, r, er, k3.shift e5⟩
        | bk sd5 o5 => cases er; exact k3
        | rt s o5 => cases er; exact k3
        | ex cc fs sd5 o5 => cases er; exact k3
  · have e : i = xs.length := by omega
    subst e
    rw [List.drop_length] at q2
    exact .inl ⟨wk.stop _ _ g2 o2 H2 R2 l2 (Nat.le_refl _), sat_nx q2 rfl g2 σ2 H2 R2 S2 .rfl'⟩

/-! ## while -/
def whL (c : TM) (body : SM) : Nat → SM
  | 0 => sNo
  | n + 1 => SM.bind c fun b => match b with
    | false => sNil
    | true => fun sd own => match body sd own with
      | some (.nx sd2 own2) => whL c body n sd2 own2
      | some (.ct sd2 own2) => whL c body n sd2 own2
      | some (.bk sd2 own2) => some (.nx sd2 own2)
      | r => r
theorem rs_wh {X : Cx} {Y : Cy} {c : Expr} {body : List Stmt} {pos : Pos} {t : TM} {p : SM} (n : Nat) (hp : PassesOwn (model X.prog X.w) X.A X.env X.xe) (hc : PT X c (trT Y t)) (hb : PSs X body (trS Y p)) : PS X (.While c body [] pos) (trS Y (whL t p n)) := PS.imp (ps_while hp hc hb) fun Dn σ H q => by
  refine ⟨fun m σ H => trS Y (whL t p m) Dn σ H, ⟨n, q⟩, ?_⟩
  rintro m σ1 H1 ⟨gh, sd, own, R, S, q⟩
  cases m with
  | zero => obtain ⟨r, e, k⟩ := q; cases e
  | succ m =>
    refine s_bind R S q fun g1 o1 b b' H2 R1 S1 e1 rb q1 => ?_
    obtain rfl : b = b' := rb
    cases b with
    | false => rw [if_neg (by decide)]; exact sat_nx q1 rfl g1 σ1 H2 R1 S1 .rfl'
    | true =>
      rw [if_pos rfl]
      refine ⟨fun σ' H' => trS Y (whL t p m) Dn σ' H', fun σ' H' w => ⟨m, Nat.lt_succ_self m, w⟩, ?_⟩
      obtain ⟨r, er, k⟩ := q1
      have er : (match p sd o1 with | some (.nx sd2 own2) => whL t p m sd2 own2 | some (.ct sd2 own2) => whL t p m sd2 own2 | some (.bk sd2 own2) => some (.nx sd2 own2) | r => r) = some r := er
      cases eb : p sd o1 with
      | none => rw [eb] at er; cases er
      | some rb =>
        rw [eb] at er
        refine ⟨g1, sd, o1, R1, S1, rb, eb, ?_⟩
        cases rb with
        | nx sd5 o5 => exact fun g5 σ5 H5 R5 S5 e5 => ⟨g5, sd5, o5, R5, S5, r, er, k.shift e5⟩
        | ct sd5 o5 => exact fun g5 σ5 H5 R5 S5 e5 => ⟨g5, sd5, o5, R5, S5, r, er, k.shift e5⟩
        | bk sd5 o5 => cases er; exact k
        | rt s o5 => cases er; exact k
        | ex cc fs sd5 o5 => cases er; exact k
end Gx
end T_GxR7
section T_GxR8
set_option Elab.async false
set_option linter.all false
set_option maxRecDepth 100000
set_option maxHeartbeats 4000000
namespace Gx
open PySem PySem.Spec PyProof.Rows L2

/-! ## defs and calls -/
abbrev FM := List SV → Own → Option (Rz SV × Own)
def startD (N : Nat) (xs : List SV) : Sl := xs.map some ++ List.replicate (N - xs.length) none
def runDef (N : Nat) (body : SM) : FM := fun xs own => match body (startD N xs) own with
  | some (.rt s own') => some (.ok s, own')
  | some (.nx _ own') => some (.ok (.d .non), own')
  | some (.ex c fs _ own') => some (.ex c fs, own')
  | _ => none
/-- a def's promise -/
def spF (T : Tb) (n : Nat) (Ff : FM) : Sp := fun vs H Q E => ∃ (B : Hp) (g : Gh) (own : Own) (xs : List SV), HRel T B g own H ∧ RSs T g own.length xs vs ∧ xs.length = n ∧ ∃ r own', Ff xs own = some (r, own') ∧
  ROk ⟨T, B, fun _ => E⟩ (RS T) g own.length [] own' Q r
theorem srel_start {T : Tb} {g : Gh} {n : Nat} {N : List Str} {xs : List SV} {vs : List V} (r : RSs T g n xs vs) : SRel T g n (startD N.length xs) (L2.start N vs) := by
  have hl := r.length
  refine ⟨by unfold startD L2.start; simp [hl], fun i s e => ?_⟩
  unfold startD at e
  unfold L2.start
  by_cases c : i < xs.length
  · rw [List.getElem?_append_left (by simpa using c), List.getElem?_map] at e
    obtain ⟨s0, e1, e2⟩ := Option.map_eq_some_iff.mp e
    cases e2
    obtain ⟨v, e3, r3⟩ := r.get e1
    exact ⟨v, by rw [List.getElem?_append_left (by rw [List.length_map, ← hl]; exact c), List.getElem?_map, e3]; rfl, r3⟩
  · rw [List.getElem?_append_right (by simpa using c)] at e
    rw [List.getElem?_replicate] at e
    split at e
    · cases e
    · cases e
theorem def_ok {P : Program} {w : World} {K : PySem.W.Frag} {mg : Str → Option Value} {base : Heap} {x qual : Str} {st : Stmt} {f : Addr} {fd : FuncData} {N ps : List Str} {k n : Nat} {T : Tb} {body : SM}
    (F : Fun K x qual st f fd) (S : FnScope N ps (defScope st)) (hn : ps.length = n)
    (h : ∀ (cdv : Value) (A : Around) (outer : List Env) (s : Shared) (H : Hp) (E : XK) (B : Hp), Room k (A.deeper (envOfC qual (defScope st) s.heap.objs.size f cdv)) →
      PSs (cxOf (L2.CX P w) P w K mg base N qual (defScope st) f cdv A outer s H E) (defBody st) (trS ⟨T, B, fun _ => E⟩ body)) :
    FnOk P w K mg base (L2.CX P w) (k + 1) f fd ps (spF T n (runDef N.length body)) := by
  refine F.okX S (fun vs H Q E h => ?_) (fun cdv A outer s H vs Q E hr hs => ?_)
  · obtain ⟨B, g, own, xs, R, rs, hl, _⟩ := h
    rw [← rs.length, hl, hn]
  · obtain ⟨B, g, own, xs, R, rs, hl, r, own', e, q⟩ := hs
    refine ⟨_, h cdv A outer s H E B hr, g, startD N.length xs, own, R, srel_start rs, ?_⟩
    unfold runDef at e
    cases eb : body (startD N.length xs) own with
    | none => rw [eb] at e; cases e
    | some rb =>
      rw [eb] at e
      refine ⟨rb, eb, ?_⟩
      cases rb with
      | rt s o => cases e; exact q
      | nx sd o => cases e; exact fun g' σ' H' R' S' e' => q g' .non H' R' e' (Rep.non)
      | ex c fs sd o => cases e; exact fun g' σ' d H' R' S' e' x => q g' d H' R' e' x
      | bk sd o => cases e
      | ct sd o => cases e
/-- a def as it is called -/
structure Cal (P : Program) (w : World) (K : PySem.W.Frag) (mg : Str → Option Value) (base : Heap) (T : Tb) (k : Nat) (x : Str) (n : Nat) (Ff : FM) : Prop where
  ex : ∃ (f : Addr) (fd : FuncData) (ps : List Str), mg x = some (.ref f) ∧ PySem.W.keepIn K (.ref f) = true ∧ Binds K fd ps [] ∧ FnOk P w K mg base (L2.CX P w) k f fd ps (spF T n Ff)
theorem Cal.of {P : Program} {w : World} {K : PySem.W.Frag} {mg : Str → Option Value} {base : Heap} {T : Tb} {k n : Nat} {x : Str} {Ff : FM} {f : Addr} {fd : FuncData} {ps : List Str} (hm : mg x = some (.ref f)) (hk : PySem.W.keepIn K (.ref f) = true) (hb : Binds K fd ps [])
    (F : FnOk P w K mg base (L2.CX P w) k f fd ps (spF T n Ff)) : Cal P w K mg base T k x n Ff := ⟨f, fd, ps, hm, hk, hb, F⟩

/-! ### what a call does to the caller's objects -/
/-- a frozen object -/
def allD : List SV → Option (List D)
  | [] => some []
  | .d x :: r => (allD r).map (x :: ·)
  | .h _ :: _ => none
def frzO : O → Option D
  | .lst xs => some (.lst xs)
  | .dic ks xs => some (.dic ks xs)
  | .dih _ _ => none
  | .ins c vs => if (flds c).length = vs.length then (allD vs).map fun ds => .obj c ds else none
  | .dead => none
/-- the result of a callee without objects of ours, as data -/
def resD (own' : Own) : SV → Option D
  | .d z => some z
  | .h k => (own'[k]?).bind frzO
def callD (n : Nat) (Ff : FM) (xs : List SV) : EM := fun _ own => if xs.length ≠ n then none else match dats xs with
  | none => none
  | some _ => match Ff xs [] with
    | some (.ok s, own') => match resD own' s with
      | some z => some (.ok (.d z), own)
      | none => none
    | some (.ex c fs, _) => some (.ex c fs, own)
    | none => none
def eCallD (n : Nat) (Ff : FM) (a : AM) : EM := a.bind fun xs => callD n Ff xs
section
variable {T : Tb} {g : Gh} {n : Nat}
theorem allD_rel : ∀ {vs : List SV} {ws : List V} {ds : List D}, RSs T g n vs ws → allD vs = some ds → Reps T g.F ds ws
  | _, _, _, .nil, e => by cases e; exact .nil
  | _, _, ds, .cons (s := s) h r, e => by
    cases s with
    | d x =>
      have e : (allD _).map (x :: ·) = some ds := e
      obtain ⟨es, e1, e2⟩ := Option.map_eq_some_iff.mp e
      subst e2
      exact .cons h (allD_rel r e1)
    | h k => cases e
/-- an own object frozen is data -/
theorem frz_rel {B : Hp} {own : Own} {H : Hp} {k : Nat} {o : O} {d : D} (R : HRel T B g own H) (hk : own[k]? = some o) (e : frzO o = some d) : ∃ ho, H (g.ρ k) = some ho ∧ Rep T (L2.upd g.F (g.ρ k) ho) d (.ref (g.ρ k)) := by
  have at_ := R.o k o hk
  cases o with
  | dead => cases e
  | lst xs =>
    cases e
    obtain ⟨vs, h1, h2⟩ := at_
    have hF := (R.nb k _ hk rfl).2
    exact ⟨_, h1, .lst upd_same (h2.le (Le.upd hF))⟩
  | dic ks xs =>
    cases e
    obtain ⟨kvs, h1, h2, h3⟩ := at_
    have hF := (R.nb k _ hk rfl).2
    exact ⟨_, h1, .dic (.inl upd_same) h2 (h3.le (Le.upd hF))⟩
  | dih ks xs => cases e
  | ins c vs =>
    have e : (if (flds c).length = vs.length then (allD vs).map fun ds => D.obj c ds else none) = some d := e
    by_cases cc : (flds c).length = vs.length
    · rw [if_pos cc] at e
      obtain ⟨ds, e1, e2⟩ := Option.map_eq_some_iff.mp e
      subst e2
      obtain ⟨dx, ws, h1, h2, h3⟩ := at_
      have hF := (R.nb k _ hk rfl).2
      exact ⟨_, h1, .obj upd_same (by rw [cc]; exact h3.length) ((allD_rel h3 e1).le (Le.upd hF))⟩
    · rw [if_neg cc] at e; cases e
theorem frzO_live {o : O} {d : D} (e : frzO o = some d) : o.live = true := by
  cases o <;> first | rfl | cases e
end
/-- the caller's ghost behind a callee that changed nothing of ours: F' is what the callee knows frozen -/
theorem HRel.after {T : Tb} {B : Hp} {g : Gh} {own : Own} {H H' : Hp} {F' : Hp} (R : HRel T B g own H) (hH : Le H H') (hF : Le g.F F') (hF' : Le F' H') (fb : ∀ a o, F' a = some o → g.F a = some o ∨ H a = none) :
    HRel T B ⟨F', g.ρ⟩ own H' ∧ GExt B g own.length ⟨F', g.ρ⟩ own.length := by
  have ext : GExt B g own.length ⟨F', g.ρ⟩ own.length := ⟨Nat.le_refl _, hF, fun _ _ => rfl, fun a o e => by
    rcases fb a o e with h | h
    · exact .inl h
    · exact .inr (R.free h).1⟩
  refine ⟨⟨R.b.trans hH, hF', fun k o hk => ?_, fun k o hk hl => ⟨(R.nb k o hk hl).1, ?_⟩, R.inj⟩, ext⟩
  · refine ((R.o k o hk).ext ext).heap fun hl => ?_
    obtain ⟨ho, e⟩ := (R.o k o hk).there hl
    show H' (g.ρ k) = H (g.ρ k)
    rw [e]; exact hH _ _ e
  · show F' (g.ρ k) = none
    cases e : F' (g.ρ k) with
    | none => rfl
    | some o2 =>
      obtain ⟨ho, eh⟩ := (R.o k o hk).there hl
      rcases fb _ _ e with h | h
      · rw [(R.nb k o hk hl).2] at h; cases h
      · rw [eh] at h; cases h
/-- a callee started without objects of ours -/
theorem hrel_fresh {T : Tb} {F H : Hp} {ρ : Nat → Addr} (l : Le F H) : HRel T H ⟨F, ρ⟩ [] H :=
  ⟨Le.rfl', l, fun k o h => by simp at h, fun k o h => by simp at h, fun j k p q h => by simp at h⟩
theorem dats_rss {T : Tb} {g g' : Gh} {n n' : Nat} (hF : Le g.F g'.F) : ∀ (xs : List SV) (vs : List V) (ds : List D), dats xs = some ds → RSs T g n xs vs → RSs T g' n' xs vs := by
  intro xs
  induction xs with
  | nil => intro vs ds _ r; cases r; exact .nil
  | cons s r ih =>
    intro vs ds e rs
    cases rs with
    | cons h t =>
      cases s with
      | d x =>
        have e : (dats r).map (x :: ·) = some ds := e
        obtain ⟨es, e1, e2⟩ := Option.map_eq_some_iff.mp e
        exact .cons (Rep.le hF h) (ih _ es e1 t)
      | h k => cases e
theorem _root_.L2.Room.u65 {k : Nat} {A : Around} (r : Room k A) : A.units + 65 < cLine := by have := r.un; omega
theorem call_D {T : Tb} {B : Hp} {Ek : L2.St → XK} {Ff : FM} {n : Nat} {g1 : Gh} {sd : Sl} {own : Own} {σ : L2.St} {H : Hp} {Q : VK} {xs : List SV} {vs : List V} (R : HRel T B g1 own H) (rs : RSs T g1 own.length xs vs)
    (q : At ⟨T, B, Ek⟩ (RS T) g1 sd own σ Q (callD n Ff xs)) : spF T n Ff vs H Q (Ek σ) := by
  obtain ⟨r, own', e, k⟩ := q
  unfold callD at e
  by_cases hl : xs.length = n
  case neg => rw [if_pos hl] at e; cases e
  rw [if_neg (fun z => z hl)] at e
  cases ed : dats xs with
  | none => simp only [ed] at e; cases e
  | some ds =>
    simp only [ed] at e
    cases ef : Ff xs [] with
    | none => simp only [ef] at e; cases e
    | some p =>
      obtain ⟨rf, of⟩ := p
      simp only [ef] at e
      refine ⟨H, ⟨g1.F, g1.ρ⟩, [], xs, hrel_fresh R.f, dats_rss Le.rfl' xs vs ds ed rs, hl, rf, of, ef, ?_⟩
      cases rf with
      | ok s =>
        simp only at e
        cases er : resD of s with
        | none => simp only [er] at e; cases e
        | some z =>
          simp only [er] at e
          cases e
          intro g' v H' R' e' rv
          cases s with
          | d y =>
            cases er
            obtain ⟨R2, e2⟩ := R.after R'.b e'.F R'.f e'.fb
            exact k _ v H' R2 e2 rv
          | h kk =>
            obtain ⟨o, eo, ez⟩ := Option.bind_eq_some_iff.mp er
            obtain ⟨ho, eh, rz⟩ := frz_rel R' eo ez
            obtain ⟨R3, e3⟩ := R'.freeze eo (frzO_live ez) eh
            have e4 := e'.trans e3
            obtain ⟨R2, e2⟩ := R.after (F' := L2.upd g'.F (g'.ρ kk) ho) R'.b e4.F R3.f e4.fb
            have hv := rv.2
            subst hv
            exact k _ _ H' R2 e2 rz
      | ex c fs =>
        cases e
        intro g' d H' R' e' x
        obtain ⟨R2, e2⟩ := R.after R'.b e'.F R'.f e'.fb
        refine k _ d H' R2 e2 ?_
        rcases x with x | ⟨a, ws, h1, h2, h3⟩
        · exact .inl x
        · exact .inr ⟨a, ws, h1, h2, h3⟩
section
variable {X : Cx} {Y : Cy} {k j n : Nat} {x : Str} {Ff : FM} {p pos : Pos} {a : Expr} {es : List Expr} {al : AM}
/-- the caller's context: the tables, where exceptions go -/
structure CxOk (X : Cx) (Y : Cy) : Prop where
  K : X.K = Y.T.K
  pass : ∀ σ, PassesAt (L2.CX X.prog X.w) X σ (Y.Ek σ)
theorem r_call (c : Cal X.prog X.w X.K X.mg X.base Y.T k x n Ff) (hr : Room j X.A) (hk : k ≤ j) (cx : CxOk X Y) (ha : PA X (a :: es) (trA Y al)) (hg : Gl X x := by rfl) (hdb : (x == ("__debug__" : Str)) = false := by decide)
    (he : starEach (a :: es) X.env = (false, eval a X.env) :: starEach es X.env := by rfl) (hpl : (backTo pos (starEach es X.env)).any (·.1) = false := by rfl) : PE X (.Call (.Name x p) (a :: es) [] pos) (trE Y (eCallD n Ff al)) := by
  obtain ⟨f, fd, ps, hm, hkp, hb, F⟩ := c.ex
  refine PE.imp (pe_callSD (E := Y.Ek) F (hr.mono hk) hg hm hkp hb .nil cx.pass ha hdb he hpl) fun σ H Q q => ?_
  obtain ⟨gh, sd, own, R, S, q⟩ := q
  refine at_bind R S q fun g1 o1 xs vs H1 R1 S1 e1 rs q1 => ?_
  rw [List.append_nil]
  exact call_D R1 rs q1
end

/-! ### a callee that changes one object of ours -/
def flatO : O → Bool
  | .lst _ => true
  | .dic _ _ => true
  | .ins _ vs => (allD vs).isSome
  | .dih _ _ => false
  | .dead => false
theorem flat_rss {T : Tb} {g g2 : Gh} {n n2 : Nat} (l : Le g.F g2.F) : ∀ (vs : List SV) (ws : List V), (allD vs).isSome = true → RSs T g n vs ws → RSs T g2 n2 vs ws := by
  intro vs
  induction vs with
  | nil => intro ws _ r; cases r; exact .nil
  | cons s t ih =>
    intro ws e r
    cases r with
    | cons h r =>
      cases s with
      | h k => cases e
      | d x =>
        have e : ((allD t).map (x :: ·)).isSome = true := e
        rw [Option.isSome_map] at e
        exact .cons (Rep.le l h) (ih _ e r)
theorem flat_at {T : Tb} {g g2 : Gh} {n n2 : Nat} {H : Hp} {a : Addr} {o : O} (f : flatO o = true) (l : Le g.F g2.F) (h : OAt T g n H a o) : OAt T g2 n2 H a o := by
  cases o with
  | dead => trivial
  | lst xs => obtain ⟨vs, h1, h2⟩ := h; exact ⟨vs, h1, h2.le l⟩
  | dic ks xs => obtain ⟨kvs, h1, h2, h3⟩ := h; exact ⟨kvs, h1, h2, h3.le l⟩
  | ins c svs => obtain ⟨dx, ws, h1, h2, h3⟩ := h; exact ⟨dx, ws, h1, h2, flat_rss l svs ws f h3⟩
  | dih _ _ => cases f
theorem flat_live {o : O} (f : flatO o = true) : o.live = true := by
  cases o <;> first | rfl | cases f
/-- the heap without p -/
def wo (H : Hp) (p : Addr) : Hp := fun a => if a = p then none else H a
theorem wo_ne {H : Hp} {p a : Addr} (h : a ≠ p) : wo H p a = H a := if_neg h
theorem wo_same {H : Hp} {p : Addr} : wo H p p = none := if_pos rfl
theorem wo_le {H : Hp} {p : Addr} : Le (wo H p) H := fun a o e => by
  by_cases c : a = p
  · rw [c, wo_same] at e; cases e
  · rw [wo_ne c] at e; exact e
/-- a callee started with one object of ours -/
theorem hrel_one {T : Tb} {B : Hp} {g : Gh} {own : Own} {H : Hp} {k : Nat} {o : O} (R : HRel T B g own H) (hk : own[k]? = some o) (f : flatO o = true) : HRel T (wo H (g.ρ k)) ⟨g.F, fun _ => g.ρ k⟩ [o] H := by
  have nb := R.nb k o hk (flat_live f)
  refine ⟨wo_le, R.f, fun j q e => ?_, fun j q e hl => ⟨wo_same, nb.2⟩, fun i j p q e1 e2 _ _ _ => ?_⟩
  · match j, e with
    | 0, e => cases e; exact flat_at (g := g) f (fun _ _ h => h) (R.o k _ hk)
    | j + 1, e => simp at e
  · match i, j, e1, e2 with
    | 0, 0, _, _ => rfl
    | i + 1, _, e1, _ => simp at e1
    | 0, j + 1, _, e2 => simp at e2
/-- the caller behind such a callee -/
theorem HRel.afterZ {T : Tb} {B : Hp} {g g' : Gh} {own own' : Own} {H H' : Hp} {k : Nat} {o o' : O} (R : HRel T B g own H) (hk : own[k]? = some o) (hl : o.live = true) (R' : HRel T (wo H (g.ρ k)) g' own' H') (e' : GExt (wo H (g.ρ k)) ⟨g.F, fun _ => g.ρ k⟩ 1 g' own'.length)
    (ho : own'[0]? = some o') (f : flatO o' = true) : HRel T B ⟨g'.F, g.ρ⟩ (own.set k o') H' ∧ GExt B g own.length ⟨g'.F, g.ρ⟩ (own.set k o').length := by
  obtain ⟨hB, hF⟩ := R.nb k o hk hl
  have hlt : k < own.length := (List.getElem?_eq_some_iff.mp hk).1
  have ρ0 : g'.ρ 0 = g.ρ k := e'.ρ 0 (by decide)
  have keep : ∀ a u, a ≠ g.ρ k → H a = some u → H' a = some u := fun a u ne e => R'.b a u (by rw [wo_ne ne]; exact e)
  have fb : ∀ a u, g'.F a = some u → g.F a = some u ∨ (a = g.ρ k ∨ H a = none) := fun a u e => by
    rcases e'.fb a u e with h | h
    · exact .inl h
    · by_cases c : a = g.ρ k
      · exact .inr (.inl c)
      · rw [wo_ne c] at h; exact .inr (.inr h)
  have ext : GExt B g own.length ⟨g'.F, g.ρ⟩ (own.set k o').length := ⟨by simp, e'.F, fun _ _ => rfl, fun a u e => by
    rcases fb a u e with h | h | h
    · exact .inl h
    · exact .inr (by rw [h]; exact hB)
    · exact .inr (R.free h).1⟩
  have look : ∀ (j : Nat) (q : O), (own.set k o')[j]? = some q → (j ≠ k ∧ own[j]? = some q) ∨ (j = k ∧ q = o') := fun j q e => by
    by_cases hj : k = j
    · subst hj
      rw [List.getElem?_set_self hlt] at e
      exact .inr ⟨rfl, (Option.some.inj e).symm⟩
    · rw [List.getElem?_set_ne hj] at e
      exact .inl ⟨fun z => hj z.symm, e⟩
  refine ⟨⟨fun a u e => keep a u (fun z => by rw [z, hB] at e; cases e) (R.b a u e), R'.f, fun j q e => ?_, fun j q e hq => ?_, fun i j p q ei ej hp hq e => ?_⟩, ext⟩
  · rcases look j q e with ⟨hj, e1⟩ | ⟨rfl, rfl⟩
    · refine ((R.o j q e1).ext ext).heap fun hq => ?_
      obtain ⟨ho, eh⟩ := (R.o j q e1).there hq
      show H' (g.ρ j) = H (g.ρ j)
      rw [eh]
      exact keep _ _ (fun z => hj (R.inj j k q o e1 hk hq hl z)) eh
    · have := R'.o 0 q ho
      rw [ρ0] at this
      exact flat_at (g := g') f (fun _ _ h => h) this
  · rcases look j q e with ⟨hj, e1⟩ | ⟨rfl, rfl⟩
    · refine ⟨(R.nb j q e1 hq).1, ?_⟩
      show g'.F (g.ρ j) = none
      cases eF : g'.F (g.ρ j) with
      | none => rfl
      | some u =>
        obtain ⟨ho, eh⟩ := (R.o j q e1).there hq
        rcases fb _ _ eF with h | h | h
        · rw [(R.nb j q e1 hq).2] at h; cases h
        · exact absurd (R.inj j k q o e1 hk hq hl h) hj
        · rw [eh] at h; cases h
    · refine ⟨hB, ?_⟩
      have := (R'.nb 0 q ho (flat_live f)).2
      rw [ρ0] at this
      exact this
  · rcases look i p ei with ⟨hi, ei'⟩ | ⟨rfl, rfl⟩
    · rcases look j q ej with ⟨hj, ej'⟩ | ⟨rfl, rfl⟩
      · exact R.inj i j p q ei' ej' hp hq e
      · exact absurd (R.inj i j p o ei' hk hp hl e) hi
    · rcases look j q ej with ⟨hj, ej'⟩ | ⟨rfl, rfl⟩
      · exact absurd (R.inj j i q o ej' hk hq hl e.symm) hj
      · rfl
/-- the first argument is an object of ours, the rest is data -/
def callZ (n : Nat) (Ff : FM) (xs : List SV) : EM := fun _ own => match xs with
  | .h k :: rest => if rest.length + 1 ≠ n then none else match dats rest, own[k]? with
    | some _, some o => if flatO o = true then (match Ff (.h 0 :: rest) [o] with
      | some (.ok (.d z), own') => (match own'[0]? with
        | some o' => if flatO o' = true then some (.ok (.d z), own.set k o') else none
        | none => none)
      | some (.ok (.h (j + 1)), own') => (match own'[0]?, own'[j + 1]? with
        | some o', some oj => if flatO o' = true then (match frzO oj with
          | some z => some (.ok (.d z), own.set k o')
          | none => none) else none
        | _, _ => none)
      | some (.ex c fs, own') => (match own'[0]? with
        | some o' => if flatO o' = true then some (.ex c fs, own.set k o') else none
        | none => none)
      | _ => none) else none
    | _, _ => none
  | _ => none
theorem call_Z {T : Tb} {B : Hp} {Ek : L2.St → XK} {Ff : FM} {n : Nat} {g1 : Gh} {sd : Sl} {own : Own} {σ : L2.St} {H : Hp} {Q : VK} {xs : List SV} {vs : List V} (R : HRel T B g1 own H) (rs : RSs T g1 own.length xs vs)
    (q : At ⟨T, B, Ek⟩ (RS T) g1 sd own σ Q (callZ n Ff xs)) : spF T n Ff vs H Q (Ek σ) := by
  obtain ⟨r, own2, e, kq⟩ := q
  unfold callZ at e
  match xs, rs, e with
  | [], _, e => cases e
  | .d _ :: _, _, e => cases e
  | .h k :: rest, rs, e =>
    simp only at e
    by_cases hl : rest.length + 1 = n
    case neg => rw [if_pos hl] at e; cases e
    rw [if_neg (fun z => z hl)] at e
    cases ed : dats rest with
    | none => simp only [ed] at e; cases e
    | some ds =>
      cases eo : own[k]? with
      | none => simp only [ed, eo] at e; cases e
      | some o =>
        simp only [ed, eo] at e
        by_cases fo : flatO o = true
        case neg => rw [if_neg fo] at e; cases e
        rw [if_pos fo] at e
        cases rs with
        | @cons _ v _ vs' hv hr =>
          have hv := hv.2
          subst hv
          have live := flat_live fo
          cases ef : Ff (.h 0 :: rest) [o] with
          | none => simp only [ef] at e; cases e
          | some p =>
            obtain ⟨rf, of⟩ := p
            simp only [ef] at e
            refine ⟨wo H (g1.ρ k), ⟨g1.F, fun _ => g1.ρ k⟩, [o], .h 0 :: rest, hrel_one R eo fo, .cons ⟨by simp, rfl⟩ (dats_rss (g := g1) (g' := ⟨g1.F, fun _ => g1.ρ k⟩) (fun _ _ h => h) rest vs' ds ed hr), by rw [List.length_cons]; exact hl, rf, of, ef, ?_⟩
            cases rf with
            | ok s =>
              cases s with
              | d z =>
                simp only at e
                cases e0 : of[0]? with
                | none => simp only [e0] at e; cases e
                | some o' =>
                  simp only [e0] at e
                  by_cases f' : flatO o' = true
                  case neg => rw [if_neg f'] at e; cases e
                  rw [if_pos f'] at e
                  cases e
                  intro g' v H' R' e' rv
                  obtain ⟨R2, e2⟩ := R.afterZ eo live R' e' e0 f'
                  exact kq _ v H' R2 e2 rv
              | h j =>
                cases j with
                | zero => simp only at e; cases e
                | succ j =>
                  simp only at e
                  cases e0 : of[0]? with
                  | none => simp only [e0] at e; cases e
                  | some o' =>
                    cases ej : of[j + 1]? with
                    | none => simp only [e0, ej] at e; cases e
                    | some oj =>
                      simp only [e0, ej] at e
                      by_cases f' : flatO o' = true
                      case neg => rw [if_neg f'] at e; cases e
                      rw [if_pos f'] at e
                      cases ez : frzO oj with
                      | none => simp only [ez] at e; cases e
                      | some z =>
                        simp only [ez] at e
                        cases e
                        intro g' v H' R' e' rv
                        obtain ⟨ho, eh, rz⟩ := frz_rel R' ej ez
                        obtain ⟨R3, e3⟩ := R'.freeze ej (frzO_live ez) eh
                        obtain ⟨R2, e2⟩ := R.afterZ eo live R3 (e'.trans e3) (by rw [List.getElem?_set_ne (by simp)]; exact e0) f'
                        have hv := rv.2
                        subst hv
                        exact kq _ _ H' R2 e2 rz
            | ex c fs =>
              simp only at e
              cases e0 : of[0]? with
              | none => simp only [e0] at e; cases e
              | some o' =>
                simp only [e0] at e
                by_cases f' : flatO o' = true
                case neg => rw [if_neg f'] at e; cases e
                rw [if_pos f'] at e
                cases e
                intro g' d H' R' e' x
                obtain ⟨R2, e2⟩ := R.afterZ eo live R' e' e0 f'
                refine kq _ d H' R2 e2 ?_
                rcases x with x | ⟨a, ws, h1, h2, h3⟩
                · exact .inl x
                · exact .inr ⟨a, ws, h1, h2, h3⟩
def eCallZ (n : Nat) (Ff : FM) (a : AM) : EM := a.bind fun xs => callZ n Ff xs
/-! ### the result is a new object of ours -/
def callH (n : Nat) (Ff : FM) (xs : List SV) : EM := fun _ own => if xs.length ≠ n then none else match dats xs with
  | none => none
  | some _ => match Ff xs [] with
    | some (.ok (.h j), own') => (match own'[j]? with
      | some o => if flatO o = true then some (.ok (.h own.length), own ++ [o]) else none
      | none => none)
    | some (.ex c fs, _) => some (.ex c fs, own)
    | _ => none
def eCallH (n : Nat) (Ff : FM) (a : AM) : EM := a.bind fun xs => callH n Ff xs
/-- an object of the callee becomes one of ours -/
theorem HRel.take {T : Tb} {B : Hp} {g g' : Gh} {own own' : Own} {H H' : Hp} {j : Nat} {o : O} (R : HRel T B g own H) (R' : HRel T H g' own' H') (hF : Le g.F g'.F) (fb : ∀ a u, g'.F a = some u → g.F a = some u ∨ H a = none) (hj : own'[j]? = some o) (f : flatO o = true) :
    HRel T B ⟨g'.F, fun i => if i = own.length then g'.ρ j else g.ρ i⟩ (own ++ [o]) H' ∧ GExt B g own.length ⟨g'.F, fun i => if i = own.length then g'.ρ j else g.ρ i⟩ (own ++ [o]).length := by
  obtain ⟨hN, hF0⟩ := R'.nb j o hj (flat_live f)
  have ext : GExt B g own.length ⟨g'.F, fun i => if i = own.length then g'.ρ j else g.ρ i⟩ (own ++ [o]).length := ⟨by simp, hF, fun k hk => by show (if k = own.length then _ else g.ρ k) = g.ρ k; rw [if_neg (by omega)], fun a u e => by
    rcases fb a u e with h | h
    · exact .inl h
    · exact .inr (R.free h).1⟩
  have look : ∀ (k : Nat) (q : O), (own ++ [o])[k]? = some q → (k < own.length ∧ own[k]? = some q) ∨ (k = own.length ∧ q = o) := fun k q e => by
    by_cases hk : k < own.length
    · exact .inl ⟨hk, by rw [List.getElem?_append_left hk] at e; exact e⟩
    · have hk2 : k < (own ++ [o]).length := (List.getElem?_eq_some_iff.mp e).1
      have : k = own.length := by simp at hk2; omega
      subst this
      refine .inr ⟨rfl, ?_⟩
      simp at e
      exact e.symm
  have ne : ∀ (k : Nat) (q : O), own[k]? = some q → q.live = true → g.ρ k ≠ g'.ρ j := fun k q e hq z => by
    obtain ⟨ho, eh⟩ := (R.o k q e).there hq
    rw [z, hN] at eh; cases eh
  refine ⟨⟨R.b.trans R'.b, R'.f, fun k q e => ?_, fun k q e hl => ?_, fun i k p q ei ek hp hq e => ?_⟩, ext⟩
  · rcases look k q e with ⟨hk, e1⟩ | ⟨rfl, rfl⟩
    · show OAt T _ _ _ (if k = own.length then g'.ρ j else g.ρ k) q
      rw [if_neg (by omega)]
      refine ((R.o k q e1).ext ext).heap fun hq => ?_
      obtain ⟨ho, eh⟩ := (R.o k q e1).there hq
      rw [eh]; exact R'.b _ _ eh
    · show OAt T _ _ _ (if own.length = own.length then g'.ρ j else g.ρ _) q
      rw [if_pos rfl]
      exact flat_at (g := g') f (fun _ _ h => h) (R'.o j _ hj)
  · show B (if k = own.length then g'.ρ j else g.ρ k) = none ∧ g'.F (if k = own.length then g'.ρ j else g.ρ k) = none
    rcases look k q e with ⟨hk, e1⟩ | ⟨rfl, rfl⟩
    · rw [if_neg (by omega)]
      refine ⟨(R.nb k q e1 hl).1, ?_⟩
      cases eF : g'.F (g.ρ k) with
      | none => rfl
      | some u =>
        obtain ⟨ho, eh⟩ := (R.o k q e1).there hl
        rcases fb _ _ eF with h | h
        · rw [(R.nb k q e1 hl).2] at h; cases h
        · rw [eh] at h; cases h
    · rw [if_pos rfl]
      exact ⟨(R.free hN).1, hF0⟩
  · have e : (if i = own.length then g'.ρ j else g.ρ i) = (if k = own.length then g'.ρ j else g.ρ k) := e
    rcases look i p ei with ⟨hi, ei'⟩ | ⟨rfl, rfl⟩
    · rcases look k q ek with ⟨hk, ek'⟩ | ⟨rfl, rfl⟩
      · rw [if_neg (by omega), if_neg (by omega)] at e
        exact R.inj i k p q ei' ek' hp hq e
      · rw [if_neg (by omega), if_pos rfl] at e
        exact absurd e (ne i p ei' hp)
    · rcases look k q ek with ⟨hk, ek'⟩ | ⟨rfl, rfl⟩
      · rw [if_pos rfl, if_neg (by omega)] at e
        exact absurd e.symm (ne k q ek' hq)
      · rfl
theorem call_H {T : Tb} {B : Hp} {Ek : L2.St → XK} {Ff : FM} {n : Nat} {g1 : Gh} {sd : Sl} {own : Own} {σ : L2.St} {H : Hp} {Q : VK} {xs : List SV} {vs : List V} (R : HRel T B g1 own H) (rs : RSs T g1 own.length xs vs)
    (q : At ⟨T, B, Ek⟩ (RS T) g1 sd own σ Q (callH n Ff xs)) : spF T n Ff vs H Q (Ek σ) := by
  obtain ⟨r, own2, e, kq⟩ := q
  unfold callH at e
  by_cases hl : xs.length = n
  case neg => rw [if_pos hl] at e; cases e
  rw [if_neg (fun z => z hl)] at e
  cases ed : dats xs with
  | none => simp only [ed] at e; cases e
  | some ds =>
    simp only [ed] at e
    cases ef : Ff xs [] with
    | none => simp only [ef] at e; cases e
    | some p =>
      obtain ⟨rf, of⟩ := p
      simp only [ef] at e
      refine ⟨H, ⟨g1.F, g1.ρ⟩, [], xs, hrel_fresh R.f, dats_rss Le.rfl' xs vs ds ed rs, hl, rf, of, ef, ?_⟩
      cases rf with
      | ok s =>
        cases s with
        | d z => simp only at e; cases e
        | h j =>
          simp only at e
          cases ej : of[j]? with
          | none => simp only [ej] at e; cases e
          | some o =>
            simp only [ej] at e
            by_cases f' : flatO o = true
            case neg => rw [if_neg f'] at e; cases e
            rw [if_pos f'] at e
            cases e
            intro g' v H' R' e' rv
            obtain ⟨R2, e2⟩ := R.take R' e'.F e'.fb ej f'
            refine kq _ v H' R2 e2 ⟨by simp, ?_⟩
            show v = .ref (if own.length = own.length then g'.ρ j else g1.ρ _)
            rw [if_pos rfl]
            exact rv.2
      | ex c fs =>
        simp only at e
        cases e
        intro g' d H' R' e' x
        obtain ⟨R2, e2⟩ := R.after R'.b e'.F R'.f e'.fb
        refine kq _ d H' R2 e2 ?_
        rcases x with x | ⟨a, ws, h1, h2, h3⟩
        · exact .inl x
        · exact .inr ⟨a, ws, h1, h2, h3⟩
/-! ### the arguments are only looked at, the result is a number, a text .. -/
def scal1 : D → Bool
  | .non => true
  | .bl _ => true
  | .int _ => true
  | .str _ => true
  | _ => false
theorem scal_rep {T : Tb} {F F' : Hp} {d : D} {v : V} (s : scal1 d = true) (h : Rep T F d v) : Rep T F' d v := by
  cases h with
  | non => exact .non
  | bl b => exact .bl b
  | int i => exact .int i
  | str x => exact .str x
  | _ => cases s
def viewL (own : Own) : List SV → Option (List D)
  | [] => some []
  | s :: r => (datV own s).bind fun d => (viewL own r).map (d :: ·)
def callV (n : Nat) (Ff : FM) (xs : List SV) : EM := fun _ own => if xs.length ≠ n then none else match viewL own xs with
  | none => none
  | some ds => match Ff (ds.map SV.d) [] with
    | some (.ok (.d z), _) => if scal1 z = true then some (.ok (.d z), own) else none
    | _ => none
def eCallV (n : Nat) (Ff : FM) (a : AM) : EM := a.bind fun xs => callV n Ff xs
theorem view_rel {T : Tb} {B : Hp} {g : Gh} {own : Own} {H : Hp} (R : HRel T B g own H) {ρ : Nat → Addr} {n : Nat} : ∀ (xs : List SV) (vs : List V) (ds : List D), RSs T g own.length xs vs → viewL own xs = some ds → RSs T ⟨H, ρ⟩ n (ds.map SV.d) vs := by
  intro xs
  induction xs with
  | nil => intro vs ds r e; cases r; cases e; exact .nil
  | cons s t ih =>
    intro vs ds r e
    cases r with
    | cons h r =>
      obtain ⟨d, e1, e⟩ := Option.bind_eq_some_iff.mp e
      obtain ⟨es, e2, e3⟩ := Option.map_eq_some_iff.mp e
      subst e3
      refine .cons ?_ (ih _ es r e2)
      show Rep T H d _
      cases s with
      | d x =>
        have : x = d := Option.some.inj e1
        subst this
        exact Rep.le R.f h
      | h k =>
        have e1 : (match own[k]? with | some (.lst xs) => some (D.lst xs) | some (.dic ks xs) => some (D.dic ks xs) | _ => none) = some d := e1
        have hv := h.2
        subst hv
        cases eo : own[k]? with
        | none => rw [eo] at e1; cases e1
        | some o =>
          rw [eo] at e1
          cases o with
          | lst xs => cases e1; obtain ⟨vs, h1, h2⟩ := R.o k _ eo; exact .lst h1 (h2.le R.f)
          | dic ks xs => cases e1; obtain ⟨kvs, h1, h2, h3⟩ := R.o k _ eo; exact .dic (.inl h1) h2 (h3.le R.f)
          | _ => cases e1
theorem call_V {T : Tb} {B : Hp} {Ek : L2.St → XK} {Ff : FM} {n : Nat} {g1 : Gh} {sd : Sl} {own : Own} {σ : L2.St} {H : Hp} {Q : VK} {xs : List SV} {vs : List V} (R : HRel T B g1 own H) (rs : RSs T g1 own.length xs vs)
    (q : At ⟨T, B, Ek⟩ (RS T) g1 sd own σ Q (callV n Ff xs)) : spF T n Ff vs H Q (Ek σ) := by
  obtain ⟨r, own2, e, kq⟩ := q
  unfold callV at e
  by_cases hl : xs.length = n
  case neg => rw [if_pos hl] at e; cases e
  rw [if_neg (fun z => z hl)] at e
  cases ed : viewL own xs with
  | none => simp only [ed] at e; cases e
  | some ds =>
    simp only [ed] at e
    cases ef : Ff (ds.map SV.d) [] with
    | none => simp only [ef] at e; cases e
    | some p =>
      obtain ⟨rf, of⟩ := p
      simp only [ef] at e
      have rs2 := view_rel R (ρ := g1.ρ) (n := 0) xs vs ds rs ed
      refine ⟨H, ⟨H, g1.ρ⟩, [], ds.map SV.d, hrel_fresh Le.rfl', rs2, by rw [rs2.length, ← rs.length]; exact hl, rf, of, ef, ?_⟩
      cases rf with
      | ok s =>
        cases s with
        | h j => simp only at e; cases e
        | d z =>
          simp only at e
          by_cases sc : scal1 z = true
          case neg => rw [if_neg sc] at e; cases e
          rw [if_pos sc] at e
          cases e
          intro g' v H' R' e' rv
          obtain ⟨R2, e2⟩ := R.after (F' := g1.F) R'.b Le.rfl' (R.f.trans R'.b) fun a o h => .inl h
          exact kq _ v H' R2 e2 (scal_rep sc rv)
      | ex c fs => simp only at e; cases e
section
variable {X : Cx} {Y : Cy} {k j n : Nat} {x : Str} {Ff : FM} {p pos : Pos} {a : Expr} {es : List Expr} {al : AM}
theorem r_callZ (c : Cal X.prog X.w X.K X.mg X.base Y.T k x n Ff) (hr : Room j X.A) (hk : k ≤ j) (cx : CxOk X Y) (ha : PA X (a :: es) (trA Y al)) (hg : Gl X x := by rfl) (hdb : (x == ("__debug__" : Str)) = false := by decide)
    (he : starEach (a :: es) X.env = (false, eval a X.env) :: starEach es X.env := by rfl) (hpl : (backTo pos (starEach es X.env)).any (·.1) = false := by rfl) : PE X (.Call (.Name x p) (a :: es) [] pos) (trE Y (eCallZ n Ff al)) := by
  obtain ⟨f, fd, ps, hm, hkp, hb, F⟩ := c.ex
  refine PE.imp (pe_callSD (E := Y.Ek) F (hr.mono hk) hg hm hkp hb .nil cx.pass ha hdb he hpl) fun σ H Q q => ?_
  obtain ⟨gh, sd, own, R, S, q⟩ := q
  refine at_bind R S q fun g1 o1 xs vs H1 R1 S1 e1 rs q1 => ?_
  rw [List.append_nil]
  exact call_Z R1 rs q1
theorem r_callH (c : Cal X.prog X.w X.K X.mg X.base Y.T k x n Ff) (hr : Room j X.A) (hk : k ≤ j) (cx : CxOk X Y) (ha : PA X (a :: es) (trA Y al)) (hg : Gl X x := by rfl) (hdb : (x == ("__debug__" : Str)) = false := by decide)
    (he : starEach (a :: es) X.env = (false, eval a X.env) :: starEach es X.env := by rfl) (hpl : (backTo pos (starEach es X.env)).any (·.1) = false := by rfl) : PE X (.Call (.Name x p) (a :: es) [] pos) (trE Y (eCallH n Ff al)) := by
  obtain ⟨f, fd, ps, hm, hkp, hb, F⟩ := c.ex
  refine PE.imp (pe_callSD (E := Y.Ek) F (hr.mono hk) hg hm hkp hb .nil cx.pass ha hdb he hpl) fun σ H Q q => ?_
  obtain ⟨gh, sd, own, R, S, q⟩ := q
  refine at_bind R S q fun g1 o1 xs vs H1 R1 S1 e1 rs q1 => ?_
  rw [List.append_nil]
  exact call_H R1 rs q1
theorem r_callV (c : Cal X.prog X.w X.K X.mg X.base Y.T k x n Ff) (hr : Room j X.A) (hk : k ≤ j) (cx : CxOk X Y) (ha : PA X (a :: es) (trA Y al)) (hg : Gl X x := by rfl) (hdb : (x == ("__debug__" : Str)) = false := by decide)
    (he : starEach (a :: es) X.env = (false, eval a X.env) :: starEach es X.env := by rfl) (hpl : (backTo pos (starEach es X.env)).any (·.1) = false := by rfl) : PE X (.Call (.Name x p) (a :: es) [] pos) (trE Y (eCallV n Ff al)) := by
  obtain ⟨f, fd, ps, hm, hkp, hb, F⟩ := c.ex
  refine PE.imp (pe_callSD (E := Y.Ek) F (hr.mono hk) hg hm hkp hb .nil cx.pass ha hdb he hpl) fun σ H Q q => ?_
  obtain ⟨gh, sd, own, R, S, q⟩ := q
  refine at_bind R S q fun g1 o1 xs vs H1 R1 S1 e1 rs q1 => ?_
  rw [List.append_nil]
  exact call_V R1 rs q1
end
end Gx
end T_GxR8
section T_GxR9
set_option Elab.async false
set_option linter.all false
set_option maxRecDepth 100000
set_option maxHeartbeats 4000000
namespace Gx
open PySem PySem.Spec PyProof.Rows L2

/-! ## comprehensions -/
def wipeD (sd : Sl) : List Nat → Sl
  | [] => sd
  | v :: vs => (wipeD sd vs).set v none
theorem wipe_in {σ : L2.St} {i : Nat} : ∀ {vs : List Nat}, i ∈ vs → i < σ.length → (wipe σ vs)[i]? = some none
  | v :: vs, h, hl => by
    unfold wipe
    by_cases e : v = i
    · subst e
      rw [List.getElem?_set_self (by rw [wipe_length]; exact hl)]
    · rw [List.getElem?_set_ne e]
      rcases List.mem_cons.mp h with z | z
      · exact absurd z.symm e
      · exact wipe_in z hl
theorem wipe_eq {σ σ2 : L2.St} {vs is : List Nat} (u : Upd is (wipe σ vs) σ2) (hs : ∀ i ∈ is, i ∈ vs) : wipe σ2 vs = wipe σ vs := by
  have hl : σ2.length = σ.length := by rw [u.1, wipe_length]
  apply List.ext_getElem?
  intro i
  by_cases c : i < σ.length
  · by_cases m : i ∈ vs
    · rw [wipe_in m (by rw [hl]; exact c), wipe_in m c]
    · rw [wipe_out m, u.2 i (fun z => m (hs i z))]
  · rw [List.getElem?_eq_none (by rw [wipe_length, hl]; omega), List.getElem?_eq_none (by rw [wipe_length]; omega)]
theorem srel_wipe {T : Tb} {g : Gh} {n : Nat} {sd : Sl} {σ : L2.St} (S : SRel T g n sd σ) : ∀ vs : List Nat, SRel T g n (wipeD sd vs) (wipe σ vs)
  | [] => S
  | v :: vs => (srel_wipe S vs).unset
theorem HRel.less {T : Tb} {B B' : Hp} {g : Gh} {own : Own} {H : Hp} (l : Le B B') (R : HRel T B' g own H) : HRel T B g own H := by
  refine ⟨l.trans R.b, R.f, R.o, fun k o hk hl => ⟨?_, (R.nb k o hk hl).2⟩, R.inj⟩
  cases e : B (g.ρ k) with
  | none => rfl
  | some u =>
    have := l _ _ e
    rw [(R.nb k o hk hl).1] at this; cases this
theorem GExt.less {B B' : Hp} {g g' : Gh} {n n' : Nat} (l : Le B B') (e : GExt B' g n g' n') : GExt B g n g' n' :=
  ⟨e.le, e.F, e.ρ, fun a o h => by
    rcases e.fb a o h with h | h
    · exact .inl h
    · refine .inr ?_
      cases q : B a with
      | none => rfl
      | some u => rw [l _ _ q] at h; cases h⟩
theorem GExt.more {B B' : Hp} {g g' : Gh} {n n' : Nat} {p : Addr} (l : ∀ a, a ≠ p → B' a = B a) (hp : g'.F p = none) (e : GExt B g n g' n') : GExt B' g n g' n' :=
  ⟨e.le, e.F, e.ρ, fun a o h => by
    rcases e.fb a o h with h1 | h1
    · exact .inl h1
    · by_cases c : a = p
      · subst c; rw [hp] at h; cases h
      · exact .inr (by rw [l a c]; exact h1)⟩
/-- the object at p, that is to stay, is another one now -/
theorem HRel.reb {T : Tb} {B : Hp} {g : Gh} {own : Own} {H : Hp} {p : Addr} {u u' : HO} (R : HRel T (upd B p u) g own H) (hF : g.F p = none) : HRel T (upd B p u') g own (upd H p u') := by
  have ne : ∀ (k : Nat) (o : O), own[k]? = some o → o.live = true → g.ρ k ≠ p := fun k o hk hl z => by
    have := (R.nb k o hk hl).1
    rw [z, upd_same] at this; cases this
  refine ⟨fun a o e => ?_, fun a o e => ?_, fun k o hk => ?_, fun k o hk hl => ⟨?_, (R.nb k o hk hl).2⟩, R.inj⟩
  · by_cases c : a = p
    · subst c; rw [upd_same] at e; rw [upd_same]; exact e
    · rw [upd_ne c] at e; rw [upd_ne c]; exact R.b a o (by rw [upd_ne c]; exact e)
  · have c : a ≠ p := fun z => by rw [z, hF] at e; cases e
    rw [upd_ne c]; exact R.f a o e
  · exact (R.o k o hk).heap fun hl => upd_ne (ne k o hk hl)
  · rw [upd_ne (ne k o hk hl)]
    have := (R.nb k o hk hl).1
    rw [upd_ne (ne k o hk hl)] at this
    exact this
/-- an object that is to stay comes in -/
theorem HRel.guard {T : Tb} {B : Hp} {g : Gh} {own : Own} {H : Hp} {p : Addr} {u : HO} (R : HRel T B g own H) (h : H p = none) : HRel T (upd B p u) g own (upd H p u) := by
  have hB := R.free h
  refine ⟨fun a o e => ?_, fun a o e => ?_, fun k o hk => ?_, fun k o hk hl => ⟨?_, (R.nb k o hk hl).2⟩, R.inj⟩
  · by_cases c : a = p
    · subst c; rw [upd_same] at e; rw [upd_same]; exact e
    · rw [upd_ne c] at e; rw [upd_ne c]; exact R.b a o e
  · have c : a ≠ p := fun z => by rw [z, hB.2] at e; cases e
    rw [upd_ne c]; exact R.f a o e
  · exact (R.o k o hk).heap fun hl => upd_ne (R.neOwn h hk hl)
  · rw [upd_ne (R.neOwn h hk hl)]; exact (R.nb k o hk hl).1
/-- the guarded object becomes data -/
theorem HRel.unguard {T : Tb} {B : Hp} {g : Gh} {own : Own} {H : Hp} {p : Addr} {u : HO} (R : HRel T (upd B p u) g own H) (hF : g.F p = none) (hB : B p = none) :
    HRel T B ⟨upd g.F p u, g.ρ⟩ own H ∧ GExt B g own.length ⟨upd g.F p u, g.ρ⟩ own.length := by
  have ext : GExt B g own.length ⟨upd g.F p u, g.ρ⟩ own.length := ⟨Nat.le_refl _, Le.upd hF, fun _ _ => rfl, fun a o e => by
    by_cases c : a = p
    · subst c; exact .inr hB
    · exact .inl (by rw [← upd_ne (H := g.F) (o := u) c]; exact e)⟩
  have R1 := R.less (B := B) (Le.upd hB)
  refine ⟨⟨R1.b, fun a o e => ?_, fun k o hk => (R1.o k o hk).ext ext, fun k o hk hl => ⟨(R1.nb k o hk hl).1, ?_⟩, R1.inj⟩, ext⟩
  · by_cases c : a = p
    · subst c
      have e : upd g.F a u a = some o := e
      rw [upd_same] at e
      exact R.b a o (by rw [upd_same]; exact e)
    · have e : upd g.F p u a = some o := e
      rw [upd_ne c] at e
      exact R.f a o e
  · show upd g.F p u (g.ρ k) = none
    rw [upd_ne (fun z => by
      have := (R.nb k o hk hl).1
      rw [z, upd_same] at this; cases this)]
    exact (R1.nb k o hk hl).2

/-- the items -/
def lcL (tg : GM) (t : TM) (f : EM) (sd0 : Sl) : List D → Own → Option (List D × Own)
  | [], own => some ([], own)
  | x :: xs, own => match tg x sd0 with
    | none => none
    | some sd1 => match t sd1 own with
      | some (.ok true, o1) => (match f sd1 o1 with
        | some (.ok (.d d), o2) => (match lcL tg t f sd0 xs o2 with
          | some (ds, o3) => some (d :: ds, o3)
          | none => none)
        | _ => none)
      | some (.ok false, o1) => lcL tg t f sd0 xs o1
      | _ => none
def eLC (src : IM) (vs : List Nat) (tg : GM) (t : TM) (f : EM) : EM := src.bind fun xs => fun sd own => if xs.length < sizeLine then (match lcL tg t f (wipeD sd vs) xs own with
  | some (ds, o) => some (.ok (.d (.lst ds)), o)
  | none => none) else none
def tTrue : TM := M.ret true
/-- nothing is raised here -/
abbrev E00 : L2.St → XK := fun _ _ _ _ => False
section
variable {X : Cx} {Y : Cy} {tgx iter elt : Expr} {ifs : List Expr} {scope : Scope} {own : List (Str × Nat)} {pos : Pos} {src : IM} {tg : GM} {gg : TG} {is : List Nat} {t : TM} {f : EM}
theorem PTs.imp {X : Cx} {l : List Expr} {t t' : TT} (h : PTs X l t) (i : ∀ σ H Q, t' σ H Q → t σ H Q) : PTs X l t' := ⟨fun pins s σ H Q I q => h.run pins s σ H Q I (i σ H Q q)⟩
theorem rpt_nil : PTs X [] (trT Y tTrue) := PTs.imp pts_nil fun σ H Q q => by
  obtain ⟨gh, sd, own, R, S, q⟩ := q
  exact at_ret q gh true H R .rfl' rfl
theorem rpt_one {c : Expr} (h : PT X c (trT Y t)) : PTs X [c] (trT Y t) := pts_one h
/-- whatever is to stay -/
def anyB (T : Tb) (f : EM) : TE := fun σ H Q => ∃ B, trE ⟨T, B, E00⟩ f σ H Q
def anyT (T : Tb) (t : TM) : TT := fun σ H Q => ∃ B, trT ⟨T, B, E00⟩ t σ H Q
theorem pe_any {e : Expr} {T : Tb} (h : ∀ B, PE X e (trE ⟨T, B, E00⟩ f)) : PE X e (anyB T f) := ⟨fun pins s σ H Q I q => q.elim fun B q => (h B).run pins s σ H Q I q⟩
theorem pt_any {l : List Expr} {T : Tb} (h : ∀ B, PTs X l (trT ⟨T, B, E00⟩ t)) : PTs X l (anyT T t) := ⟨fun pins s σ H Q I q => q.elim fun B q => (h B).run pins s σ H Q I q⟩
theorem lc_at (og : OG Y.T gg tg is) (hv : ∀ i ∈ is, i ∈ own.map (·.2)) {σ : L2.St} {H : Hp} {Q : VK} (q : trE Y (eLC src (own.map (·.2)) tg t f) σ H Q) : tLc (trI Y src) gg (anyT Y.T t) (anyB Y.T f) (own.map (·.2)) σ H Q := by
  obtain ⟨gh, sd, own0, R, S, q⟩ := q
  refine at_bind R S q fun g1 o1 xs J H1 R1 S1 e1 wk q1 => ?_
  obtain ⟨r, own', e, k⟩ := q1
  by_cases hz : xs.length < sizeLine
  case neg => simp only [if_neg hz] at e; cases e
  simp only [if_pos hz] at e
  cases el : lcL tg t f (wipeD sd (own.map (·.2))) xs o1 with
  | none => simp only [el] at e; cases e
  | some p =>
    obtain ⟨ds, oF⟩ := p
    simp only [el] at e
    cases e
    intro Dn hD
    obtain ⟨hB, hF⟩ := R1.free hD
    refine ⟨fun i m H => m = xs.length - i ∧ i ≤ xs.length ∧ ∃ (acc : List D) (accV : List V) (rest : List D) (g2 : Gh) (o2 : Own), HRel Y.T (upd Y.B Dn (.lst accV)) g2 o2 H ∧ g2.F Dn = none ∧ Reps Y.T g2.F acc accV ∧
      GExt Y.B g1 o1.length g2 o2.length ∧ lcL tg t f (wipeD sd (own.map (·.2))) (xs.drop i) o2 = some (rest, own') ∧ acc ++ rest = ds ∧ acc.length ≤ i,
      ⟨xs.length, by omega, Nat.zero_le _, [], [], ds, g1, o1, R1.guard hD, hF, .nil, .rfl', by rw [List.drop_zero]; exact el, rfl, Nat.le_refl _⟩, ?_⟩
    rintro i m H2 ⟨rfl, hi, acc, accV, rest, g2, o2, R2, F2, r2, e2, l2, ea, hl⟩
    have R2' := R2.less (B := Y.B) (Le.upd hB)
    by_cases c : i < xs.length
    · refine .inr ⟨wk.go _ i g2 o2 H2 R2 e2.F c, fun H' => i + 1 ≤ xs.length ∧ ∃ (acc : List D) (accV : List V) (rest : List D) (g2 : Gh) (o2 : Own), HRel Y.T (upd Y.B Dn (.lst accV)) g2 o2 H' ∧ g2.F Dn = none ∧ Reps Y.T g2.F acc accV ∧
        GExt Y.B g1 o1.length g2 o2.length ∧ lcL tg t f (wipeD sd (own.map (·.2))) (xs.drop (i + 1)) o2 = some (rest, own') ∧ acc ++ rest = ds ∧ acc.length ≤ i + 1,
        fun H' w => ⟨xs.length - (i + 1), by omega, rfl, w⟩, fun x H' y => ?_⟩
      have hx : xs[i]? = some xs[i] := by simp [c]
      obtain ⟨g3, R3, e3, r3⟩ := wk.yld _ i g2 o2 H2 x H' xs[i] R2 e2.F y hx
      have F3 : g3.F Dn = none := by
        cases q : g3.F Dn with
        | none => rfl
        | some u =>
          rcases e3.fb _ _ q with h | h
          · rw [F2] at h; cases h
          · rw [upd_same] at h; cases h
      rw [List.drop_eq_getElem_cons c] at l2
      unfold lcL at l2
      have S3 : SRel Y.T g3 o2.length sd σ := (S1.ext e2).ext e3
      cases et : tg xs[i] (wipeD sd (own.map (·.2))) with
      | none => simp only [et] at l2; cases l2
      | some sd3 =>
        simp only [et] at l2
        refine og _ g3 o2 H' xs[i] x _ sd3 _ _ R3 r3 (srel_wipe S3 _) et fun σ3 S4 u => ⟨wipe_eq u hv, ?_⟩
        cases ec : t sd3 o2 with
        | none => simp only [ec] at l2; cases l2
        | some pc =>
          obtain ⟨rc, o3⟩ := pc
          cases rc with
          | ex cc fs => simp only [ec] at l2; cases l2
          | ok bb =>
            simp only [ec] at l2
            refine ⟨upd Y.B Dn (.lst accV), g3, sd3, o2, R3, S4, .ok bb, o3, ec, fun g4 b' H4 R4 e4 eb => ?_⟩
            obtain rfl : bb = b' := eb
            have F4 : g4.F Dn = none := by
              cases q : g4.F Dn with
              | none => rfl
              | some u =>
                rcases e4.fb _ _ q with h | h
                · rw [F3] at h; cases h
                · exact absurd ((upd_same (H := Y.B) (a := Dn) (o := .lst accV)).symm.trans h) (by simp)
            have e34 := (e3.trans e4).less (B := Y.B) (Le.upd hB)
            cases bb with
            | false =>
              rw [if_neg (by decide)]
              simp only at l2
              exact ⟨c, acc, accV, rest, g4, o3, R4, F4, r2.le (e3.F.trans e4.F), e2.trans e34, l2, ea, Nat.le_succ_of_le hl⟩
            | true =>
              rw [if_pos rfl]
              simp only at l2
              cases ef : f sd3 o3 with
              | none => simp only [ef] at l2; cases l2
              | some pf =>
                obtain ⟨rf, o4⟩ := pf
                cases rf with
                | ex cc fs => simp only [ef] at l2; cases l2
                | ok s =>
                  cases s with
                  | h kk => simp only [ef] at l2; cases l2
                  | d d =>
                    simp only [ef] at l2
                    cases er : lcL tg t f (wipeD sd (own.map (·.2))) (xs.drop (i + 1)) o4 with
                    | none => simp only [er] at l2; cases l2
                    | some pr =>
                      obtain ⟨rs, o5⟩ := pr
                      simp only [er] at l2
                      cases l2
                      refine ⟨upd Y.B Dn (.lst accV), g4, sd3, o3, R4, S4.ext e4, .ok (.d d), o4, ef, fun g5 v H5 R5 e5 rv => ?_⟩
                      have F5 : g5.F Dn = none := by
                        cases q : g5.F Dn with
                        | none => rfl
                        | some u =>
                          rcases e5.fb _ _ q with h | h
                          · rw [F4] at h; cases h
                          · exact absurd ((upd_same (H := Y.B) (a := Dn) (o := .lst accV)).symm.trans h) (by simp)
                      have e345 := ((e3.trans e4).trans e5).less (B := Y.B) (Le.upd hB)
                      have r5 := r2.le ((e3.F.trans e4.F).trans e5.F)
                      refine ⟨accV, R5.b _ _ upd_same, by rw [← r2.length]; omega, c, acc ++ [d], accV ++ [v], rs, g5, o4, R5.reb F5, F5, r5.snoc rv, e2.trans e345, er, by rw [← ea]; simp, by simp; exact hl⟩
    · have e : i = xs.length := by omega
      subst e
      rw [List.drop_length] at l2
      cases l2
      rw [List.append_nil] at ea
      subst ea
      obtain ⟨R3, e3⟩ := R2.unguard F2 hB
      exact .inl ⟨wk.stop _ _ g2 _ H2 R2 e2.F (Nat.le_refl _), k _ _ H2 R3 (e2.trans e3) (Rep.lst upd_same (r2.le e3.F))⟩
theorem r_lc (hN : X.N.Nodup) (hi : PI X tgx iter (trI Y src)) (ok : BlkOk X.N X.env.scope scope own)
    (hg : ∀ (s : Shared) (H : Hp) (C : Addr) (cl : List (Str × Addr)) (fp : List Addr), PG (X.blk s H scope (compEnvC scope cl C X.env) fp) tgx gg) (og : OG Y.T gg tg is) (hv : ∀ i ∈ is, i ∈ own.map (·.2))
    (ht : ∀ (B : Hp) (s : Shared) (H : Hp) (C : Addr) (cl : List (Str × Addr)) (fp : List Addr), PTs (X.blk s H scope (compEnvC scope cl C X.env) fp) ifs (trT ⟨Y.T, B, E00⟩ t))
    (he : ∀ (B : Hp) (s : Shared) (H : Hp) (C : Addr) (cl : List (Str × Addr)) (fp : List Addr), PE (X.blk s H scope (compEnvC scope cl C X.env) fp) elt (trE ⟨Y.T, B, E00⟩ f)) (hc : X.calm = true := by rfl) (hs : ∀ x, foldedSetIterable iter X.env x = pure x := by intro _; rfl) :
    PE X (.ListComp elt [⟨tgx, iter, ifs, 0⟩] scope pos) (trE Y (eLC src (own.map (·.2)) tg t f)) :=
  PE.imp (pe_lc hc hN hi ok hg (fun s H C cl fp => pt_any fun B => ht B s H C cl fp) (fun s H C cl fp => pe_any fun B => he B s H C cl fp) hs) fun _ _ _ q => lc_at og hv q
theorem rs_setLc {i : Nat} {y : Str} {py spos : Pos} (hN : X.N.Nodup) (hi : PI X tgx iter (trI Y src)) (ok : BlkOk X.N X.env.scope scope own)
    (hg : ∀ (s : Shared) (H : Hp) (C : Addr) (cl : List (Str × Addr)) (fp : List Addr), PG (X.blk s H scope (compEnvC scope cl C X.env) fp) tgx gg) (og : OG Y.T gg tg is) (hv : ∀ i ∈ is, i ∈ own.map (·.2))
    (ht : ∀ (B : Hp) (s : Shared) (H : Hp) (C : Addr) (cl : List (Str × Addr)) (fp : List Addr), PTs (X.blk s H scope (compEnvC scope cl C X.env) fp) ifs (trT ⟨Y.T, B, E00⟩ t))
    (he : ∀ (B : Hp) (s : Shared) (H : Hp) (C : Addr) (cl : List (Str × Addr)) (fp : List Addr), PE (X.blk s H scope (compEnvC scope cl C X.env) fp) elt (trE ⟨Y.T, B, E00⟩ f)) (hy : X.N[i]? = some y := by rfl) (hyl : X.env.scope.names.lookup y = some .local := by rfl)
    (hsw : swapsWith (.ListComp elt [⟨tgx, iter, ifs, 0⟩] scope pos) (some (.Name y py)) spos.line X.env = pure true := by exact sw_true rfl rfl rfl (by decide +kernel)) (hc : X.calm = true := by rfl) (hs : ∀ x, foldedSetIterable iter X.env x = pure x := by intro _; rfl) :
    PS X (.Assign [.Name y py] (.ListComp elt [⟨tgx, iter, ifs, 0⟩] scope pos) spos) (trS Y (sSet i (eLC src (own.map (·.2)) tg t f))) :=
  PS.imp (ps_setLc hc hN hy hyl hsw hi ok hg (fun s H C cl fp => pt_any fun B => ht B s H C cl fp) (fun s H C cl fp => pe_any fun B => he B s H C cl fp) hs) fun D σ H q => by
    refine lc_at og hv ?_
    obtain ⟨gh, sd, own0, R, S, q⟩ := q
    refine s_bind R S q fun g1 o1 x v H1 R1 S1 e1 rx q1 => ?_
    exact sat_nx q1 rfl g1 _ H1 R1 (S1.set rx) .rfl'
end
end Gx
end T_GxR9
section T_GxR10
set_option Elab.async false
set_option linter.all false
set_option maxRecDepth 100000
set_option maxHeartbeats 4000000
namespace Gx
open PySem PySem.Spec PyProof.Rows L2

/-! ## fields -/
theorem zip_look : ∀ {ns : List Str} {ws : List V} {i : Nat} {n : Str} {v : V}, ns.Nodup → ns[i]? = some n → ws[i]? = some v → (ns.zip ws).lookup n = some v
  | [], _, _, _, _, _, h, _ => by simp at h
  | m :: ns, [], _, _, _, _, _, h => by simp at h
  | m :: ns, w :: ws, 0, n, v, _, h1, h2 => by
    simp at h1 h2
    subst h1 h2
    simp [List.lookup]
  | m :: ns, w :: ws, i + 1, n, v, nd, h1, h2 => by
    rw [List.nodup_cons] at nd
    have h1 : ns[i]? = some n := by simpa using h1
    have h2 : ws[i]? = some v := by simpa using h2
    have ne : n ≠ m := fun z => nd.1 (by rw [← z]; exact List.mem_of_getElem? h1)
    have ih := zip_look nd.2 h1 h2
    rw [List.zip_cons_cons, List.lookup_cons, beq_false_of_ne ne]
    exact ih
theorem zip_put : ∀ {ns : List Str} {ws : List V} {i : Nat} {n : Str} {v : V}, ns.Nodup → ns[i]? = some n → i ≤ ws.length → putF n v (ns.zip ws) = ns.zip (if i < ws.length then ws.set i v else ws ++ [v])
  | [], _, _, _, _, _, h, _ => by simp at h
  | m :: ns, [], 0, n, v, _, h, _ => by
    simp at h; subst h
    simp [putF]
  | m :: ns, [], i + 1, _, _, _, _, h => by simp at h
  | m :: ns, w :: ws, 0, n, v, _, h1, h2 => by
    simp at h1
    subst h1
    simp [putF]
  | m :: ns, w :: ws, i + 1, n, v, nd, h1, h2 => by
    rw [List.nodup_cons] at nd
    have h1 : ns[i]? = some n := by simpa using h1
    have ne : ¬ (m = n) := fun z => nd.1 (by rw [z]; exact List.mem_of_getElem? h1)
    have ih := zip_put (ws := ws) (v := v) nd.2 h1 (by simpa using h2)
    rw [List.zip_cons_cons]
    unfold putF
    rw [if_neg ne, ih]
    by_cases c : i < ws.length
    · rw [if_pos c, if_pos (by simp; exact c)]; rfl
    · rw [if_neg c, if_neg (by simp; omega)]; rfl
theorem flds_nd : ∀ c : Nat, (flds c).Nodup := by
  intro c
  unfold flds
  split <;> decide +kernel
/-- o.f, the i-th field of the class c -/
def eFld (c i : Nat) (f : EM) : EM := f.bind fun x => M.ask fun own => match x with
  | .d (.obj c' vs) => if c' = c then (vs[i]?).map SV.d else none
  | .h k => match own[k]? with
    | some (.ins c' vs) => if c' = c then vs[i]? else none
    | _ => none
  | _ => none
/-- o.f = e -/
def putFld (c i : Nat) (own : Own) (o x : SV) : Option Own := match o with
  | .h k => match own[k]? with
    | some (.ins c' vs) => if c' = c ∧ i ≤ vs.length then some (own.set k (.ins c (if i < vs.length then vs.set i x else vs ++ [x]))) else none
    | _ => none
  | _ => none
def sFldS (c i : Nat) (o e : EM) : SM := SM.bind e fun x => SM.bind o fun a => fun sd own => (putFld c i own a x).map fun own' => .nx sd own'
section
variable {X : Cx} {Y : Cy} {pos pos' : Pos} {a b : Expr} {f g : EM} {name : Str} {c i : Nat}
theorem r_fld (c i : Nat) (cl : Cls X.K (Y.T.ct c)) (na : NoAttr X.K (Y.T.ct c) name) (h : PE X a (trE Y f)) (hf : (flds c)[i]? = some name := by rfl) (hb : attributeBase a name X.env (eval a X.env) = eval a X.env := by rfl) : PE X (.Attribute a name pos) (trE Y (eFld c i f)) := by
  refine PE.imp (pe_fld h hb) fun σ H Q q => ?_
  obtain ⟨gh, sd, own, R, S, q⟩ := q
  refine at_bind R S q fun g1 o1 x v H1 R1 S1 e1 rx q1 => ?_
  obtain ⟨s, es, k⟩ := at_ask q1
  cases x with
  | d d =>
    cases d with
    | obj c' vs =>
      have es2 : (if c' = c then (vs[i]?).map SV.d else none) = some s := es
      clear es
      by_cases cc : c' = c
      · rw [if_pos cc] at es2
        subst cc
        obtain ⟨d, e2, e3⟩ := Option.map_eq_some_iff.mp es2
        subst e3
        have rx : Rep Y.T g1.F (.obj c' vs) v := rx
        cases rx with
        | @obj p dx _ ws _ h1 h2 h3 =>
          obtain ⟨v, e4, r4⟩ := h3.get e2
          exact ⟨p, _, dx, _, v, rfl, R1.f _ _ h1, cl, na, zip_look (flds_nd _) hf e4, k g1 v H1 R1 .rfl' r4⟩
      · rw [if_neg cc] at es2; cases es2
    | _ => cases es
  | h kk =>
    have es : (match o1[kk]? with | some (.ins c' vs) => if c' = c then vs[i]? else none | _ => none) = some s := es
    cases eo : o1[kk]? with
    | none => rw [eo] at es; cases es
    | some o =>
      rw [eo] at es
      cases o with
      | ins c' vs =>
        have es2 : (if c' = c then vs[i]? else none) = some s := es
        clear es
        by_cases cc : c' = c
        · rw [if_pos cc] at es2
          subst cc
          obtain ⟨dx, ws, h1, h2, h3⟩ := R1.o kk _ eo
          obtain ⟨v2, e4, r4⟩ := h3.get es2
          have hv := rx.2
          subst hv
          exact ⟨_, _, dx, _, v2, rfl, h1, cl, na, zip_look (flds_nd _) hf e4, k g1 v2 H1 R1 .rfl' r4⟩
        · rw [if_neg cc] at es2; cases es2
      | _ => cases es
theorem flds_few (c : Nat) : (flds c).length ≤ 4 := by
  unfold flds
  split <;> decide
theorem rs_fld (c i : Nat) (cl : Cls X.K (Y.T.ct c)) (na : NoAttr X.K (Y.T.ct c) name) (ho : PE X a (trE Y f)) (hv : PE X b (trE Y g)) (hf : (flds c)[i]? = some name := by rfl) (hs : swapsWith b (some (.Attribute a name pos')) pos.line X.env = pure false := by rfl) :
    PS X (.Assign [.Attribute a name pos'] b pos) (trS Y (sFldS c i f g)) := by
  refine PS.imp (ps_fld ho hv hs) fun D σ H q => ?_
  obtain ⟨gh, sd, own, R, S, q⟩ := q
  refine s_bind R S q fun g1 o1 x v H1 R1 S1 e1 rx q1 => ?_
  refine s_bind R1 S1 q1 fun g2 o2 y w H2 R2 S2 e2 ry q2 => ?_
  obtain ⟨r, e, k⟩ := q2
  obtain ⟨own', e3, e4⟩ := Option.map_eq_some_iff.mp e
  subst e4
  cases y with
  | d d => cases e3
  | h kk =>
    have e3 : (match o2[kk]? with | some (.ins c' vs) => if c' = c ∧ i ≤ vs.length then some (o2.set kk (.ins c (if i < vs.length then vs.set i x else vs ++ [x]))) else none | _ => none) = some own' := e3
    cases eo : o2[kk]? with
    | none => rw [eo] at e3; cases e3
    | some o =>
      rw [eo] at e3
      cases o with
      | ins c' vs =>
        have e3 : (if c' = c ∧ i ≤ vs.length then some (o2.set kk (.ins c (if i < vs.length then vs.set i x else vs ++ [x]))) else none) = some own' := e3
        by_cases cc : c' = c ∧ i ≤ vs.length
        · rw [if_pos cc] at e3
          cases e3
          obtain ⟨rfl, hi⟩ := cc
          obtain ⟨dx, ws, h1, h2, h3⟩ := R2.o kk _ eo
          have hw := ry.2
          subst hw
          have hl := h3.length
          have rx2 := rx.ext e2
          refine ⟨_, _, dx, _, rfl, h1, cl, na, ?_, ?_⟩
          · have := flds_few c'
            rw [List.length_zip]
            omega
          · rw [zip_put (flds_nd _) hf (by rw [← hl]; exact hi)]
            have fi : i < (flds c').length := (List.getElem?_eq_some_iff.mp hf).1
            have R3 := R2.put (ho := .ins (Y.T.ct c') dx ((flds c').zip (if i < ws.length then ws.set i v else ws ++ [v]))) (o' := .ins c' (if i < vs.length then vs.set i x else vs ++ [x])) eo rfl (by
              refine ⟨dx, _, upd_same, ?_, ?_⟩
              · by_cases c3 : i < ws.length
                · rw [if_pos c3, List.length_set]; exact h2
                · rw [if_neg c3, List.length_append]; simp; omega
              · rw [← hl]
                by_cases c3 : i < vs.length
                · rw [if_pos c3, if_pos c3]; exact h3.set i rx2
                · rw [if_neg c3, if_neg c3]; exact h3.snoc rx2)
            exact k g2 σ _ R3 (by rw [List.length_set]; exact S2) (by rw [List.length_set]; exact .rfl')
        · rw [if_neg cc] at e3; cases e3
      | _ => cases e3
end
/-! ## a new instance -/
structure Ma (P : Program) (w : World) (K : PySem.W.Frag) (mg : Str → Option Value) (base : Heap) (T : Tb) (k : Nat) (x : Str) (c n : Nat) (Ff : FM) : Prop where
  ex : ∃ (f : Addr) (fd : FuncData) (ps : List Str), mg x = some (.ref (T.ct c)) ∧ Mk K (T.ct c) f ∧ Binds K fd ps [] ∧ FnOk P w K mg base (L2.CX P w) k f fd ps (spF T (n + 1) Ff)
/-- the instance is data behind its __init__ -/
def makeD (c n : Nat) (Ff : FM) (xs : List SV) : EM := fun _ own => if xs.length ≠ n then none else match dats xs with
  | none => none
  | some _ => match Ff (.h 0 :: xs) [.ins c []] with
    | some (.ok (.d .non), own') => (match (own'[0]?).bind frzO with
      | some z => some (.ok (.d z), own)
      | none => none)
    | some (.ex k fs, _) => some (.ex k fs, own)
    | _ => none
def eMakeD (c n : Nat) (Ff : FM) (a : AM) : EM := a.bind fun xs => makeD c n Ff xs
/-- .. is one of ours -/
def makeH (c n : Nat) (Ff : FM) (xs : List SV) : EM := fun _ own => if xs.length ≠ n then none else match dats xs with
  | none => none
  | some _ => match Ff (.h 0 :: xs) [.ins c []] with
    | some (.ok (.d .non), own') => (match own'[0]? with
      | some o => if flatO o = true then some (.ok (.h own.length), own ++ [o]) else none
      | none => none)
    | some (.ex k fs, _) => some (.ex k fs, own)
    | _ => none
def eMakeH (c n : Nat) (Ff : FM) (a : AM) : EM := a.bind fun xs => makeH c n Ff xs
section
variable {X : Cx} {CX : CXT} {k : Nat} {C f : Addr} {fd : FuncData} {ps : List Str} {sp : Sp} {E : L2.St → XK} {x : Str} {p pos : Pos} {e : Expr} {es : List Expr} {t : TA}
/-- C(e, ..): what is raised is wished for at the caller's slots -/
def tMakeS (C : Addr) (sp : Sp) (E : L2.St → XK) (t : TA) : TE := fun σ H Q => t σ H fun vs H1 => ∀ x dx, H1 x = none → H1 dx = none → dx ≠ x →
  sp (.ref x :: vs) (upd (upd H1 dx (.own x)) x (.ins C dx [])) (fun v H2 => v = .non ∧ Q (.ref x) H2) (E σ)
theorem pe_makeS (M1 : Mk X.K C f) (F : FnOk X.prog X.w X.K X.mg X.base CX k f fd ps sp) (hr : Room (k + 1) X.A) (hg : Gl X x) (hm : X.mg x = some (.ref C)) (hb : Binds X.K fd ps []) (hx : ∀ σ, PassesAt CX X σ (E σ))
    (ha : PA X (e :: es) t) (hdb : (x == ("__debug__" : Str)) = false := by decide) (he : starEach (e :: es) X.env = (false, eval e X.env) :: starEach es X.env := by rfl) (hpl : (backTo pos (starEach es X.env)).any (·.1) = false := by rfl) :
    PE X (.Call (.Name x p) (e :: es) [] pos) (tMakeS C sp E t) := by
  constructor
  intro pins s σ H Q I h
  apply wpAny_Call_Name_kw
  apply ld_glob I hg hm _ hdb
  apply PySem.W.callWith_K (h₀ := X.base) I.ok.mod.kin M1.kp _ he hpl
  apply thn (ha.run pos pins s σ H _ I h)
  rintro us s1 ⟨vs, H1, I1, rv, wish⟩
  refine And.intro I1.kIn ?_
  -- the new instance, its dict ahead of it
  have w1 := wish (s1.heap.objs.size + 1) s1.heap.objs.size (I1.hok.fresh (Nat.le_succ _)) (I1.hok.fresh (Nat.le_refl _)) (Nat.ne_of_lt (Nat.lt_succ_self _))
  have J := Inv.made (C := C) I1
  have rvs : Vals (V.ref (s1.heap.objs.size + 1) :: vs) (Value.ref (s1.heap.objs.size + 1) :: us) := Paired.cons rfl rv
  have hl : (Value.ref (s1.heap.objs.size + 1) :: us).length = ps.length := (rvs.length.symm).trans (F.len _ _ _ _ w1)
  have bound := hb _ (Value.ref (s1.heap.objs.size + 1) :: us) J.kIn (by rw [List.append_nil]; exact hl)
  rw [List.append_nil] at bound
  have ran := F.run _ X.stack _ _ ⟨Value.ref (s1.heap.objs.size + 1) :: us, []⟩ (Value.ref (s1.heap.objs.size + 1) :: us) _ _ (E σ) (hr.make C us []) (J.env0.make C us []) bound rvs w1
  apply wpAny_call
  apply make_map (f := f) I1.kIn M1.makes M1.init (beq_iff_eq.mp M1.fn)
  apply codeAny_mono ran
  intro r s2 hr2
  match r, hr2 with
  | .error u, hr2 => exact hx σ pins _ _ u s2 J hr2
  | .ok (.ret u), hr2 =>
    obtain ⟨v, H3, I3, ru, ev, q3⟩ := J.after hr2
    subst ev
    exact And.intro ru ⟨V.ref (s1.heap.objs.size + 1), H3, I3, rfl, q3⟩
  | .ok .next, hr2 => exact (show False from hr2).elim
  | .ok .brk, hr2 => exact (show False from hr2).elim
  | .ok .cont, hr2 => exact (show False from hr2).elim
end
/-- a callee started with a new instance -/
theorem hrel_ins {T : Tb} {F H1 : Hp} {x dx : Addr} {c : Nat} (l : Le F H1) (hx : H1 x = none) (hd : H1 dx = none) :
    HRel T (wo (upd (upd H1 dx (.own x)) x (.ins (T.ct c) dx [])) x) ⟨F, fun _ => x⟩ [.ins c []] (upd (upd H1 dx (.own x)) x (.ins (T.ct c) dx [])) := by
  refine ⟨wo_le, fun a o e => ?_, fun j q e => ?_, fun j q e hl => ⟨wo_same, ?_⟩, fun i j p q e1 e2 _ _ _ => ?_⟩
  · have e2 := l _ _ e
    rw [upd_ne (ne_of_none e2 hx), upd_ne (ne_of_none e2 hd)]; exact e2
  · match j, e with
    | 0, e => cases e; exact ⟨dx, [], by rw [List.zip_nil_right]; exact upd_same, Nat.zero_le _, .nil⟩
    | j + 1, e => simp at e
  · show F x = none
    cases e : F x with
    | none => rfl
    | some o => rw [l _ _ e] at hx; cases hx
  · match i, j, e1, e2 with
    | 0, 0, _, _ => rfl
    | i + 1, _, e1, _ => simp at e1
    | 0, j + 1, _, e2 => simp at e2
theorem ins_keep {H1 H' : Hp} {x dx : Addr} {o : HO} (hx : H1 x = none) (hd : H1 dx = none) (b : Le (wo (upd (upd H1 dx (.own x)) x o) x) H') : Le H1 H' := fun a u e => by
  have n1 := ne_of_none e hx
  refine b a u ?_
  rw [wo_ne n1, upd_ne n1, upd_ne (ne_of_none e hd)]; exact e
theorem ins_fb {H1 : Hp} {x dx : Addr} {o : HO} (hx : H1 x = none) {a : Addr} (b : wo (upd (upd H1 dx (.own x)) x o) x a = none) : H1 a = none := by
  by_cases c : a = x
  · rw [c]; exact hx
  · rw [wo_ne c, upd_ne c] at b
    by_cases c2 : a = dx
    · rw [c2, upd_same] at b; cases b
    · rw [upd_ne c2] at b; exact b
section
variable {X : Cx} {Y : Cy} {k j n c : Nat} {x : Str} {Ff : FM} {p pos : Pos} {a : Expr} {es : List Expr} {al : AM}
theorem r_makeD (m : Ma X.prog X.w X.K X.mg X.base Y.T k x c n Ff) (hr : Room j X.A) (hk : k + 1 ≤ j) (cx : CxOk X Y) (ha : PA X (a :: es) (trA Y al)) (hg : Gl X x := by rfl) (hdb : (x == ("__debug__" : Str)) = false := by decide)
    (he : starEach (a :: es) X.env = (false, eval a X.env) :: starEach es X.env := by rfl) (hpl : (backTo pos (starEach es X.env)).any (·.1) = false := by rfl) : PE X (.Call (.Name x p) (a :: es) [] pos) (trE Y (eMakeD c n Ff al)) := by
  obtain ⟨f, fd, ps, hm, hM, hb, F⟩ := m.ex
  refine PE.imp (pe_makeS (E := Y.Ek) hM F (hr.mono hk) hg hm hb cx.pass ha hdb he hpl) fun σ H Q q => ?_
  obtain ⟨gh, sd, own, R, S, q⟩ := q
  refine at_bind R S q fun g1 o1 xs vs H1 R1 S1 e1 rs q1 => ?_
  obtain ⟨r, own2, e, kq⟩ := q1
  intro x dx hx hd hne
  unfold makeD at e
  by_cases hl : xs.length = n
  case neg => rw [if_pos hl] at e; cases e
  rw [if_neg (fun z => z hl)] at e
  cases ed : dats xs with
  | none => simp only [ed] at e; cases e
  | some ds =>
    simp only [ed] at e
    cases ef : Ff (.h 0 :: xs) [.ins c []] with
    | none => simp only [ef] at e; cases e
    | some pr =>
      obtain ⟨rf, of⟩ := pr
      simp only [ef] at e
      refine ⟨_, ⟨g1.F, fun _ => x⟩, [.ins c []], .h 0 :: xs, hrel_ins R1.f hx hd, .cons ⟨by simp, rfl⟩ (dats_rss (g := g1) (g' := ⟨g1.F, fun _ => x⟩) (fun _ _ h => h) xs vs ds ed rs), by rw [List.length_cons, hl], rf, of, ef, ?_⟩
      cases rf with
      | ok s =>
        cases s with
        | h j => simp only at e; cases e
        | d z =>
          cases z with
          | non =>
            simp only at e
            cases er : (of[0]?).bind frzO with
            | none => simp only [er] at e; cases e
            | some z =>
              simp only [er] at e
              cases e
              intro g' v H' R' e' rv
              obtain ⟨o, eo, ez⟩ := Option.bind_eq_some_iff.mp er
              obtain ⟨ho, eh, rz⟩ := frz_rel R' eo ez
              obtain ⟨R3, e3⟩ := R'.freeze eo (frzO_live ez) eh
              have e4 := e'.trans e3
              have ρ0 : g'.ρ 0 = x := e'.ρ 0 (by simp)
              rw [ρ0] at rz e4 R3
              obtain ⟨R2, e2⟩ := R1.after (F' := L2.upd g'.F x ho) (ins_keep hx hd R'.b) e4.F R3.f fun a o h => (e4.fb a o h).imp id (ins_fb hx)
              exact ⟨rep_non rv, kq _ _ H' R2 e2 rz⟩
          | _ => simp only at e; cases e
      | ex cc fs =>
        simp only at e
        cases e
        intro g' d H' R' e' xd
        obtain ⟨R2, e2⟩ := R1.after (ins_keep hx hd R'.b) e'.F R'.f fun a o h => (e'.fb a o h).imp id (ins_fb hx)
        refine kq _ d H' R2 e2 ?_
        rcases xd with xd | ⟨a, ws, h1, h2, h3⟩
        · exact .inl xd
        · exact .inr ⟨a, ws, h1, h2, h3⟩
end
end Gx
end T_GxR10
section T_GxE1
set_option Elab.async false
set_option linter.all false
set_option maxRecDepth 100000
set_option maxHeartbeats 4000000
namespace Gx
open PySem PySem.Spec PyProof.Rows L2

/-! ## an exception's __init__ that asks super() -/
/-- {x}: a text, an int, None -/
def tFn (te : TE) : TE := fun σ H Q => te σ H fun x H1 => (∃ i : Int, x = .int i ∧ i.natAbs.log2 < 1920 ∧ Q (.str (toString i)) H1) ∨ (x = .non ∧ Q (.str "None") H1)
section
variable {X : Cx}
theorem pe_fmtN {e : Expr} {te : TE} {pos : Pos} (he : PE X e te) : PE X (.FormattedValue e (-1) none pos) (tFn te) := by
  constructor
  intro pins s σ H Q I h
  apply wpAny_FormattedValue_plain
  apply thn (he.run pins s σ H _ I h)
  rintro v s1 ⟨x, H1, I1, r1, q⟩
  rcases q with ⟨i, rfl, hz, q⟩ | ⟨rfl, q⟩
  · obtain ⟨t, rfl⟩ := r1
    exact wpAny_formatField_int hz ⟨.str (toString i), H1, I1.tok _, ⟨_, rfl⟩, q⟩
  · obtain rfl : v = Value.none := r1
    exact wpAny_formatField_none ⟨.str "None", H1, I1.tok _, ⟨_, rfl⟩, q⟩
end

/-- the context of such a body -/
def cxS (P : Program) (w : World) (K : PySem.W.Frag) (mg : Str → Option Value) (base : Heap) (N : List Str) (qual : Str) (scope : Scope) (f : Addr) (cd : Value) (cc : Addr) (A : Around) (outer : List Env) (s : Shared) (H : Hp) (E : XK) : Cx where
  prog := P
  w := w
  K := K
  mg := mg
  base := base
  A := A.deeper (PySem.W.ksEnv qual scope s.heap.objs.size f cd cc)
  N := N
  s_0 := s
  H_0 := H
  env := PySem.W.ksEnv qual scope s.heap.objs.size f cd cc
  outer := outer
  stack := PySem.W.ksEnv qual scope s.heap.objs.size f cd cc :: outer
  ex := []
  calm := true
  fn := fun _ => false
  pn := []
  xe := fun e s' => wpAny (model P w) (A.deeper (PySem.W.ksEnv qual scope s.heap.objs.size f cd cc)) (leaving (PySem.W.ksEnv qual scope s.heap.objs.size f cd cc) e) (fun _ s'' => L2.CX P w outer H s E e s'') (fun e' s'' => L2.CX P w outer H s E e' s'') s'

/-- the scope of such a body -/
structure SupScope (N ps : List Str) (sc : Scope) : Prop where
  kind : sc.kind = .function
  co : sc.isCoroutine = false
  gen : sc.isGenerator = false
  nd : N.Nodup
  pre : N.take ps.length = ps
  par : ∀ x ∈ ps, sc.names.lookup x = some .local
  nocell : ∀ x ∈ sc.names, x.2 ≠ .cell
  free : ∀ x, sc.names.lookup x = some .free → x = "__class__"
  sup : sc.names.lookup ("super" : Str) = some .globalImplicit
  cls : sc.names.lookup ("__class__" : Str) = some .free

theorem zip_sub : ∀ (ps : List Str) (us : List Value), ((ps.zip us).map (·.1)).Sublist ps
  | [], _ => by simp
  | p :: ps, [] => by simp
  | p :: ps, u :: us => by
    rw [List.zip_cons_cons, List.map_cons]
    exact (zip_sub ps us).cons₂ _
theorem zip_last {ps : List Str} {us : List Value} {i : Nat} {x : Str} {u : Value} (nd : ps.Nodup) (h1 : ps[i]? = some x) (h2 : us[i]? = some u) : (ps.zip us).reverse.lookup x = some u := by
  have key : ∀ (l : List (Str × Value)), (l.map (·.1)).Nodup → (x, u) ∈ l → l.lookup x = some u := by
    intro l
    induction l with
    | nil => intro _ h; cases h
    | cons p l ih =>
      intro nd h
      obtain ⟨y, v⟩ := p
      rw [List.map_cons, List.nodup_cons] at nd
      rcases List.mem_cons.mp h with e | h
      · cases e
        rw [List.lookup_cons, beq_self_eq_true]
      · have ne : x ≠ y := fun z => nd.1 (by rw [← z]; exact List.mem_map.mpr ⟨_, h, rfl⟩)
        rw [List.lookup_cons, beq_false_of_ne ne]
        exact ih nd.2 h
  have hm : (x, u) ∈ ps.zip us := by
    have hz : (ps.zip us)[i]? = some (x, u) := by
      rw [List.getElem?_zip_eq_some]
      exact ⟨h1, h2⟩
    exact List.mem_of_getElem? hz
  refine key _ ?_ (List.mem_reverse.mpr hm)
  rw [List.map_reverse]
  have hs : ((ps.zip us).map (·.1)).Sublist ps := by
    exact zip_sub ps us
  exact List.pairwise_reverse.mpr ((nd.sublist hs).imp fun h => Ne.symm h)

section
variable {P : Program} {w : World} {K : PySem.W.Frag} {mg : Str → Option Value} {base : Heap} {N ps : List Str} {qual : Str} {scope : Scope} {f cc : Addr} {cd : Value} {A : Around} {outer : List Env} {s : Shared} {H : Hp} {E : XK} {us : List Value} {vs : List V}
theorem inv_sup {h1 : Heap} {tk : Nat} {u : Value} (S : SupScope N ps scope) (hd : A.handled = none) (e0 : Env0 P w K mg base A outer s H) (hl : vs.length = ps.length) (r : Vals vs us) (hcc : ∃ oc od osl, K.lookup cc = some ⟨oc, od, .cell (some u), osl⟩)
    (hn : h1.Ns s.heap.objs.size fun x => (ps.zip us).reverse.lookup x) (hk : ∀ b o, s.heap.get? b = some o → h1.get? b = some o) :
    Inv (cxS P w K mg base N qual scope f cd cc A outer s H E) [] (L2.start N vs) H { s with heap := h1, toks := tk } := by
  have hpl : ps.length ≤ N.length := by have := congrArg List.length S.pre; rw [List.length_take] at this; omega
  have noA : ∀ b : Addr, b ∉ (cxS P w K mg base N qual scope f cd cc A outer s H E).ex := fun b z => absurd (show b ∈ ([] : List Addr) from z) (by simp)
  have cells : ∀ y c, (cxS P w K mg base N qual scope f cd cc A outer s H E).env.cells.lookup y = some c → y = "__class__" ∧ c = cc := fun y c e => by
    have e : List.lookup y [(("__class__" : Str), cc)] = some c := e
    rw [List.lookup_cons] at e
    cases hb : (y == ("__class__" : Str)) with
    | false => rw [hb] at e; cases e
    | true => rw [hb] at e; cases e; exact ⟨beq_iff_eq.mp hb, rfl⟩
  obtain ⟨oc, od, osl, hcc⟩ := hcc
  have ccb := e0.mod.kin _ _ hcc
  have ccs := e0.bs _ _ ccb
  refine ⟨⟨e0.mod, S.kind, rfl, rfl, Nat.le_refl _, fun y z c h1 h2 => (cells y c h1).1.trans (cells z c h2).1.symm, fun y hy => ?_, fun y c h => (by cases h), fun _ => hd, Around.frames_deeper e0.frames, .inr ⟨rfl, rfl⟩, fun b z => absurd z (noA b), e0.bs, e0.bsz, fun b _ _ => noA b, fun b z => absurd z (noA b), e0.funs, e0.frf⟩,
    rfl, e0.bare, Un.kept hk, ⟨_, hn, fun i y v h1 h2 h3 => ?_⟩, fun y c h => ?_, e0.hok.fresh (Nat.le_refl _), fun y c h => ?_, fun p hp => absurd (show p ∈ ([] : List (Addr × Obj)) from hp) (by simp), e0.hok.kept hk, ?_⟩
  · have hy : scope.names.lookup y = some .cell ∨ scope.names.lookup y = some .free := hy
    rcases hy with hy | hy
    · exact absurd rfl (S.nocell _ (PySem.mem_of_lookup hy))
    · rw [S.free _ hy]
      exact ⟨cc, rfl⟩
  · have hi : i < vs.length := by
      unfold L2.start at h2
      by_cases hi : i < vs.length
      · exact hi
      · rw [List.getElem?_append_right (by simpa using hi), List.getElem?_replicate] at h2
        split at h2 <;> cases h2
    have ha : vs[i]? = some v := by
      unfold L2.start at h2
      rw [List.getElem?_append_left (by simpa using hi), List.getElem?_map] at h2
      obtain ⟨a, e, e2⟩ := Option.map_eq_some_iff.mp h2
      cases e2
      exact e
    obtain ⟨u, hu, rv⟩ := r.get ha
    have hp : ps[i]? = some y := by
      rw [← S.pre, List.getElem?_take_of_lt (by omega)]; exact h1
    have ndP : ps.Nodup := by rw [← S.pre]; exact S.nd.sublist (List.take_sublist _ _)
    exact ⟨u, rv, .inl ⟨S.par y (List.mem_of_getElem? hp), zip_last ndP hp hu⟩⟩
  · obtain ⟨_, rfl⟩ := cells y c h
    exact ⟨_, _, hk _ _ ccs.1, rfl⟩
  · obtain ⟨_, rfl⟩ := cells y c h
    exact ccs.2
  · unfold L2.start
    show _ = N.length
    rw [List.length_append, List.length_map, List.length_replicate]
    omega
end

/-! ### the statement super().__init__(e, ..) -/
/-- what the written part says of the def -/
structure SupDef (P : Program) (K : PySem.W.Frag) (C f cc cda : Addr) (fd : FuncData) (qual : Str) (params : Arguments) (body : List Stmt) (scope : Scope) : Prop where
  fn : ∃ name kV doc pm ct oc an od osl, fd = PySem.W.ksFn name qual params body scope .none kV doc pm an (.ref cda) ct cc ∧ K.lookup f = some ⟨oc, od, .func fd, osl⟩
  code : PySem.W.codeIn K (.ref cda) qual = true
  file : ∃ ccl cdd vs ccs file tf, K.lookup cda = some ⟨ccl, cdd, .fields vs, ccs⟩ ∧ vs[2]? = some (.str file tf) ∧ ((P.main.file : Str) == file) = true
  cell : ∃ oc od osl, K.lookup cc = some ⟨oc, od, .cell (some (.ref C)), osl⟩
  top : (P.main.scope.names.lookup ("super" : Str)).isSome = false
  mgs : PySem.W.nsIn K mainGlobals "super" = some none
  opq : PySem.W.nsIn K cStatics "thirdparty.any" = some none
  sup : PySem.W.ks_superIn K C C "__init__" = some (some (.builtin "ValueError.__init__"))
  mro : PySem.W.mroIn K C (.ref C) = some true
  vE : PySem.W.subIn K (.ref C) (.type "ValueError") = some true
  exc : OexC K C
theorem SupDef.cell' {P : Program} {K : PySem.W.Frag} {C f cc cda : Addr} {fd : FuncData} {qual : Str} {params : Arguments} {body : List Stmt} {scope : Scope} (S : SupDef P K C f cc cda fd qual params body scope) :
    ∃ oc od osl, K.lookup cc = some ⟨oc, od, .cell (some (.ref C)), osl⟩ := S.cell
section
variable {P : Program} {w : World} {K : PySem.W.Frag} {mg : Str → Option Value} {base : Heap} {N ps : List Str} {qual : Str} {scope : Scope} {C f cc cda : Addr} {A : Around} {outer : List Env} {s0 : Shared} {H0 : Hp} {E : XK} {fd : FuncData} {params : Arguments} {body : List Stmt}
variable {X : Cx} {pins : List (Addr × Obj)} {σ : St} {H : Hp} {s : Shared}
/-- ValueError.__init__ bound to the exception, called -/
theorem sup_call {us : List Value} {a u : Addr} {Q : Value → Shared → Prop} (T : OexC X.K C) (I : Inv X pins σ H s) (e : H a = some (exo a C none)) (hu : s.heap.get? u = some (PySem.W.kxs_mw "ValueError.__init__" a)) (hl : us.length ≤ sizeLine)
    (h : ∀ s', Inv X pins σ H s' → Q .none s') : wpAny (model X.prog X.w) X.A (call (.ref u) us) Q X.xe s := by
  obtain ⟨nm, q, N', bs, bm, sn, sub, ab, col, dd, k0, k1, k2, k3, k5, hC, hbm⟩ := T.cls
  obtain ⟨t1, ho⟩ := exo_at I.hok e
  have hCs := I.kIn _ _ hC
  obtain ⟨hp, g, d, t, os⟩ := s
  have fin : ∀ h', (∀ b o, b ≠ a → hp.get? b = some o → h'.get? b = some o) → h'.get? a = some (PySem.W.excRec (.ref C) hp.objs.size none .none .none (.bool false)) → h'.get? hp.objs.size = some (PySem.W.excTup us) → Q .none ⟨h', g, d, t, os⟩ := fun h' k e' _ => by
    have J := I.write (t' := t) (x := a) (e := a) (o := exo a C none) (by rw [e]; exact True.intro) (.inl rfl) k ⟨_, e'⟩ (exo_ok e')
    have eu : upd H a (exo a C none) = H := by
      funext b
      by_cases hb : b = a
      · rw [hb, upd_same, e]
      · rw [upd_ne hb]
    rw [eu] at J
    exact h _ J
  refine wpAny_call (codeAny_of_tree ?_)
  show wpAny _ X.A.in1 (callAny (.ref u) ⟨us, []⟩) _ _ _
  simp only [callAny]
  refine wpAny_bind (wpAny_load hu ?_)
  simp only [PySem.W.kxs_mw, show (Value.type "method-wrapper" == Value.type "method" || Value.type "method-wrapper" == Value.type "builtin_function_or_method" || Value.type "method-wrapper" == Value.type "method-wrapper") = true by decide, if_true]
  refine PySem.W.KFB.if_so (by decide) ?_
  refine wpAny_bind (PySem.W.check_bound_init F.excBase_ValueError.toExcCallFacts hCs ho rfl ?_)
  refine wpAny_bind (wpAny_pure (wpAny_pure ?_))
  refine ⟨PySem.plainId_quiet F.excBase_ValueError.init.plain _, codeAny_builtin F.excBase_ValueError.initEntry ?_⟩
  exact PySem.W.exc_init_tree (cls := .ref C) (t0 := t1) (dv := none) (c2 := .none) (c3 := .none) (b4 := .bool false) ho hl fin

theorem sup_body {e1 : Expr} {es : List Expr} {p0 p1 p2 p3 p4 : Pos} {ta : TA} {rest : List Stmt} {t : TS} {D : Ends} {a : Addr} {ar : Arg} {pl : Sem Bool} {bd : List Stmt}
    (SD : SupDef P K C f cc cda fd qual params body scope) (S : SupScope N ps scope) (hp : (params.posonlyargs ++ params.args).head? = some ar) (h0 : N[0]? = some ar.arg) (h1 : ps[0]? = some ar.arg)
    (ha : PA (cxS P w K mg base N qual scope f (.ref cda) cc A outer s0 H0 E) (e1 :: es) ta) (hr : PSs (cxS P w K mg base N qual scope f (.ref cda) cc A outer s0 H0 E) rest t)
    (I : Inv (cxS P w K mg base N qual scope f (.ref cda) cc A outer s0 H0 E) [] σ H s) (ea : H a = some (exo a C none)) (hσ : σ[0]? = some (some (.ref a))) (hm : mg "super" = none)
    (h : ta σ H fun vs H1 => vs.length ≤ 1000 ∧ H1 a = some (exo a C none) ∧ t D σ H1)
    (hs : swapsWith (.Call (.Attribute (.Call (.Name "super" p0) [] [] p1) "__init__" p2) (e1 :: es) [] p3) none p4.line (cxS P w K mg base N qual scope f (.ref cda) cc A outer s0 H0 E).env = pure false)
    (hc : eval (.Call (.Attribute (.Call (.Name "super" p0) [] [] p1) "__init__" p2) (e1 :: es) [] p3) (cxS P w K mg base N qual scope f (.ref cda) cc A outer s0 H0 E).env = (do
      let ov ← attributeBase (.Call (.Name "super" p0) [] [] p1) "__init__" (cxS P w K mg base N qual scope f (.ref cda) cc A outer s0 H0 E).env (eval (.Call (.Name "super" p0) [] [] p1) (cxS P w K mg base N qual scope f (.ref cda) cc A outer s0 H0 E).env)
      standAt p2.atName
      let (fx, first) ← holding [ov] (getMethod ov "__init__" pl)
      callWith p3 fx first (backTo p3 (starEach (e1 :: es) (cxS P w K mg base N qual scope f (.ref cda) cc A outer s0 H0 E).env)) []))
    (he : starEach (e1 :: es) (cxS P w K mg base N qual scope f (.ref cda) cc A outer s0 H0 E).env = (false, eval e1 (cxS P w K mg base N qual scope f (.ref cda) cc A outer s0 H0 E).env) :: starEach es (cxS P w K mg base N qual scope f (.ref cda) cc A outer s0 H0 E).env)
    (hpl : (backTo p3 (starEach es (cxS P w K mg base N qual scope f (.ref cda) cc A outer s0 H0 E).env)).any (·.1) = false) :
    _root_.PySem.wpAt (model P w) (cxS P w K mg base N qual scope f (.ref cda) cc A outer s0 H0 E).A (.func bd (cxS P w K mg base N qual scope f (.ref cda) cc A outer s0 H0 E).env)
      (execs (.Expr (.Call (.Attribute (.Call (.Name "super" p0) [] [] p1) "__init__" p2) (e1 :: es) [] p3) p4 :: rest) (cxS P w K mg base N qual scope f (.ref cda) cc A outer s0 H0 E).env)
      (SP (cxS P w K mg base N qual scope f (.ref cda) cc A outer s0 H0 E) [] D) (cxS P w K mg base N qual scope f (.ref cda) cc A outer s0 H0 E).xe s := by
  obtain ⟨name, kV, doc, pm, ct, oc, an, od, osl, rfl, lk⟩ := SD.fn
  obtain ⟨ccl, cdd, vsx, ccs, file, tf, lcd, hv2, hfile⟩ := SD.file
  obtain ⟨c1, c2, c3, lcc⟩ := SD.cell
  obtain ⟨nm, q, N', bs, bm, sn, sub, ab, col, dd, k0, k1, k2, k3, k5, hC, hbm⟩ := SD.exc.cls
  have hCs := I.kIn _ _ hC
  obtain ⟨t1, ho⟩ := exo_at I.hok ea
  obtain ⟨mb, hb1, hb2⟩ := I.mod.blt
  obtain ⟨m, hn, hlk⟩ := I.loc
  have hself : m ar.arg = some (.ref a) := by
    have hpar := S.par _ (List.mem_of_getElem? h1)
    obtain ⟨u, ru, lu⟩ := hlk 0 _ _ h0 hσ (.inl hpar)
    have ru : u = Value.ref a := ru
    subst ru
    rcases lu with ⟨_, e⟩ | ⟨e, _⟩
    · exact e
    · have e : scope.names.lookup ar.arg = some .cell ∨ scope.names.lookup ar.arg = some .free := e
      rcases e with e | e <;> rw [hpar] at e <;> cases e
  refine PySem.ks_wpAt_execs_cons (PySem.ks_wpAt_Expr_any ?_ I.quiet hs)
  refine PySem.ks_wpAt_MethodCall (pl := pl) ?_ hc
  refine PySem.ks_wpAt_super_base (f := f) (cc := cda) (fd := PySem.W.ksFn name qual params body scope .none kV doc pm an (.ref cda) ct cc) (vs := vsx) (file := file) (tf := tf) (ar := ar) S.sup S.cls (by decide) rfl (I.kIn _ _ lk) rfl hp rfl (I.kIn _ _ lcd) rfl hv2 hfile SD.top ?_
  refine PySem.W.ks_loadName_global S.kind S.sup (PySem.Calls.loadGlobal_builtin (by rw [I.ok.glob]; exact I.mod.glob.keeps I.bk) hm (by rw [I.ok.blt]; exact hb1.keeps I.bk) ((hb2 _ (by decide)).trans (by first | boot_by_name | rfl | kernel_rfl)) ⟨rfl, ?_⟩)
  refine wpAny_loadName_free S.kind S.cls rfl ⟨_, I.kIn _ _ lcc, rfl⟩ ?_
  refine wpAny_loadName_local S.kind (S.par _ (List.mem_of_getElem? h1)) hn hself ?_
  refine PySem.ks_wpAny_isType_cls hCs rfl ⟨rfl, ?_⟩
  refine PySem.ks_wpAny_call_super hCs rfl ho rfl (fun c e => by cases e) (PySem.W.looks_mroIn I.kIn SD.mro) (fun h' eso kso => ?_)
  have I1 := I.kept (t' := s.toks) kso
  have hcl : PySem.W.clsIn K C = some { name := nm, bases := bs, mro := .ref C :: bm, ns := N', qualname := q, hasDict := true, slotNames := sn, subclasses := sub, abstract := ab, collection := col, hasDel := false } := by unfold PySem.W.clsIn; rw [hC] <;> rfl
  have hal : PySem.W.alongIn K "__init__" bm = some (some (.builtin "ValueError.__init__")) := by
    have z := SD.sup
    unfold PySem.W.ks_superIn at z
    rw [hcl, Option.bind_some] at z
    simpa [List.dropWhile_cons] using z
  have hx1 : h'.get? a = some ({ cls := .ref C, dict := none, data := .fields #[.ref t1, .none, .none, .none, .bool false, .none] } : Obj) := kso _ _ ho
  have hI : PySem.W.Looks (model P w) h' (isInstance (.ref a) (.type "ValueError")) true := (show PySem.W.InstAt h' a _ C none from ⟨hx1, rfl, rfl, trivial⟩).type.andThen (PySem.W.looks_subIn I1.kIn SD.vE)
  have hxC : a ≠ C := fun z => by
    rw [z, hCs] at ho
    cases ho
  refine PySem.W.kxs_getMethod PySem.W.kxs_ValueError eso (PySem.W.looks_opaque I1.kIn SD.opq) (PySem.W.looks_clsIn I1.kIn hcl |>.andThen .now) (by show _ = bm; simp [List.dropWhile_cons]) I1.kIn hal hI hxC (by decide) ?_
  have kpu : ∀ b o, h'.get? b = some o → (h'.push (PySem.W.kxs_mw "ValueError.__init__" a)).get? b = some o := fun b o e => Heap.get?_push_of_some _ e
  have I2 := I1.kept (t' := s.toks + 1) kpu
  have hu2 : (h'.push (PySem.W.kxs_mw "ValueError.__init__" a)).get? h'.objs.size = some (PySem.W.kxs_mw "ValueError.__init__" a) := Heap.get?_push_at rfl rfl
  have hnu : H h'.objs.size = none := I1.hok.fresh (Nat.le_refl _)
  have I3 : Inv (cxS P w K mg base N qual scope f (.ref cda) cc A outer s0 H0 E) [(h'.objs.size, PySem.W.kxs_mw "ValueError.__init__" a)] σ H { s with heap := h'.push (PySem.W.kxs_mw "ValueError.__init__" a), toks := s.toks + 1 } :=
    I2.pins_of fun p hp => by
      rcases List.mem_cons.mp hp with e | hp
      · subst e
        exact ⟨hu2, hnu, Nat.ne_of_gt I1.lt, I1.nofs (Nat.le_refl _), fun v z => by cases z⟩
      · cases hp
  have run := ha.run p3 [(h'.objs.size, PySem.W.kxs_mw "ValueError.__init__" a)] _ σ H _ I3 h
  rw [he]
  refine PySem.W.kxs_callWith (i := "ValueError.__init__") (x := a) (by show (false || _) = false; rw [Bool.false_or]; exact hpl) ?_
  rw [he] at run
  refine PySem.Calls.evalArgs_plain (thn run fun us s1 ⟨vs, H1, I4, rv, hz, ea4, q⟩ => ?_)
  have hpin := I4.pin (h'.objs.size, PySem.W.kxs_mw "ValueError.__init__" a) (List.mem_append_right _ (List.mem_cons_self ..))
  refine ⟨hpin.1, ?_⟩
  have hus : us.length ≤ sizeLine := by
    rw [← Paired.length rv, sizeLine_eq]
    omega
  refine sup_call SD.exc I4 ea4 hpin.1 hus fun s' I5 => ?_
  have I6 : Inv (cxS P w K mg base N qual scope f (.ref cda) cc A outer s0 H0 E) [] σ H1 s' := I5.pins_of fun p hp => by cases hp
  exact wpAt_of_wpAny (hr.run [] s' σ H1 D I6 q)
/-- such a def, by its body -/
theorem sup_ok {k : Nat} {sp : Sp} (SD : SupDef P K C f cc cda fd qual params body scope) (S : SupScope N ps scope) (len : ∀ vs H Q E, sp vs H Q E → vs.length = ps.length)
    (hbody : ∀ (A : Around) (outer : List Env) (s0 : Shared) (H : Hp) (vs : List V) (Q : VK) (E : XK) (s : Shared), Room k (A.deeper (PySem.W.ksEnv qual scope s0.heap.objs.size f (.ref cda) cc)) → sp vs H Q E →
      Inv (cxS P w K mg base N qual scope f (.ref cda) cc A outer s0 H E) [] (L2.start N vs) H s →
      _root_.PySem.wpAt (model P w) (cxS P w K mg base N qual scope f (.ref cda) cc A outer s0 H E).A (.func body (cxS P w K mg base N qual scope f (.ref cda) cc A outer s0 H E).env) (execs body (cxS P w K mg base N qual scope f (.ref cda) cc A outer s0 H E).env)
        (SP (cxS P w K mg base N qual scope f (.ref cda) cc A outer s0 H E) [] { nx := fun _ H' => Q .non H', rt := Q }) (cxS P w K mg base N qual scope f (.ref cda) cc A outer s0 H E).xe s) :
    FnOk P w K mg base (L2.CX P w) (k + 1) f fd ps sp := by
  refine ⟨len, fun A outer s H args us vs Q E hr e0 hb r hsp => ?_⟩
  have hl := len _ _ _ _ hsp
  obtain ⟨name, kV, doc, pm, ct, oc, an, od, osl, rfl, lk⟩ := SD.fn
  have KX : K.In s.heap := e0.mod.kin.keeps fun b o e => (e0.bs b o e).1
  have lim : s.heap.NoLimit := e0.mod.nolimit.keeps fun b o e => (e0.bs b o e).1
  refine PySem.ks_codeAny_call_defAt (fd := PySem.W.ksFn name qual params body scope .none kV doc pm an (.ref cda) ct cc) (body := body) (binds := ps.zip us) hr.depth (KX _ _ lk) rfl lim (PySem.W.codeRec_of KX SD.code) rfl hb S.nocell
    (fun y hy => S.par _ (List.of_mem_zip hy).1) (fun h1 hn hk => ?_) S.co S.gen S.kind
  have I : Inv (cxS P w K mg base N qual scope f (.ref cda) cc A outer s H E) [] (L2.start N vs) H { s with heap := h1, toks := s.toks + (ps.zip us).length } := inv_sup S hr.hd e0 hl r SD.cell' hn hk
  refine PySem.ks_wpAt_mono (hbody A outer s H vs Q E _ (hr.deeper _) hsp I) (fun fl s' hs => ?_) fun e s' hs => hs
  have fin : ∀ {σ' : St} {H' : Hp} {v : V} {u : Value}, Inv (cxS P w K mg base N qual scope f (.ref cda) cc A outer s H E) [] σ' H' s' → RelV v u → Q v H' → CE outer P w H s Q u s' :=
    fun {σ' H' v u} J rv q => ⟨v, H', J.os, J.bare, J.base, J.hok, rv, q⟩
  cases fl with
  | ret u =>
    obtain ⟨v, σ', H', J, rv, q⟩ := hs
    exact fin J rv q
  | next =>
    obtain ⟨σ', H', J, q⟩ := hs
    exact fin (v := V.non) (u := Value.none) J rfl q
  | brk =>
    obtain ⟨_, _, _, q⟩ := hs
    exact False.elim q
  | cont =>
    obtain ⟨_, _, _, q⟩ := hs
    exact False.elim q
end
end Gx
end T_GxE1
section T_GxE2
set_option Elab.async false
set_option linter.all false
set_option maxRecDepth 100000
set_option maxHeartbeats 4000000
namespace Gx
open PySem PySem.Spec PyProof.Rows L2

/-! ## the promise of such an __init__ -/
/-- what the first argument must be for the text: nothing, or a number that can be told -/
def tellV : V → Prop
  | .int i => i.natAbs.log2 < 1920
  | .non => True
  | _ => False
/-- self and the fields' values: they stand in a new dict -/
def spX (C : Addr) (ns : List Str) : Sp := fun vs H Q E => ∃ a ws, vs = .ref a :: ws ∧ ws.length = ns.length ∧ (∀ v, ws.head? = some v → tellV v) ∧ H a = some (exo a C none) ∧
  ((ns = [] ∧ Q .non H) ∨ (ns ≠ [] ∧ ∀ dx, H dx = none → dx ≠ a → Q .non (upd (upd H dx (exd dx (ns.zip ws))) a (exo a C (some dx)))))
/-- an exception class of ours -/
structure Xc (P : Program) (w : World) (K : PySem.W.Frag) (mg : Str → Option Value) (base : Heap) (x : Str) (C : Addr) (ns : List Str) : Prop where
  exc : OexC K C
  mg_ : mg x = some (.ref C)
  init : ∃ (fI : Addr) (fd : FuncData) (ps : List Str), PySem.W.findIn K (.ref C) "__init__" = some (some (.ref fI)) ∧ PySem.W.typeIn K (.ref fI) = some (.type "function") ∧ Binds K fd ps [] ∧ ps.length = ns.length + 1 ∧ FnOk P w K mg base (L2.CX P w) 1 fI fd ps (spX C ns)

/-- where an exception without a dict is let go -/
theorem mk_bare {X : Cx} {pins : List (Addr × Obj)} {σ : St} {H1 : Hp} {Q : XK} {hp hp2 h2 : Heap} {g1 g2 : Array GenState} {d1 d2 : Drawn} {t1 t2 : Nat} {os1 os2 : OsState} {a C : Addr} (T : Raises X (.ref C)) (I1 : Inv X pins σ H1 ⟨hp, g1, d1, t1, os1⟩)
    (ha : hp.objs.size ≤ a) (k : ∀ b o, hp.get? b = some o → hp2.get? b = some o) (un : Un (frs X.stack) [] (upd H1 a (exo a C none)) (upd H1 a (exo a C none)) hp2 h2) (hok : HOk X.prog X.w (upd H1 a (exo a C none)) h2) (ho : os2 = os1) (hb : AllBare g2)
    (q : Q (.ref C) none H1) : MkP X pins σ Q (.ref a) ⟨h2, g2, d2, t2, os2⟩ := by
  have hn : H1 a = none := I1.hok.fresh ha
  obtain ⟨t0, hoe⟩ := exo_at hok (upd_same (H := H1))
  obtain ⟨G, gy, gn⟩ := restrict h2 fun b => decide (b ≠ a)
  have gk : ∀ b, b ≠ a → G.get? b = h2.get? b := fun b hb => gy b (decide_eq_true hb)
  have ga : G.get? a = none := gn a (by simp)
  have na : ∀ {b : Addr} {o : Obj}, hp.get? b = some o → b ≠ a := fun {b o} z => Nat.ne_of_lt (Nat.lt_of_lt_of_le (Heap.lt_size z) ha)
  have nh : ∀ {b : Addr} {o : HO}, H1 b = some o → b ≠ a := fun {b o} z => ne_of_none z hn
  have U : Un (frs X.stack) [] H1 H1 hp G := {
    keep := fun b o z n hf hx => by
      rw [gk b (na z)]
      exact un.keep b o (k b o z) (by rw [upd_ne (na z)]; exact n) hf hx
    slot := fun b o z n hf hx => by
      rw [gk b (na z)]
      exact un.slot b o (k b o z) (by rw [upd_ne (na z)]; exact n) hf hx
    free := fun b o z n hx => n
    there := fun b o z hx => by
      rw [gk b (na z)]
      exact un.there b o (k b o z) hx
    tups := fun b xs z => z
    frzs := fun b o v z => z
    tbls := fun b ps z => ⟨#[], by rw [z]; simp⟩ }
  have hok3 : HOk X.prog X.w H1 G := fun b o z => by
    have z2 : upd H1 a (exo a C none) b = some o := by rw [upd_ne (nh z)]; exact z
    refine (hok b o z2).stay (fun c v hc y => ?_) (fun c hc => ?_) (fun c xs hc => ?_)
    · have hca : c ≠ a := by
        rcases hc with hc | hc
        · rw [hc]; exact nh z
        · exact at_ne (upd_same (H := H1) (a := a) (o := exo a C none)) hc exo_own
      rw [gk c hca]; exact y
    · rw [← upd_ne (H := H1) (o := exo a C none) (at_ne (upd_same (H := H1) (a := a) (o := exo a C none)) hc exo_own)]; exact hc
    · rw [← upd_ne (H := H1) (o := exo a C none) (at_ne (upd_same (H := H1) (a := a) (o := exo a C none)) hc exo_tup)]; exact hc
  subst ho
  have J : Inv X pins σ H1 ⟨G, g2, d2, t2, os2⟩ := I1.call' (s' := ⟨G, g2, d2, t2, os2⟩) (ch := []) rfl U hok3 hb (fun b z => absurd z (by simp))
  exact ⟨a, _, _, ⟨G, g2, d2, t2, os2⟩, H1, .ref C, none, rfl, J, fun b o z => by
    by_cases hba : b = a
    · rw [hba, ga] at z; cases z
    · rw [← gk b hba]; exact z, ga, hoe, ⟨rfl, rfl⟩, rfl, rfl, hn, rfl, hb, T, q⟩

section
variable {X : Cx} {pins : List (Addr × Obj)} {σ : St} {x : Str} {C : Addr} {ns : List Str} {p pos : Pos} {e : Expr} {es : List Expr} {ta : TA}
/-- what is wished of C(..) -/
def wishX (C : Addr) (ns : List Str) (vs : List V) (H1 : Hp) (Q : XK) : Prop := vs.length = ns.length ∧ (∀ v, vs.head? = some v → tellV v) ∧ (ns = [] → Q (.ref C) none H1) ∧ (ns ≠ [] → ∀ d, H1 d = none → Q (.ref C) (some d) (upd H1 d (.xd (ns.zip vs))))
theorem run_mkX (xc : Xc X.prog X.w X.K X.mg X.base x C ns) (hns : ns.length ≤ 2) (hr : Room 2 X.A) {vs : List V} {us : List Value} {H1 : Hp} {Q : XK} {s : Shared} (I1 : Inv X pins σ H1 s) (r1 : Vals vs us) (h : wishX C ns vs H1 Q) :
    wpAny (model X.prog X.w) X.A (call (.ref C) us) (MkP X pins σ Q) X.xe s := by
  obtain ⟨hl, ht, h0, h2⟩ := h
  obtain ⟨fI, fd, ps, iC, tI, hb, hpl, F1⟩ := xc.init
  obtain ⟨nm, q, N, bs, bm, sn, sub, ab, col, dd, k0, k1, k2, k3, k5, hC, hbm⟩ := xc.exc.cls
  obtain ⟨hp, g, dr, tk, os⟩ := s
  have hsz : hp.objs.size ≤ hp.objs.size + 1 := Nat.le_succ _
  have hn : H1 (hp.objs.size + 1) = none := I1.hok.fresh hsz
  have kk : ∀ b o, hp.get? b = some o → ((hp.push (PySem.W.kdv_tup us)).push (PySem.HandSPX.excO C hp.objs.size)).get? b = some o := fun b o z => Heap.get?_push_of_some _ (Heap.get?_push_of_some _ z)
  have hget : ((hp.push (PySem.W.kdv_tup us)).push (PySem.HandSPX.excO C hp.objs.size)).get? (hp.objs.size + 1) = some (PySem.HandSPX.excO C hp.objs.size) := by heap_get
  have I2 : Inv X pins σ (upd H1 (hp.objs.size + 1) (exo (hp.objs.size + 1) C none)) ⟨(hp.push (PySem.W.kdv_tup us)).push (PySem.HandSPX.excO C hp.objs.size), g, dr, tk, os⟩ := I1.laid (t' := tk) kk hsz (exo_ok hget)
  -- what the __init__ leaves
  let Q0 : VK := fun v H2 => v = .non ∧ ((ns = [] ∧ H2 = upd H1 (hp.objs.size + 1) (exo (hp.objs.size + 1) C none)) ∨
    (ns ≠ [] ∧ ∃ dx, upd H1 (hp.objs.size + 1) (exo (hp.objs.size + 1) C none) dx = none ∧ dx ≠ hp.objs.size + 1 ∧ H2 = upd (upd (upd H1 (hp.objs.size + 1) (exo (hp.objs.size + 1) C none)) dx (exd dx (ns.zip vs))) (hp.objs.size + 1) (exo (hp.objs.size + 1) C (some dx))))
  have hq : spX C ns (V.ref (hp.objs.size + 1) :: vs) (upd H1 (hp.objs.size + 1) (exo (hp.objs.size + 1) C none)) Q0 (fun _ _ _ => False) := by
    refine ⟨_, vs, rfl, hl, ht, upd_same, ?_⟩
    by_cases c : ns = []
    · exact .inl ⟨c, rfl, .inl ⟨c, rfl⟩⟩
    · exact .inr ⟨c, fun dx e1 e2 => ⟨rfl, .inr ⟨c, dx, e1, e2, rfl⟩⟩⟩
  have r2 : Vals (V.ref (hp.objs.size + 1) :: vs) (Value.ref (hp.objs.size + 1) :: us) := .cons rfl r1
  have hul : us.length = ns.length := by rw [← hl]; exact (Paired.length r1).symm
  have hus : us.length ≤ sizeLine := by rw [hul, sizeLine_eq]; omega
  have hb' := hb _ (Value.ref (hp.objs.size + 1) :: us) I2.kIn (by rw [List.append_nil, List.length_cons, hul, hpl])
  rw [List.append_nil] at hb'
  refine wpAny_call (PySem.HandSPX.call_own F.excBase_ValueError (fun Y => PySem.HandSPX.refsVE_contains Y bm hbm) (I1.kIn _ _ hC) (PySem.W.looks_findIn I1.kIn iC) (fun self => PySem.W.bind_fn I1.kIn self tI) hus
    (codeAny_mono (F1.run _ X.stack _ _ ⟨Value.ref (hp.objs.size + 1) :: us, []⟩ (Value.ref (hp.objs.size + 1) :: us) _ Q0 (fun _ _ _ => False) (Room.make (k := 1) hr C us []) (I2.env0.make C us []) hb' r2 hq) fun r s' hq' => ?_))
  match r, hq' with
  | .error er, hq' => exact passL pins σ _ _ er s' I2 hq'
  | .ok .next, hq' => exact (show False from hq').elim
  | .ok .brk, hq' => exact (show False from hq').elim
  | .ok .cont, hq' => exact (show False from hq').elim
  | .ok (.ret u), hq' =>
    obtain ⟨v, H2, os2, bare2, un2, hok2, rv, ev, q2⟩ := hq'
    subst ev
    obtain ⟨h2', g2, d2, t2, os'⟩ := s'
    refine ⟨rv, ?_⟩
    rcases q2 with ⟨c, e2⟩ | ⟨c, dx, e1, e2, e3⟩
    · subst e2
      exact mk_bare (raises_own xc.exc.exC xc.exc.tyC) I1 hsz kk un2 hok2 os2 bare2 (h0 c)
    · subst e3
      have hd1 : H1 dx = none := by rw [← upd_ne (H := H1) (o := exo (hp.objs.size + 1) C none) e2]; exact e1
      have ea : upd (upd (upd H1 (hp.objs.size + 1) (exo (hp.objs.size + 1) C none)) dx (exd dx (ns.zip vs))) (hp.objs.size + 1) (exo (hp.objs.size + 1) C (some dx)) dx = some (exd dx (ns.zip vs)) := by rw [upd_ne e2, upd_same]
      refine mk_end (raises_own xc.exc.exC xc.exc.tyC) I1 hsz kk un2 hok2 os2 bare2 upd_same ea hd1 ?_
      have hh : upd (del (upd (upd (upd H1 (hp.objs.size + 1) (exo (hp.objs.size + 1) C none)) dx (exd dx (ns.zip vs))) (hp.objs.size + 1) (exo (hp.objs.size + 1) C (some dx))) (hp.objs.size + 1)) dx (.xd (ns.zip vs)) = upd H1 dx (.xd (ns.zip vs)) := by
        funext b
        by_cases b1 : b = dx
        · rw [b1, upd_same, upd_same]
        · rw [upd_ne b1, upd_ne b1]
          by_cases b2 : b = hp.objs.size + 1
          · rw [b2, del_same, hn]
          · rw [del_ne b2, upd_ne b2, upd_ne b1, upd_ne b2]
      rw [hh]
      exact h2 c dx hd1
theorem pmk_x (xc : Xc X.prog X.w X.K X.mg X.base x C ns) (hns : ns.length ≤ 2) (hr : Room 2 X.A) (hg : Gl X x) (ha : PA X (e :: es) ta)
    (hdb : (x == ("__debug__" : Str)) = false := by decide) (he : starEach (e :: es) X.env = (false, eval e X.env) :: starEach es X.env := by rfl) (hpl : (backTo pos (starEach es X.env)).any (·.1) = false := by rfl) :
    PMk X (.Call (.Name x p) (e :: es) [] pos) (fun σ H Q => ta σ H fun vs H1 => wishX C ns vs H1 Q) := by
  intro pins s σ H Q I h
  apply wpAny_Call_Name_kw
  apply ld_glob I hg xc.mg_ _ hdb
  exact PySem.W.callWith_K (h₀ := X.base) I.ok.mod.kin xc.exc.kC (thn (ha.run pos pins s σ H _ I h) fun us s1 ⟨vs, H1, I1, r1, q1⟩ => ⟨I1.kIn, run_mkX xc hns hr I1 r1 q1⟩) he hpl
theorem pmk_x0 (xc : Xc X.prog X.w X.K X.mg X.base x C ns) (hns : ns.length ≤ 2) (hr : Room 2 X.A) (hg : Gl X x) (hdb : (x == ("__debug__" : Str)) = false := by decide) :
    PMk X (.Call (.Name x p) [] [] pos) (fun σ H Q => wishX C ns [] H Q) := by
  intro pins s σ H Q I h
  apply wpAny_Call_Name_kw
  apply ld_glob I hg xc.mg_ _ hdb
  exact PySem.W.callWith_K0 I.kIn xc.exc.kC (run_mkX xc hns hr I .nil h)
end
/-! ## raise C(..) -/
def tellD : List D → Bool
  | [] => true
  | .int i :: _ => decide (i.natAbs.log2 < 1920)
  | .non :: _ => true
  | _ => false
def fldR : Nat → List SV → Option (List D)
  | c, xs => match dats xs with
    | some ds => if ds.length = (flds c).length ∧ tellD ds = true then some ds else none
    | none => none
def sRaise (c : Nat) (a : AM) : SM := SM.bind a fun xs => fun sd own => (fldR c xs).map fun ds => .ex c ds sd own
section
variable {X : Cx} {Y : Cy} {x : Str} {c : Nat} {p pos pos2 : Pos} {e : Expr} {es : List Expr} {al : AM}
theorem dats_reps {T : Tb} {g : Gh} {n : Nat} : ∀ (xs : List SV) (vs : List V) (ds : List D), dats xs = some ds → RSs T g n xs vs → Reps T g.F ds vs := by
  intro xs
  induction xs with
  | nil => intro vs ds h r; cases r; cases h; exact .nil
  | cons s t ih =>
    intro vs ds h r
    cases r with
    | cons h1 r1 =>
      cases s with
      | h k => cases h
      | d y =>
        have h : (dats t).map (y :: ·) = some ds := h
        obtain ⟨ds2, e1, e2⟩ := Option.map_eq_some_iff.mp h
        subst e2
        exact .cons h1 (ih _ _ e1 r1)
theorem flds_two : ∀ c : Nat, 9 ≤ c → (flds c).length ≤ 2 := by
  intro c hc
  unfold flds
  split <;> first | omega | simp
theorem raise_wish {T : Tb} {B : Hp} {Ek : L2.St → XK} {g : Gh} {own : Own} {sd : Sl} {σ : L2.St} {H : Hp} {Dn : Ends} {xs : List SV} {vs : List V} (R : HRel T B g own H) (S : SRel T g own.length sd σ) (rs : RSs T g own.length xs vs)
    (q : SAt ⟨T, B, Ek⟩ g sd own Dn fun sd own => (fldR c xs).map fun ds => .ex c ds sd own) : wishX (T.ct c) (flds c) vs H (Ek σ) := by
  obtain ⟨r, e1, k⟩ := q
  obtain ⟨ds, e2, e3⟩ := Option.map_eq_some_iff.mp e1
  subst e3
  unfold fldR at e2
  cases ed : dats xs with
  | none => simp only [ed] at e2; cases e2
  | some ds2 =>
    simp only [ed] at e2
    by_cases hc : ds2.length = (flds c).length ∧ tellD ds2 = true
    · rw [if_pos hc] at e2
      cases e2
      have rp := dats_reps xs vs _ ed rs
      refine ⟨by rw [← rp.length]; exact hc.1, fun v hv => ?_, fun hz => ?_, fun hz d hd => ?_⟩
      · cases rp with
        | nil => cases hv
        | cons h1 r1 =>
          cases hv
          cases h1 with
          | int i => exact (show i.natAbs.log2 < 1920 from of_decide_eq_true hc.2)
          | non => trivial
          | _ => exact absurd hc.2 Bool.false_ne_true
      · refine k g σ none H R S .rfl' (.inl ⟨?_, rfl⟩)
        have := hc.1
        rw [hz] at this
        exact List.length_eq_zero_iff.mp this
      · obtain ⟨R2, e2⟩ := R.new hd (.xd ((flds c).zip vs))
        exact k _ σ (some d) _ R2 (S.ext e2) e2 (.inr ⟨d, vs, rfl, upd_same, rp.le e2.F⟩)
    · rw [if_neg hc] at e2; cases e2
/-- raise C(e, ..) -/
theorem rs_raise (xc : Xc X.prog X.w X.K X.mg X.base x (Y.T.ct c) (flds c)) (hc9 : 9 ≤ c) (hr : Room 2 X.A) (hcalm : X.calm = true) (tk : Takes X fun cls d σ H => Y.Ek σ cls d H) (ha : PA X (e :: es) (trA Y al)) (hg : Gl X x := by rfl)
    (hdb : (x == ("__debug__" : Str)) = false := by decide) (he : starEach (e :: es) X.env = (false, eval e X.env) :: starEach es X.env := by rfl) (hpl : (backTo pos (starEach es X.env)).any (·.1) = false := by rfl) :
    PS X (.Raise (some (.Call (.Name x p) (e :: es) [] pos)) none pos2) (trS Y (sRaise c al)) := by
  refine PS.imp (ps_raise hcalm tk (pmk_x xc (flds_two c hc9) hr hg ha hdb he hpl)) fun Dn σ H q => ?_
  obtain ⟨g, sd, own, R, S, q⟩ := q
  exact s_bind R S q fun g1 o1 xs vs H1 R1 S1 e1 rs q1 => raise_wish R1 S1 rs q1
theorem rs_raise0 (xc : Xc X.prog X.w X.K X.mg X.base x (Y.T.ct c) (flds c)) (hc9 : 9 ≤ c) (hr : Room 2 X.A) (hcalm : X.calm = true) (tk : Takes X fun cls d σ H => Y.Ek σ cls d H) (hg : Gl X x := by rfl) (hdb : (x == ("__debug__" : Str)) = false := by decide) :
    PS X (.Raise (some (.Call (.Name x p) [] [] pos)) none pos2) (trS Y (sRaise c aNil)) := by
  refine PS.imp (ps_raise hcalm tk (pmk_x0 xc (flds_two c hc9) hr hg hdb)) fun Dn σ H q => ?_
  obtain ⟨g, sd, own, R, S, q⟩ := q
  exact raise_wish (xs := []) (Dn := Dn) R S .nil q
end
end Gx
end T_GxE2
section T_GxE3
set_option Elab.async false
set_option linter.all false
set_option maxRecDepth 100000
set_option maxHeartbeats 4000000
namespace Gx
open PySem PySem.Spec PyProof.Rows L2

/-! ## the shapes of our exceptions' __init__ -/
theorem text_room {i : Int} (h : i.natAbs.log2 < 1920) : (Str.ofString (toString i)).length ≤ 1921 := by
  have e := int_text_length_le (k := 1920) (by decide) h
  rw [PySem.ofString_length]; omega
/-- how super().__init__(..) is read -/
def SupRead (e : Expr) (p0 p1 p2 p3 : Pos) : Prop := ∀ env : Env, ∃ pl, eval (.Call (.Attribute (.Call (.Name "super" p0) [] [] p1) "__init__" p2) [e] [] p3) env = (do
      let ov ← attributeBase (.Call (.Name "super" p0) [] [] p1) "__init__" env (eval (.Call (.Name "super" p0) [] [] p1) env)
      standAt p2.atName
      let (fx, first) ← holding [ov] (getMethod ov "__init__" pl)
      callWith p3 fx first (backTo p3 (starEach [e] env)) [])
section
variable {P : Program} {w : World} {K : PySem.W.Frag} {mg : Str → Option Value} {base : Heap} {qual : Str} {scope : Scope} {C f cc cda : Addr} {fd : FuncData} {params : Arguments} {ar : Arg}
variable {p0 p1 p2 p3 p4 p5 p6 p7 p8 p9 q1 q2 q3 q4 q5 q6 r1 r2 : Pos} {j j1 j2 : Nat} {x y z : Str}
theorem init0 (SD : SupDef P K C f cc cda fd qual params [.Expr (.Call (.Attribute (.Call (.Name "super" p0) [] [] p1) "__init__" p2) [.Constant (.str x) j p5] [] p3) p4] scope) (S : SupScope ["self"] ["self"] scope)
    (hp : (params.posonlyargs ++ params.args).head? = some ar) (har : ar.arg = "self") (hm : mg "super" = none) (hc : SupRead (.Constant (.str x) j p5) p0 p1 p2 p3) : FnOk P w K mg base (L2.CX P w) 1 f fd ["self"] (spX C []) := by
  refine sup_ok (k := 0) SD S (fun vs H Q E h => ?_) (fun A outer s0 H vs Q E s hr h I => ?_)
  · obtain ⟨a, ws, rfl, hl, _⟩ := h
    rw [List.length_cons, hl]; rfl
  · obtain ⟨a, ws, rfl, hl, _, ha, h⟩ := h
    obtain rfl := List.length_eq_zero_iff.mp hl
    have hD : tNext { nx := fun _ H' => Q .non H', rt := Q } (L2.start ["self"] [V.ref a]) H := by
      rcases h with ⟨_, h⟩ | ⟨h, _⟩
      · exact h
      · exact absurd rfl h
    obtain ⟨pl, hc⟩ := hc (cxS P w K mg base ["self"] qual scope f (.ref cda) cc A outer s0 H E).env
    exact sup_body (pl := pl) (ta := fun σ H Q => tC (.str x) σ H fun v H1 => Q [v] H1) (t := tNext) (rest := []) SD S hp (by rw [har]; rfl) (by rw [har]; rfl) (pa_cons pe_str pa_nil) pss_nil I ha rfl hm ⟨(show 1 ≤ 1000 by decide), ha, hD⟩ rfl hc rfl rfl
/-- the fields' names, the rest of the body -/
theorem putS {X : Cx} {n m : Str} {i : Nat} {pa pb pc pd : Pos} (h0 : X.N[0]? = some ("self" : Str)) (hs : X.env.scope.names.lookup ("self" : Str) = some .local) (hi : X.N[i]? = some m) (hl : X.env.scope.names.lookup m = some .local) (hd : (m == ("__debug__" : Str)) = false) (hcd : (m == ("__classdict__" : Str)) = false)
    (hsw : swapsWith (.Name m pb) (some (.Attribute (.Name "self" pa) n pc)) pd.line X.env = pure false) : PS X (.Assign [.Attribute (.Name "self" pa) n pc] (.Name m pb) pd) (tOst X.K n (tVar 0) (tVar i)) :=
  ps_ost (pe_var h0 (.inl hs)) (pe_var hi (.inl hl) hd hcd) hsw
theorem empty_app (x : Str) : (Str.empty ++ x).length = x.length := by
  rw [strLen_append]
  have : Str.empty.length = 0 := rfl
  omega
theorem js_fmt {σ : St} {H : Hp} {v : V} {i : Nat} {ts : List TE} {Q : Str → Hp → Prop} (hv : σ[i]? = some (some v)) (ht : tellV v) (hx : x.length ≤ 1000) (h : ∀ acc : Str, acc.length ≤ 3000 → tJs ts acc σ H Q) : tJs (tC (.str x) :: tFn (tVar i) :: ts) Str.empty σ H Q := by
  refine ⟨x, rfl, by rw [empty_app, sizeLine_eq]; omega, ?_⟩
  have e0 := empty_app x
  cases v with
  | int k =>
    have hk := text_room ht
    refine ⟨.int k, hv, .inl ⟨k, rfl, ht, _, rfl, ?_, h _ ?_⟩⟩
    · rw [strLen_append, e0, sizeLine_eq]; omega
    · rw [strLen_append, e0]; omega
  | non =>
    have hn : ("None" : Str).length = 4 := by decide +kernel
    refine ⟨.non, hv, .inr ⟨rfl, _, rfl, ?_, h _ ?_⟩⟩
    · rw [strLen_append, e0, sizeLine_eq, hn]; omega
    · rw [strLen_append, e0, hn]; omega
  | _ => exact absurd ht (by intro z; exact z)
theorem init1 (SD : SupDef P K C f cc cda fd qual params [.Expr (.Call (.Attribute (.Call (.Name "super" p0) [] [] p1) "__init__" p2) [.JoinedStr [.Constant (.str x) j p5, .FormattedValue (.Name "index" p6) (-1) none p7, .Constant (.str y) j1 p8] p9] [] p3) p4,
      .Assign [.Attribute (.Name "self" q1) "index" q2] (.Name "index" q3) q4] scope) (S : SupScope ["self", "index"] ["self", "index"] scope)
    (hp : (params.posonlyargs ++ params.args).head? = some ar) (har : ar.arg = "self") (hm : mg "super" = none) (hx : x.length ≤ 1000) (hy : y.length ≤ 1000) (hno : PySem.W.findIn K (.ref C) "index" = some none)
    (hc : SupRead (.JoinedStr [.Constant (.str x) j p5, .FormattedValue (.Name "index" p6) (-1) none p7, .Constant (.str y) j1 p8] p9) p0 p1 p2 p3) : FnOk P w K mg base (L2.CX P w) 1 f fd ["self", "index"] (spX C ["index"]) := by
  refine sup_ok (k := 0) SD S (fun vs H Q E h => ?_) (fun A outer s0 H vs Q E s hr h I => ?_)
  · obtain ⟨a, ws, rfl, hl, _⟩ := h
    rw [List.length_cons, hl]; rfl
  · obtain ⟨a, ws, rfl, hl, ht, ha, h⟩ := h
    obtain ⟨v, rfl⟩ := List.length_eq_one_iff.mp hl
    have ht := ht v rfl
    rcases h with ⟨h, _⟩ | ⟨_, h⟩
    · cases h
    have ls : scope.names.lookup ("self" : Str) = some .local := S.par _ (by simp)
    have li : scope.names.lookup ("index" : Str) = some .local := S.par _ (by simp)
    obtain ⟨pl, hc⟩ := hc (cxS P w K mg base ["self", "index"] qual scope f (.ref cda) cc A outer s0 H E).env
    refine sup_body (pl := pl) (t := tOst K "index" (tVar 0) (tVar 1)) SD S hp (by rw [har]; rfl) (by rw [har]; rfl)
      (pa_cons (pe_joined (.cons pe_str (.cons (pe_fmtN (pe_var (i := 1) rfl (.inl li))) (.cons pe_str .nil)))) pa_nil) (pss_one (putS rfl ls rfl li (by decide) (by decide) rfl)) I ha rfl hm ?_ rfl hc rfl rfl
    have fin : tOst K "index" (tVar 0) (tVar 1) { nx := fun _ H' => Q .non H', rt := Q } (L2.start ["self", "index"] [V.ref a, v]) H :=
      ⟨v, rfl, V.ref a, rfl, a, C, rfl, SD.exc, hno, .inl ⟨ha, fun dx n1 n2 => h dx n1 n2⟩⟩
    refine js_fmt (v := v) rfl ht hx fun acc hacc => ⟨y, rfl, ?_, ?_⟩
    · rw [strLen_append, sizeLine_eq]; omega
    · exact ⟨show 1 ≤ 1000 by decide, ha, fin⟩
theorem init1e (SD : SupDef P K C f cc cda fd qual params [.Expr (.Call (.Attribute (.Call (.Name "super" p0) [] [] p1) "__init__" p2) [.JoinedStr [.Constant (.str x) j p5, .FormattedValue (.Name "index" p6) (-1) none p7] p9] [] p3) p4,
      .Assign [.Attribute (.Name "self" q1) "index" q2] (.Name "index" q3) q4] scope) (S : SupScope ["self", "index"] ["self", "index"] scope)
    (hp : (params.posonlyargs ++ params.args).head? = some ar) (har : ar.arg = "self") (hm : mg "super" = none) (hx : x.length ≤ 1000) (hno : PySem.W.findIn K (.ref C) "index" = some none)
    (hc : SupRead (.JoinedStr [.Constant (.str x) j p5, .FormattedValue (.Name "index" p6) (-1) none p7] p9) p0 p1 p2 p3) : FnOk P w K mg base (L2.CX P w) 1 f fd ["self", "index"] (spX C ["index"]) := by
  refine sup_ok (k := 0) SD S (fun vs H Q E h => ?_) (fun A outer s0 H vs Q E s hr h I => ?_)
  · obtain ⟨a, ws, rfl, hl, _⟩ := h
    rw [List.length_cons, hl]; rfl
  · obtain ⟨a, ws, rfl, hl, ht, ha, h⟩ := h
    obtain ⟨v, rfl⟩ := List.length_eq_one_iff.mp hl
    have ht := ht v rfl
    rcases h with ⟨h, _⟩ | ⟨_, h⟩
    · cases h
    have ls : scope.names.lookup ("self" : Str) = some .local := S.par _ (by simp)
    have li : scope.names.lookup ("index" : Str) = some .local := S.par _ (by simp)
    obtain ⟨pl, hc⟩ := hc (cxS P w K mg base ["self", "index"] qual scope f (.ref cda) cc A outer s0 H E).env
    refine sup_body (pl := pl) (t := tOst K "index" (tVar 0) (tVar 1)) SD S hp (by rw [har]; rfl) (by rw [har]; rfl)
      (pa_cons (pe_joined (.cons pe_str (.cons (pe_fmtN (pe_var (i := 1) rfl (.inl li))) .nil))) pa_nil) (pss_one (putS rfl ls rfl li (by decide) (by decide) rfl)) I ha rfl hm ?_ rfl hc rfl rfl
    have fin : tOst K "index" (tVar 0) (tVar 1) { nx := fun _ H' => Q .non H', rt := Q } (L2.start ["self", "index"] [V.ref a, v]) H :=
      ⟨v, rfl, V.ref a, rfl, a, C, rfl, SD.exc, hno, .inl ⟨ha, fun dx n1 n2 => h dx n1 n2⟩⟩
    exact js_fmt (v := v) rfl ht hx fun acc hacc => ⟨show 1 ≤ 1000 by decide, ha, fin⟩
/-- a dict's fields in another order -/
theorem exd_swap {d : Addr} {n m : Str} {a b : V} (h : n ≠ m) : exd d [(m, b), (n, a)] = exd d [(n, a), (m, b)] := by
  have e : ∀ f : Str, List.lookup f [(m, b), (n, a)] = List.lookup f [(n, a), (m, b)] := fun f => by
    rw [lookup_put, lookup_put, lookup_put, lookup_put]
    by_cases c1 : f = m
    · rw [if_pos c1, if_pos c1, if_neg (by rw [c1]; exact Ne.symm h)]
    · rw [if_neg c1, if_neg c1]
  unfold exd
  simp only [e]
theorem init2 (SD : SupDef P K C f cc cda fd qual params [.Expr (.Call (.Attribute (.Call (.Name "super" p0) [] [] p1) "__init__" p2) [.JoinedStr [.Constant (.str x) j p5, .FormattedValue (.Name "line" p6) (-1) none p7, .Constant (.str y) j1 p8] p9] [] p3) p4,
      .Assign [.Attribute (.Name "self" q1) "line" q2] (.Name "line" q3) q4, .Assign [.Attribute (.Name "self" q5) "word" q6] (.Name "word" r1) r2] scope) (S : SupScope ["self", "line", "word"] ["self", "line", "word"] scope)
    (hp : (params.posonlyargs ++ params.args).head? = some ar) (har : ar.arg = "self") (hm : mg "super" = none) (hx : x.length ≤ 1000) (hy : y.length ≤ 1000) (hno : PySem.W.findIn K (.ref C) "line" = some none) (hno2 : PySem.W.findIn K (.ref C) "word" = some none)
    (hc : SupRead (.JoinedStr [.Constant (.str x) j p5, .FormattedValue (.Name "line" p6) (-1) none p7, .Constant (.str y) j1 p8] p9) p0 p1 p2 p3) : FnOk P w K mg base (L2.CX P w) 1 f fd ["self", "line", "word"] (spX C ["line", "word"]) := by
  refine sup_ok (k := 0) SD S (fun vs H Q E h => ?_) (fun A outer s0 H vs Q E s hr h I => ?_)
  · obtain ⟨a, ws, rfl, hl, _⟩ := h
    rw [List.length_cons, hl]; rfl
  · obtain ⟨a, ws, rfl, hl, ht, ha, h⟩ := h
    obtain ⟨v, u, rfl⟩ : ∃ v u, ws = [v, u] := by
      match ws, hl with
      | [v, u], _ => exact ⟨v, u, rfl⟩
    have ht := ht v rfl
    rcases h with ⟨h, _⟩ | ⟨_, h⟩
    · cases h
    have ls : scope.names.lookup ("self" : Str) = some .local := S.par _ (by simp)
    have li : scope.names.lookup ("line" : Str) = some .local := S.par _ (by simp)
    have lw : scope.names.lookup ("word" : Str) = some .local := S.par _ (by simp)
    obtain ⟨pl, hc⟩ := hc (cxS P w K mg base ["self", "line", "word"] qual scope f (.ref cda) cc A outer s0 H E).env
    refine sup_body (pl := pl) (t := tSeq (tOst K "line" (tVar 0) (tVar 1)) (tOst K "word" (tVar 0) (tVar 2))) SD S hp (by rw [har]; rfl) (by rw [har]; rfl)
      (pa_cons (pe_joined (.cons pe_str (.cons (pe_fmtN (pe_var (i := 1) rfl (.inl li))) (.cons pe_str .nil)))) pa_nil) (pss_cons (putS rfl ls rfl li (by decide) (by decide) rfl) (pss_one (putS rfl ls (i := 2) rfl lw (by decide) (by decide) rfl))) I ha rfl hm ?_ rfl hc rfl rfl
    have fin : tSeq (tOst K "line" (tVar 0) (tVar 1)) (tOst K "word" (tVar 0) (tVar 2)) { nx := fun _ H' => Q .non H', rt := Q } (L2.start ["self", "line", "word"] [V.ref a, v, u]) H := by
      refine ⟨v, rfl, V.ref a, rfl, a, C, rfl, SD.exc, hno, .inl ⟨ha, fun dx n1 n2 => ?_⟩⟩
      refine ⟨u, rfl, V.ref a, rfl, a, C, rfl, SD.exc, hno2, .inr ⟨dx, [("line", v)], upd_same, by rw [upd_ne n2, upd_same], (show 1 ≤ 900 by decide), ?_⟩⟩
      have := h dx n1 n2
      have e : upd (upd (upd H dx (exd dx [("line", v)])) a (exo a C (some dx))) dx (exd dx [("word", u), ("line", v)]) = upd (upd H dx (exd dx (([("line" : Str), "word"]).zip [v, u]))) a (exo a C (some dx)) := by
        rw [exd_swap (by decide)]
        funext b
        by_cases c1 : b = dx
        · rw [c1, upd_same, upd_ne n2, upd_same]; rfl
        · rw [upd_ne c1]
          by_cases c2 : b = a
          · rw [c2, upd_same, upd_same]
          · rw [upd_ne c2, upd_ne c2, upd_ne c1, upd_ne c1]
      rw [e]; exact this
    refine js_fmt (v := v) rfl ht hx fun acc hacc => ⟨y, rfl, ?_, ?_⟩
    · rw [strLen_append, sizeLine_eq]; omega
    · exact ⟨show 1 ≤ 1000 by decide, ha, fin⟩
end
end Gx
end T_GxE3
section T_GxE4
set_option Elab.async false
set_option linter.all false
set_option maxRecDepth 100000
set_option maxHeartbeats 4000000
namespace Gx
open PySem PySem.Spec PyProof.Rows L2

/-! ## try: .. except A as e: .. except B as e: .. -/
abbrev TSx := Addr → Value → Option Addr → TS
/-- the ends behind a suite: e is gone -/
def lessE (i : Nat) (D : Ends) : Ends := { nx := fun σ' H' => D.nx (σ'.set i none) H', rt := D.rt, bk := fun σ' H' => D.bk (σ'.set i none) H', ct := fun σ' H' => D.ct (σ'.set i none) H' }
/-- what the clauses wish of an exception of the body -/
def wAll (K : PySem.W.Frag) (i : Nat) (D : Ends) (Wout : WX) : List (Value × TSx) → WX
  | [] => Wout
  | (c, ts) :: r => fun cls d σ H => ∃ b, PySem.W.exmOne K cls c = some b ∧ (b = true → ∀ a, H a = none → ts a cls d (lessE i D) (σ.set i (some (.ref a))) H) ∧ (b = false → wAll K i D Wout r cls d σ H)
/-- the clauses -/
inductive Clauses (X : Cx) (n : Str) : List ExceptHandler → List (Value × TSx) → Prop
  | nil : Clauses X n [] []
  | cons {x : Str} {c : Value} {b₀ : Stmt} {suite : List Stmt} {np pos' : Pos} {ts : TSx} {hs : List ExceptHandler} {l : List (Value × TSx)} (hc : Names X x c)
      (hsu : ∀ (a : Addr) (oe : Obj) (cls : Value) (d : Option Addr) (pn : List (Addr × Obj)), Zc cls d oe → (∃ vs, oe.data = .fields vs) → PSs (X.suite a ((a, oe) :: pn)) (b₀ :: suite) (ts a cls d)) (r : Clauses X n hs l) :
      Clauses X n (.ExceptHandler (some (.Name x np)) (some n) (b₀ :: suite) pos' :: hs) ((c, ts) :: l)
section
variable {X : Cx} {n : Str} {i : Nat} {pins : List (Addr × Obj)} {σ : St} {H : Hp} {sI s : Shared} {D : Ends} {Wout : WX} {B : Heap} {a : Addr} {cls : Value} {d : Option Addr}
theorem nameE (hc : Names X x c) {Y : Cx} {Q : Value → Shared → Prop} {E : Value → Shared → Prop} {p : List (Addr × Obj)} {np : Pos} (I : Inv (X.suite a p) [] σ H s) (q : Q c s) : wpAny (model X.prog X.w) (X.A.mark (some (.ref a))) (eval (.Name x np) X.env) Q E s := by
  rcases hc with ⟨hg, hd, hm | ⟨hm, hv, hn⟩⟩
  · exact ld_glob (X := X.suite a p) I hg hm q hd
  · exact ld_blt (X := X.suite a p) I hg hm hv q hn hd
/-- an exception in the air meets the clauses -/
theorem meets (hs : X.stack = X.env :: X.outer) (hf : X.env.frame = some X.env.locals) (hN : X.N.Nodup) (hi : X.N[i]? = some n) (hln : X.env.kindOf n = some .local) (tk : Takes X Wout) (os : s.os = sI.os) (ag : AllBare s.gens)
    (J : Inv X pins σ H sI) (na : H a = none) (nb : ∀ b o, sI.heap.get? b = some o → b ∉ frs X.stack → B.get? b = some o) :
    ∀ (h : Heap) (hl : List ExceptHandler) (l : List (Value × TSx)), Clauses X n hl l → HandSPX.FlyingZ B (X.env :: X.outer) a (Zc cls d) h → sI.heap.UpToSlots h → wAll X.K i D Wout l cls d σ H →
      wpAny (model X.prog X.w) X.A (handleBy (.ref a) X.env hl) (SP X pins D) X.xe { s with heap := h } := by
  have ok := J.ok
  intro h hl l cl
  induction cl with
  | nil =>
    intro fl up hw
    refine wpAny_handleBy_nil ?_
    obtain ⟨k1, k2, k3, oe, vs, T, oT, ts', he, hz, hd, h1, hr⟩ := id fl
    unfold PySem.passOn
    refine wpAny_bind (wpAny_field he hd h1 ?_)
    rw [if_neg (by simp)]
    have fin : wpAny (model X.prog X.w) X.A (setFlight (.ref a) X.env.frame) (fun _ s4 => wpAny (model X.prog X.w) X.A (throw (.ref a) : Sem Flow) (SP X pins D) X.xe s4) X.xe { s with heap := h } := by
      rw [hf]
      refine HandSPX.setFlight_upZ fl fun h4 hh4 up4 => wpAny_throw (tk _ _ ?_)
      exact ⟨a, B, sI, pins, σ, H, cls, d, rfl, J, nb, up.trans up4, .inr (.inr (by rw [hs]; exact hh4)), na, os, ag, hw⟩
    first
      | exact wpAny_bind (wpAny_pure (wpAny_bind fin))
      | exact wpAny_bind fin
  | @cons x c b₀ suite np pos' ts hl l hc hsu r ih =>
    intro fl up hw
    obtain ⟨b, hb1, hyes, hno⟩ := hw
    have J3 : Inv X pins σ H { s with heap := h } := J.landed nb fl.1 up os ag
    obtain ⟨oe3, vs3, he3, hz3, hd3⟩ := fl.there
    have nfr : a ∉ frs (X.env :: X.outer) := fun hm => by
      obtain ⟨_, o', e', hnf⟩ := fl.2.2.1.mem hm
      rw [he3] at e'; cases e'
      exact hnf _ hd3
    have nL : a ≠ X.env.locals := fun z => nfr (List.mem_filterMap.mpr ⟨X.env, List.mem_cons_self, by rw [hf, z]⟩)
    have nF : a ∉ X.fs := fun hm => by
      obtain ⟨e, he, q⟩ := List.mem_filterMap.mp hm
      exact nfr (List.mem_filterMap.mpr ⟨e, List.mem_cons_of_mem _ he, q⟩)
    have S3 := J3.suite he3 hd3 na nL nF
    refine wpAny_handleBy_cons (codeAny_handlers_test ?_) (by intro q; cases q)
    have LT : PySem.W.Looks (model X.prog X.w) h (typeOf (.ref a)) cls := fun A Q E s k q => wpAny_typeOf_ref (k _ _ he3) (by rw [hz3.1]; exact q)
    have LM := PySem.W.exm_one (M := model X.prog X.w) J3.kIn LT hb1
    refine nameE (Y := X) hc S3 (LM.here ?_)
    cases b with
    | false => exact ih fl up (hno rfl)
    | true =>
      refine codeAny_handlers_suite_as ?_
      refine HandSPX.lands_againZ fl fun h4 fl4 up4 => ?_
      have J4 : Inv X pins σ H { s with heap := h4 } := J.landed nb fl4.1 (up.trans up4) os ag
      obtain ⟨oe4, vs4, he4, hz4, hd4⟩ := fl4.there
      have S4 := J4.suite he4 hd4 na nL nF
      refine store_ok (X := X.suite a ((a, oe4) :: (X.pn ++ pins))) (v := .ref a) S4 hN hi (.inl hln) rfl (fun s5 S5 => ?_) (.inr hln)
      refine wpAny_mono ((hsu a oe4 cls d (X.pn ++ pins) hz4 ⟨_, hd4⟩).run [] s5 _ H _ S5 (hyes rfl a na)) (fun f s6 hsp => ?_) (fun _ _ z => False.elim z)
      have gone : ∀ {σ6 : St} {H6 : Hp} {Q : Shared → Prop}, Inv (X.suite a ((a, oe4) :: (X.pn ++ pins))) [] σ6 H6 s6 → (∀ s7, Inv X pins (σ6.set i none) H6 s7 → Q s7) →
          wpAny (model X.prog X.w) X.A (do bindName X.env n .none; unbindBehindTheSuite X.env n pos') (fun _ s7 => Q s7) X.xe s6 := fun {σ6 H6 Q} S6 hq => gone_ok (S6.unsuite ok) hN hi hln hq
      match f, hsp with
      | .next, hsp =>
        obtain ⟨σ6, H6, S6, q6⟩ := hsp
        exact gone S6 fun s7 J7 => ⟨_, _, J7, q6⟩
      | .brk, hsp =>
        obtain ⟨σ6, H6, S6, q6⟩ := hsp
        exact gone S6 fun s7 J7 => ⟨_, _, J7, q6⟩
      | .cont, hsp =>
        obtain ⟨σ6, H6, S6, q6⟩ := hsp
        exact gone S6 fun s7 J7 => ⟨_, _, J7, q6⟩
      | .ret u, hsp =>
        obtain ⟨v6, σ6, H6, S6, r6, q6⟩ := hsp
        exact gone S6 fun s7 J7 => ⟨_, _, _, J7, r6, q6⟩
/-- the statement -/
theorem ps_tries {body : List Stmt} {pos : Pos} {h₀ : ExceptHandler} {hl : List ExceptHandler} {l : List (Value × TSx)} {tb : WX → TS} (hs : X.stack = X.env :: X.outer) (hf : X.env.frame = some X.env.locals) (hN : X.N.Nodup) (hi : X.N[i]? = some n) (hln : X.env.kindOf n = some .local) (tk : Takes X Wout)
    (hb : ∀ (W : WX) (pn : List (Addr × Obj)) (xe : Value → Shared → Prop), Takes (X.tr pn xe) W → PassesOwn (model X.prog X.w) X.A X.env xe → PSs (X.tr pn xe) body (tb W)) (cl : Clauses X n (h₀ :: hl) l) :
    PS X (.Try body (h₀ :: hl) [] [] pos) (fun D σ H => tb (wAll X.K i D Wout l) D σ H) := by
  constructor
  intro pins s σ H D I h
  have ok := I.ok
  have hfr : X.A.frames = some (X.env :: X.outer) := by rw [ok.frames, hs]
  refine wpAny_Try_except ?_
  refine wpAny_mono ((hb (wAll X.K i D Wout l) (X.pn ++ pins) (fun e s₁ => wpAny (model X.prog X.w) X.A (noteFrame e X.env) (fun _ s₂ => wpAny (model X.prog X.w) X.A (setFlight e none) (fun _ s₃ =>
    wpAny (model X.prog X.w) X.A (handleBy e X.env (h₀ :: hl)) (SP X pins D) X.xe s₃) X.xe s₂) X.xe s₁) (fun u s' xx => ?_) PassesOwn.looking).run [] s σ H D (I.toTry _) h) (fun f s1 hsp => ?_) (fun e s1 he => he)
  · obtain ⟨a, B, sI, pins', σ', H', cls, d, rfl, J', nb, up, sky, na, os, ag, hw⟩ := xx
    have sky' : Sky B (X.env :: X.outer) a (Zc cls d) X.env.locals s'.heap := by rw [← hs]; exact sky
    show wpAny (model X.prog X.w) X.A (noteFrame (.ref a) X.env) _ _ _
    exact Sky.land Zc.steady hfr hf sky' fun h3 fl3 up3 => meets hs hf hN hi hln tk os ag (J'.ofTry ok) na nb h3 _ _ cl fl3 (up.trans up3) hw
  · match f, hsp with
    | .next, hsp =>
      obtain ⟨σ', H', J', q⟩ := hsp
      exact wpAny_execs_nil ⟨σ', H', J'.ofTry ok, q⟩
    | .brk, hsp =>
      obtain ⟨σ', H', J', q⟩ := hsp
      exact ⟨σ', H', J'.ofTry ok, q⟩
    | .cont, hsp =>
      obtain ⟨σ', H', J', q⟩ := hsp
      exact ⟨σ', H', J'.ofTry ok, q⟩
    | .ret u, hsp =>
      obtain ⟨v, σ', H', J', r, q⟩ := hsp
      exact ⟨v, σ', H', J'.ofTry ok, r, q⟩
end
end Gx
end T_GxE4
section T_GxE5
set_option Elab.async false
set_option linter.all false
set_option maxRecDepth 100000
set_option maxHeartbeats 4000000
namespace Gx
open PySem PySem.Spec PyProof.Rows L2

/-! ## isinstance(e, C) for an exception with a dict or without -/
section
open PySem.W PySem.Calls
variable {prog : Program} {w : World} {A : Around} {E : Value → Shared → Prop} {s : Shared} {K : PySem.W.Frag} {x D : Addr} {ox : Obj} {od : Option Obj}
/-- the data descriptor on the class comes first -/
theorem found_desc {C : Addr} {name : Str} {a g : Value} (hc : (clsIn K C).isSome = true) (ha : findIn K (.ref C) name = some (some a)) (hg : specialIn K a "__get__" = some (some g)) (ht : takesIn K a = some true) : findObj K C od name = some (.bind g a) := by
  cases e : clsIn K C with
  | none => rw [e] at hc; cases hc
  | some cd =>
    simp only [findObj, e, ha, hg, ht, Option.bind_some]
theorem ask_class {Q : Option Value → Shared → Prop} (C : ExcC K D) (X : K.In s.heap) (I : PySem.W.InstAt s.heap x ox D od) (h : Q (some (.ref D)) { s with toks := s.toks + 1 }) : wpAny (model prog w) A (getAttr? (.ref x) "__class__") Q E s :=
  PySem.W.kx_classE X I C.hg C.hk C.hs (found_desc (by obtain ⟨cd, hc, _⟩ := any_some C.hd; rw [hc]; rfl) C.ha C.hn C.ht) C.hm h
theorem kit_exc (C : ExcC K D) : KitX K (.ref x) (.ref D) (fun h => PySem.W.InstAt h x ox D od) where
  ty := fun _ _ _ I => I.type
  it := fun _ _ X _ => by
    obtain ⟨cd, hc, _⟩ := any_some C.hd
    unfold clsIn at hc
    split at hc
    · rename_i c' d' cd' sl' ho
      intro A' Q' E' s' k q
      unfold isType loadHead
      exact wpAny_bind (wpAny_loadPart (k _ _ (X _ _ ho)) (wpAny_pure q))
    · cases hc
  ne := fun h tp dd its n sl X htp => by
    obtain ⟨cd, hc, _⟩ := any_some C.hd
    by_cases e : D = tp
    · subst e
      unfold clsIn at hc
      split at hc
      · rename_i c' d' cd' sl' ho
        have z := (X _ _ ho).symm.trans htp
        cases z
      · cases hc
    · simp [e]
  ca := fun X I k => ask_class C X I k
end
/-- isinstance(e, c), e the exception that the suite holds -/
def rIsX (K : PySem.W.Frag) (cls : Value) (d : Option Addr) (a : Addr) : List V → Hp → VK → Prop := fun xs H Q => ∃ (D : Addr) (c : V) (cv : Value) (b : Bool), cls = .ref D ∧ ExcC K D ∧ xs = [.ref a, c] ∧ (∀ u, RelV c u → u = cv) ∧ PySem.W.kitOne K (.ref D) cv = some b ∧
  (∀ dd, d = some dd → ∃ fs, H dd = some (.xd fs)) ∧ Q (.bl b) H
theorem call_isX {X : Cx} {a : Addr} {cls : Value} {d : Option Addr} {oe : Obj} {pn : List (Addr × Obj)} (hz : Zc cls d oe) (hf : ∃ vs, oe.data = .fields vs) : CallR (X.suite a ((a, oe) :: pn)) (.builtin "isinstance") (rIsX X.K cls d a) := by
  intro pins s σ H xs us Q I r h
  obtain ⟨D, c, cv, b, rfl, C, rfl, hcv, e, hd, q⟩ := h
  cases r with
  | cons rx rr =>
    cases rr with
    | cons rt rr =>
      cases rr
      cases rx
      obtain rfl := hcv _ rt
      obtain ⟨hget, _⟩ := I.pin (a, oe) (List.mem_append.mpr (.inl List.mem_cons_self))
      obtain ⟨vs, hv⟩ := hf
      obtain ⟨od, J⟩ : ∃ od, PySem.W.InstAt s.heap a oe D od := by
        obtain ⟨oc, odd, oda, osl⟩ := oe
        obtain ⟨h1, h2⟩ := hz
        dsimp only at h1 h2 hv
        subst h1 h2 hv
        cases odd with
        | none => exact ⟨none, hget, rfl, rfl, trivial⟩
        | some dd =>
          obtain ⟨fs, hdd⟩ := hd dd rfl
          have hx : ObjOk X.prog X.w H s.heap dd (.xd fs) := I.hok dd _ hdd
          obtain ⟨mA, hns, hr⟩ := hx
          obtain ⟨od, ho, hl⟩ := lookIn_ns hns
          exact ⟨some od, hget, rfl, rfl, ho⟩
      exact PySem.W.kia_one (kit_exc C) I.kIn J e (fun z => nomatch z) fun tk => ⟨.bl b, H, I.kept (t' := tk) fun _ _ z => z, rfl, q⟩

/-! ## readings in a suite -/
/-- the exception that is held: its slot, its address, its class, its fields -/
structure Held where
  i : Nat
  a : Addr
  c : Nat
  fs : List D
  d : Option Addr
def HeldAt (T : Tb) (g : Gh) (H : Hp) (σ : L2.St) (e : Held) : Prop := σ[e.i]? = some (some (.ref e.a)) ∧ XD T g H e.d e.c e.fs
section
variable {α β γ δ : Type}
def trX (Y : Cy) (e : Held) (rel : Gh → Nat → α → β → Prop) (f : M α) : L2.St → Hp → (β → Hp → Prop) → Prop := fun σ H Q =>
  ∃ g sd own, HRel Y.T Y.B g own H ∧ SRel Y.T g own.length sd σ ∧ HeldAt Y.T g H σ e ∧ At Y rel g sd own σ Q f
theorem XD.ext {T : Tb} {B : Hp} {g g1 : Gh} {n n1 : Nat} {H H1 : Hp} {d : Option Addr} {c : Nat} {fs : List D} (e : GExt B g n g1 n1) (h : XD T g H d c fs) : XD T g1 H1 d c fs := by
  rcases h with h | ⟨a, ws, h1, h2, h3⟩
  · exact .inl h
  · exact .inr ⟨a, ws, h1, e.F _ _ h2, h3.le e.F⟩
theorem HeldAt.ext {T : Tb} {B : Hp} {g g1 : Gh} {n n1 : Nat} {H H1 : Hp} {σ : L2.St} {e : Held} (x : GExt B g n g1 n1) (h : HeldAt T g H σ e) : HeldAt T g1 H1 σ e := ⟨h.1, h.2.ext x⟩
section
variable {Y : Cy} {relA : Gh → Nat → α → β → Prop} {relC : Gh → Nat → γ → δ → Prop} {g g1 : Gh} {n n1 : Nat} {σ : L2.St} {own : Own} {sd : Sl} {H : Hp} {e : Held}
theorem atx_bind {f : M α} {k : α → M γ} {Q : δ → Hp → Prop} {Q1 : β → Hp → Prop} (R1 : HRel Y.T Y.B g own H) (S1 : SRel Y.T g own.length sd σ) (x1 : HeldAt Y.T g H σ e) (h : At Y relC g sd own σ Q (f.bind k))
    (c : ∀ g1 o1 x v H1, HRel Y.T Y.B g1 o1 H1 → SRel Y.T g1 o1.length sd σ → HeldAt Y.T g1 H1 σ e → GExt Y.B g own.length g1 o1.length → relA g1 o1.length x v → At Y relC g1 sd o1 σ Q (k x) → Q1 v H1) : trX Y e relA f σ H Q1 := by
  obtain ⟨g', sd', own', R', S', q⟩ := at_bind (relA := relA) R1 S1 h fun g1 o1 x v H1 r s ex rx q1 => c g1 o1 x v H1 r s (x1.ext ex) ex rx q1
  obtain ⟨r, own2, e2, q2⟩ := h
  refine ⟨g, sd, own, R1, S1, x1, ?_⟩
  unfold M.bind at e2
  cases ef : f sd own with
  | none => rw [ef] at e2; cases e2
  | some p =>
    obtain ⟨r0, o1⟩ := p
    rw [ef] at e2
    cases r0 with
    | ok x => exact ⟨.ok x, o1, ef, fun g' v H' R' x' rx => c g' o1 x v H' R' (S1.ext x') (x1.ext x') x' rx ⟨r, own2, e2, q2.shift x'⟩⟩
    | ex k fs =>
      cases e2
      exact ⟨.ex k fs, _, ef, q2⟩
end
end
section
variable {X : Cx} {Y : Cy} {pos : Pos} {a b c : Expr} {f g : EM} {t : TM} {ε : Held} {es : List Expr} {al : AM}
theorem trX.drop {α β : Type} {rel : Gh → Nat → α → β → Prop} {f : M α} {σ : L2.St} {H : Hp} {Q : β → Hp → Prop} (h : trX Y ε rel f σ H Q) : trM Y rel f σ H Q := by
  obtain ⟨g, sd, own, R, S, _, q⟩ := h
  exact ⟨g, sd, own, R, S, q⟩
theorem x_of (h : PE X a (trE Y f)) : PE X a (trX Y ε (RS Y.T) f) := PE.imp h fun _ _ _ q => q.drop
theorem x_if (hc : PT X c (trX Y ε relB t)) (ha : PE X a (trX Y ε (RS Y.T) f)) (hb : PE X b (trX Y ε (RS Y.T) g)) : PE X (.IfExp c a b pos) (trX Y ε (RS Y.T) (eIf t f g)) := by
  refine PE.imp (pe_ifExp hc ha hb) fun σ H Q q => ?_
  obtain ⟨gh, sd, own, R, S, x0, q⟩ := q
  refine atx_bind R S x0 q fun g1 o1 x v H1 R1 S1 x1 e1 rx q1 => ?_
  obtain rfl : x = v := rx
  cases x with
  | true => rw [if_pos rfl]; exact ⟨g1, sd, o1, R1, S1, x1, q1⟩
  | false => rw [if_neg (by decide)]; exact ⟨g1, sd, o1, R1, S1, x1, q1⟩
theorem x_val (h : PE X a (trX Y ε (RS Y.T) f)) (he : ∀ whole, isTrue a X.env whole = (do let v ← whole; standAt a.pos; holding [v] (truthy v)) := by intro _; rfl) : PT X a (trX Y ε relB (tE f)) := by
  refine PT.imp (pt_val h he) fun σ H Q q => ?_
  obtain ⟨gh, sd, own, R, S, x0, q⟩ := q
  refine atx_bind R S x0 q fun g1 o1 x v H1 R1 S1 x1 e1 rx q1 => ?_
  match x, rx, q1 with
  | .d (.bl k), rx, q1 =>
    have rx : Rep Y.T g1.F (.bl k) v := rx
    cases rx
    exact ⟨k, rfl, at_ret q1 g1 k H1 R1 .rfl' rfl⟩
  | .h k, rx, q1 => exact (at_fail q1).elim
  | .d .non, rx, q1 => exact (at_fail q1).elim
  | .d (.int _), rx, q1 => exact (at_fail q1).elim
  | .d (.str _), rx, q1 => exact (at_fail q1).elim
  | .d (.ty _), rx, q1 => exact (at_fail q1).elim
  | .d (.cls _), rx, q1 => exact (at_fail q1).elim
  | .d (.tup _), rx, q1 => exact (at_fail q1).elim
  | .d (.lst _), rx, q1 => exact (at_fail q1).elim
  | .d (.dic _ _), rx, q1 => exact (at_fail q1).elim
  | .d (.obj _ _), rx, q1 => exact (at_fail q1).elim
theorem xa_nil : PA X [] (trX Y ε (RSs Y.T) aNil) := PA.imp ra_nil fun _ _ _ q => q.drop
theorem xa_cons (ha : PE X a (trX Y ε (RS Y.T) f)) (hr : PA X es (trX Y ε (RSs Y.T) al)) (hs : starEach (a :: es) X.env = (false, eval a X.env) :: starEach es X.env := by rfl) : PA X (a :: es) (trX Y ε (RSs Y.T) (aCons f al)) := by
  refine PA.imp (pa_cons ha hr hs) fun σ H Q q => ?_
  obtain ⟨gh, sd, own, R, S, x0, q⟩ := q
  refine atx_bind R S x0 q fun g1 o1 x v H1 R1 S1 x1 e1 rx q1 => ?_
  refine atx_bind R1 S1 x1 q1 fun g2 o2 xs vs H2 R2 S2 x2 e2 rs q2 => ?_
  exact at_ret q2 g2 _ H2 R2 .rfl' (.cons (rx.ext e2) rs)
theorem x_lst (ha : PA X es (trX Y ε (RSs Y.T) al)) : PE X (.List es pos) (trX Y ε (RS Y.T) (eLst al)) := by
  refine PE.imp (pe_lst ha) fun σ H Q q => ?_
  obtain ⟨gh, sd, own, R, S, x0, q⟩ := q
  refine atx_bind R S x0 q fun g1 o1 xs vs H1 R1 S1 x1 e1 rs q1 => ?_
  obtain ⟨s, es, q2⟩ := at_ask q1
  obtain ⟨ds, ed, e3⟩ := Option.bind_eq_some_iff.mp es
  have rd := dats_rel rs ed
  by_cases hl : ds.length ≤ sizeLine
  · rw [if_pos hl] at e3
    cases e3
    refine ⟨by rw [← rd.length]; exact hl, fun p hp => ?_⟩
    obtain ⟨R2, e2⟩ := R1.new hp (.lst vs)
    exact q2 _ _ _ R2 e2 (Rep.lst upd_same (rd.le e2.F))
  · rw [if_neg hl] at e3; cases e3
theorem x_add (om : O2 Y r m) (ho : OpR X (binaryOp .Add) r) (ha : PE X a (trX Y ε (RS Y.T) f)) (hb : PE X b (trX Y ε (RS Y.T) g)) : PE X (.BinOp a .Add b pos) (trX Y ε (RS Y.T) (eB m f g)) := by
  refine PE.imp (pe_op ho ha hb) fun σ H Q q => ?_
  obtain ⟨gh, sd, own, R, S, x0, q⟩ := q
  refine atx_bind R S x0 q fun g1 o1 x v H1 R1 S1 x1 e1 rx q1 => ?_
  refine atx_bind R1 S1 x1 q1 fun g2 o2 y w H2 R2 S2 x2 e2 ry q2 => ?_
  obtain ⟨s, es, k⟩ := at_ask q2
  obtain ⟨z, ez, e3⟩ := Option.map_eq_some_iff.mp es
  subst e3
  exact om g2 o2 H2 x y v w z _ R2 (rx.ext e2) ry ez fun g3 u H3 R3 e3 rz => k g3 u H3 R3 e3 rz
end
end Gx
end T_GxE5
section T_GxE6
set_option Elab.async false
set_option linter.all false
set_option maxRecDepth 100000
set_option maxHeartbeats 4000000
namespace Gx
open PySem PySem.Spec PyProof.Rows L2

/-- the subclasses among our exceptions -/
def excSub (c c' : Nat) : Bool := c == c' || c' == 9
def xIs (L : List Nat) (bf : Nat → Bool) (ε : Held) : EM := if ε.c ∈ L then M.ret (.d (.bl (bf ε.c))) else M.fail
def xFld (c0 j : Nat) (ε : Held) : EM := if ε.c = c0 then M.ask fun _ => (ε.fs[j]?).map SV.d else M.fail
section
variable {X : Cx} {Y : Cy} {pos p p1 p2 : Pos} {ε : Held} {oe : Obj} {pn : List (Addr × Obj)} {en n : Str}
theorem x_is {L : List Nat} {bf : Nat → Bool} {cv : Value} {cV : V} {ce : Expr} (hz : Zc (.ref (Y.T.ct ε.c)) ε.d oe) (hf : ∃ vs, oe.data = .fields vs) (hE : ∀ c ∈ L, ExcC X.K (Y.T.ct c)) (hK : ∀ c ∈ L, PySem.W.kitOne X.K (.ref (Y.T.ct c)) cv = some (bf c))
    (hcv : ∀ u, RelV cV u → u = cv) (hb : X.mg "isinstance" = none) (hg : Gl X "isinstance") (hN : X.N[ε.i]? = some en) (hv : Vis X.env.scope en) (hce : PE (X.suite ε.a ((ε.a, oe) :: pn)) ce (tC cV)) (hd : (en == ("__debug__" : Str)) = false := by decide) (hcd : (en == ("__classdict__" : Str)) = false := by decide)
    (he : starEach [.Name en p, ce] X.env = (false, eval (.Name en p) X.env) :: starEach [ce] X.env := by rfl) (he2 : starEach [ce] X.env = (false, eval ce X.env) :: starEach [] X.env := by rfl) (hpl : (backTo pos (starEach [ce] X.env)).any (·.1) = false := by rfl) :
    PE (X.suite ε.a ((ε.a, oe) :: pn)) (.Call (.Name "isinstance" p1) [.Name en p, ce] [] pos) (trX Y ε (RS Y.T) (xIs L bf ε)) := by
  refine PE.imp (pe_callB (call_isX hz hf) hg hb PyProof.Rows.Boot.isinstance (pa_cons (pe_var hN hv hd hcd) (pa_cons hce pa_nil he2) he) (by decide) (by decide) he hpl) fun σ H Q q => ?_
  obtain ⟨gh, sd, own, R, S, ⟨hs, xd⟩, q⟩ := q
  unfold xIs at q
  by_cases hL : ε.c ∈ L
  · rw [if_pos hL] at q
    have k := at_ret q
    refine ⟨.ref ε.a, hs, Y.T.ct ε.c, cV, cv, bf ε.c, rfl, hE _ hL, rfl, hcv, hK _ hL, fun dd hdd => ?_, k gh _ H R .rfl' (Rep.bl _)⟩
    rcases xd with ⟨_, z⟩ | ⟨a, ws, z, h2, _⟩
    · rw [z] at hdd; cases hdd
    · rw [z] at hdd; cases hdd
      exact ⟨_, R.f _ _ h2⟩
  · rw [if_neg hL] at q; exact (at_fail q).elim
theorem x_fld {c0 j : Nat} (hz : Zc (.ref (Y.T.ct ε.c)) ε.d oe) (hf : ∃ vs, oe.data = .fields vs) (T : XfC X.K (Y.T.ct c0)) (hno : PySem.W.findIn X.K (.ref (Y.T.ct c0)) n = some none) (hn : (flds c0)[j]? = some n) (hN : X.N[ε.i]? = some en) (hv : Vis X.env.scope en)
    (hd : (en == ("__debug__" : Str)) = false := by decide) (hcd : (en == ("__classdict__" : Str)) = false := by decide) (hb : attributeBase (.Name en p) n X.env (eval (.Name en p) X.env) = eval (.Name en p) X.env := by rfl) :
    PE (X.suite ε.a ((ε.a, oe) :: pn)) (.Attribute (.Name en p) n pos) (trX Y ε (RS Y.T) (xFld c0 j ε)) := by
  refine PE.imp (pe_xf T hno hz hf (pe_var hN hv hd hcd) hb) fun σ H Q q => ?_
  obtain ⟨gh, sd, own, R, S, ⟨hs, xd⟩, q⟩ := q
  unfold xFld at q
  by_cases hc : ε.c = c0
  · rw [if_pos hc] at q
    obtain ⟨s, es, k⟩ := at_ask q
    obtain ⟨d, e2, e3⟩ := Option.map_eq_some_iff.mp es
    subst e3
    rcases xd with ⟨z, _⟩ | ⟨a, ws, z, h2, h3⟩
    · rw [z] at e2; cases e2
    · obtain ⟨v, e4, r4⟩ := h3.get e2
      refine ⟨.ref ε.a, hs, rfl, by rw [hc], a, _, v, z, R.f _ _ h2, ?_, k gh v H R .rfl' r4⟩
      rw [hc]
      exact zip_look (flds_nd _) hn e4
  · rw [if_neg hc] at q; exact (at_fail q).elim
/-- a suite's reading -/
def trXS (Y : Cy) (ε : Held) (f : SM) : TS := fun D σ H => ∃ g sd own, HRel Y.T Y.B g own H ∧ SRel Y.T g own.length sd σ ∧ HeldAt Y.T g H σ ε ∧ SAt Y g sd own D f
theorem trXS.drop {f : SM} {D : Ends} {σ : L2.St} {H : Hp} (h : trXS Y ε f D σ H) : trS Y f D σ H := by
  obtain ⟨g, sd, own, R, S, _, q⟩ := h
  exact ⟨g, sd, own, R, S, q⟩
theorem sx_bind {α β : Type} {relA : Gh → Nat → α → β → Prop} {g : Gh} {sd : Sl} {own : Own} {σ : L2.St} {H : Hp} {f : M α} {k : α → SM} {Dn : Ends} {Q1 : β → Hp → Prop} (R1 : HRel Y.T Y.B g own H) (S1 : SRel Y.T g own.length sd σ) (x1 : HeldAt Y.T g H σ ε) (h : SAt Y g sd own Dn (SM.bind f k))
    (c : ∀ g1 o1 x v H1, HRel Y.T Y.B g1 o1 H1 → SRel Y.T g1 o1.length sd σ → GExt Y.B g own.length g1 o1.length → relA g1 o1.length x v → SAt Y g1 sd o1 Dn (k x) → Q1 v H1) : trX Y ε relA f σ H Q1 := by
  obtain ⟨r, e, q⟩ := h
  refine ⟨g, sd, own, R1, S1, x1, ?_⟩
  unfold SM.bind at e
  cases ef : f sd own with
  | none => rw [ef] at e; cases e
  | some p =>
    obtain ⟨r0, o1⟩ := p
    rw [ef] at e
    cases r0 with
    | ok x => exact ⟨.ok x, o1, ef, fun g' v H' R' x' rx => c g' o1 x v H' R' (S1.ext x') x' rx ⟨r, e, q.shift x'⟩⟩
    | ex k fs =>
      cases e
      exact ⟨.ex k fs, o1, ef, fun g' d H' R' e' x => q g' σ d H' R' (S1.ext e') e' x⟩
theorem xs_set {i : Nat} {x : Str} {pos' : Pos} {a : Expr} {f : EM} (hN : X.N.Nodup) (h : PE X a (trX Y ε (RS Y.T) f)) (hi : X.N[i]? = some x := by rfl) (hx : Loc X.env.scope x := by first | exact Or.inl rfl | exact Or.inr rfl) (hs : swapsWith a (some (.Name x pos')) pos.line X.env = pure false := by rfl)
    (hf : X.fn x = true ∨ X.env.scope.names.lookup x = some .local := by first | exact .inl rfl | exact .inr rfl) : PS X (.Assign [.Name x pos'] a pos) (trXS Y ε (sSet i f)) := PS.imp (ps_set hN hi hx h hs hf) fun D σ H q => by
  obtain ⟨gh, sd, own, R, S, x0, q⟩ := q
  refine sx_bind R S x0 q fun g1 o1 x v H1 R1 S1 e1 rx q1 => ?_
  exact sat_nx q1 rfl g1 _ H1 R1 (S1.set rx) .rfl'
end

/-! ## the try statement -/
abbrev XSt := Nat → List D → SM
/-- behind a suite -/
def aft (i : Nat) : Option Fl → Option Fl
  | some (.nx sd o) => some (.nx (sd.set i none) o)
  | some (.bk sd o) => some (.bk (sd.set i none) o)
  | some (.ct sd o) => some (.ct (sd.set i none) o)
  | some (.rt s o) => some (.rt s o)
  | _ => none
def hndl (i : Nat) : List ((Nat → Bool) × XSt) → Nat → List D → SM
  | [], c, fs => fun sd own => some (.ex c fs sd own)
  | h :: r, c, fs => if h.1 c then fun sd own => if i < sd.length then aft i (h.2 c fs (sd.set i none) own) else none else hndl i r c fs
def sTry (L : List Nat) (i : Nat) (body : SM) (hs : List ((Nat → Bool) × XSt)) : SM := fun sd own => match body sd own with
  | some (.ex c fs sd' own') => if c ∈ L then hndl i hs c fs sd' own' else none
  | r => r
/-- the clauses with their readings -/
inductive HX (X : Cx) (Y : Cy) (n : Str) (i : Nat) (L : List Nat) : List ExceptHandler → List ((Nat → Bool) × XSt) → Prop
  | nil : HX X Y n i L [] []
  | cons {x : Str} {cv : Value} {bf : Nat → Bool} {st : XSt} {b₀ : Stmt} {suite : List Stmt} {np pos' : Pos} {hs : List ExceptHandler} {l : List ((Nat → Bool) × XSt)} (hc : Names X x cv) (hM : ∀ c ∈ L, PySem.W.exmOne X.K (.ref (Y.T.ct c)) cv = some (bf c))
      (hsu : ∀ (a : Addr) (oe : Obj) (c : Nat) (fs : List D) (d : Option Addr) (pn : List (Addr × Obj)), Zc (.ref (Y.T.ct c)) d oe → (∃ vs, oe.data = .fields vs) → PSs (X.suite a ((a, oe) :: pn)) (b₀ :: suite) (trXS Y ⟨i, a, c, fs, d⟩ (st c fs))) (r : HX X Y n i L hs l) :
      HX X Y n i L (.ExceptHandler (some (.Name x np)) (some n) (b₀ :: suite) pos' :: hs) ((bf, st) :: l)
def WY (Y : Cy) : WX := fun cls d σ H => Y.Ek σ cls d H
section
variable {X : Cx} {Y : Cy} {n : Str} {i : Nat} {L : List Nat}
theorem fok_less {g : Gh} {m : Nat} {Dn : Ends} {r r2 : Fl} (ha : aft i (some r) = some r2) (h : FOk Y g m Dn r2) : FOk Y g m (lessE i Dn) r := by
  cases r with
  | nx sd o => cases ha; exact fun g' σ' H' R' S' e' => h g' _ H' R' S'.unset e'
  | bk sd o => cases ha; exact fun g' σ' H' R' S' e' => h g' _ H' R' S'.unset e'
  | ct sd o => cases ha; exact fun g' σ' H' R' S' e' => h g' _ H' R' S'.unset e'
  | rt s o => cases ha; exact h
  | ex k fs sd o => cases ha
theorem hx_wish {hs : List ExceptHandler} {sem : List ((Nat → Bool) × XSt)} (h : HX X Y n i L hs sem) : ∃ l, Clauses X n hs l ∧ ∀ (g : Gh) (sd : Sl) (own : Own) (σ : L2.St) (d : Option Addr) (c : Nat) (fs : List D) (Dn : Ends) (H : Hp),
    HRel Y.T Y.B g own H → SRel Y.T g own.length sd σ → XD Y.T g H d c fs → c ∈ L → SAt Y g sd own Dn (hndl i sem c fs) → wAll X.K i Dn (WY Y) l (.ref (Y.T.ct c)) d σ H := by
  induction h with
  | nil => exact ⟨[], .nil, fun g sd own σ d c fs Dn H R S x hL q => by
      obtain ⟨r, e, k⟩ := q
      cases e
      exact k g σ d H R S .rfl' x⟩
  | @cons x cv bf st b₀ suite np pos' hs l hc hM hsu r ih =>
    obtain ⟨l2, cl, hw⟩ := ih
    refine ⟨(cv, fun a cls d Dn σ H => ∃ c fs, cls = .ref (Y.T.ct c) ∧ trXS Y ⟨i, a, c, fs, d⟩ (st c fs) Dn σ H) :: l2, .cons hc (fun a oe cls d pn hz hf => ⟨fun pins s σ H Dn I q => ?_⟩) cl, fun g sd own σ d c fs Dn H R S x hL q => ?_⟩
    · obtain ⟨c, fs, rfl, q⟩ := q
      exact (hsu a oe c fs d pn hz hf).run pins s σ H Dn I q
    · refine ⟨bf c, hM c hL, fun hb a ha => ?_, fun hb => ?_⟩
      · obtain ⟨r, e, k⟩ := q
        rw [show hndl i ((bf, st) :: l) c fs sd own = (if i < sd.length then aft i (st c fs (sd.set i none) own) else none) from by unfold hndl; rw [if_pos hb]] at e
        by_cases hi : i < sd.length
        · rw [if_pos hi] at e
          cases er : st c fs (sd.set i none) own with
          | none => rw [er] at e; cases e
          | some r1 =>
            rw [er] at e
            refine ⟨c, fs, rfl, g, sd.set i none, own, R, S.unset, ⟨?_, x⟩, r1, er, fok_less e k⟩
            rw [List.getElem?_set_self (by rw [S.1]; exact hi)]
        · rw [if_neg hi] at e; cases e
      · refine hw g sd own σ d c fs Dn H R S x hL ?_
        obtain ⟨r, e, k⟩ := q
        rw [show hndl i ((bf, st) :: l) c fs sd own = hndl i l c fs sd own from by
          show (if bf c = true then _ else hndl i l c fs : SM) sd own = _
          rw [if_neg (by rw [hb]; decide)]] at e
        exact ⟨r, e, k⟩
/-- try: body / except .. as n: suite / .. -/
theorem rs_try {body : List Stmt} {pos : Pos} {h₀ : ExceptHandler} {hl : List ExceptHandler} {sem : List ((Nat → Bool) × XSt)} {fb : SM} (hs : X.stack = X.env :: X.outer) (hf : X.env.frame = some X.env.locals) (hN : X.N.Nodup) (tk : Takes X (WY Y))
    (hb : ∀ (Ek : L2.St → XK) (pn : List (Addr × Obj)) (xe : Value → Shared → Prop), Takes (X.tr pn xe) (WY ⟨Y.T, Y.B, Ek⟩) → PassesOwn (model X.prog X.w) X.A X.env xe → PSs (X.tr pn xe) body (trS ⟨Y.T, Y.B, Ek⟩ fb)) (hx : HX X Y n i L (h₀ :: hl) sem)
    (hi : X.N[i]? = some n := by rfl) (hln : X.env.kindOf n = some .local := by rfl) : PS X (.Try body (h₀ :: hl) [] [] pos) (trS Y (sTry L i fb sem)) := by
  obtain ⟨l, cl, hw⟩ := hx_wish hx
  refine PS.imp (ps_tries (tb := fun W => trS ⟨Y.T, Y.B, fun σ cls d H => W cls d σ H⟩ fb) hs hf hN hi hln tk (fun W pn xe t p => hb _ pn xe t p) cl) fun D σ H q => ?_
  obtain ⟨g, sd, own, R, S, r, e, k⟩ := q
  unfold sTry at e
  cases eb : fb sd own with
  | none => rw [eb] at e; cases e
  | some r0 =>
    rw [eb] at e
    refine ⟨g, sd, own, R, S, r0, eb, ?_⟩
    cases r0 with
    | ex c fs sd2 o2 =>
      have e : (if c ∈ L then hndl i sem c fs sd2 o2 else none) = some r := e
      by_cases hL : c ∈ L
      · rw [if_pos hL] at e
        exact fun g' σ' d H' R' S' e' x => hw g' sd2 o2 σ' d c fs D H' R' S' x hL ⟨r, e, k.shift e'⟩
      · rw [if_neg hL] at e; cases e
    | nx sd2 o2 => cases e; exact k
    | rt s o2 => cases e; exact k
    | bk sd2 o2 => cases e; exact k
    | ct sd2 o2 => cases e; exact k
theorem cx_tr {K : PySem.W.Frag} (tk : Takes X (WY Y)) (hK : X.K = Y.T.K) : CxOk X Y := ⟨hK, fun σ => passAt tk σ⟩
end
end Gx
end T_GxE6
section T_GxN1
set_option Elab.async false
set_option linter.all false
set_option maxRecDepth 100000
set_option maxHeartbeats 4000000
namespace Gx
open PySem PySem.Spec PyProof.Rows L2
open AutoSeq1 (wpAny_loadPart')

/-! ## enumerate(v): v a tuple or a list -/
theorem enum_new1 {v : Value} {o : Obj} {Hh : Heap → Prop} (B : Begins v o Hh) :
    Meets (Builtin.«enumerate.__new__» ⟨[.type "enumerate", v], []⟩) (fun _ R s => Hh s.heap ∧
      R (.ok (.ret (.ref (s.heap.push o).objs.size))) { s with heap := (s.heap.push o).push { cls := .type "enumerate", data := .fields #[.none, .bool false, .ref s.heap.objs.size, rawInt 0, .none, .none] } }) :=
  .of_wp fun prog w A R s h => by
    obtain ⟨hp, g, d, tk, os⟩ := s; obtain ⟨h1, h⟩ := h
    have hsub := sub_enumerate
    have q1 : ∀ {A' : Around} {E : Value → Shared → Prop} {Q : Value → Shared → Prop}, Q (.ref hp.objs.size) ⟨hp.push o, g, d, tk, os⟩ → wpAny (model prog w) A' (pyIter v) Q E ⟨hp, g, d, tk, os⟩ :=
      fun {A' E Q} q => B.iter prog w A' E ⟨hp, g, d, tk, os⟩ Q h1 q
    wp_walk
    refine wpAny_stack_any fun st => wpAny_pure ?_
    split
    · rename_i c _ _ _ _ _
      cases (c == Value.type "enumerate")
      · wp_walk using q1
        exact ⟨_, rfl, h⟩
      · wp_walk using q1
        exact ⟨_, rfl, h⟩
    · wp_walk using q1
      exact ⟨_, rfl, h⟩
theorem enum_of {prog : Program} {w : World} {A : Around} {E : Value → Shared → Prop} {s : Shared} {v : Value} {o : Obj} {Hh : Heap → Prop} {Q : Value → Shared → Prop} (B : Begins v o Hh) (h1 : Hh s.heap)
    (h : ∀ h', IsEnum h' (s.heap.objs.size + 1) s.heap.objs.size 0 .none → h'.get? s.heap.objs.size = some o → h'.objs.size = s.heap.objs.size + 2 → (∀ b o, s.heap.get? b = some o → h'.get? b = some o) → Q (.ref (s.heap.objs.size + 1)) { s with heap := h' }) :
    wpAny (model prog w) A (call (.type "enumerate") [v]) Q E s := by
  refine callType_new F.called_enumerate (by decide) (F.typeCall_enumerate_1 _) (F.newCall_enumerate_1 _) (fun obj => F.args_object_init_2 obj _) F.entry_enumerate_new (enum_new1 B) ⟨h1, ?_⟩
  have hz : (s.heap.push o).objs.size = s.heap.objs.size + 1 := Heap.size_push ..
  show _ ∧ _
  rw [hz]
  have e2 := Heap.get?_push_at (h := s.heap.push o) (o := { cls := .type "enumerate", data := .fields #[.none, .bool false, .ref s.heap.objs.size, rawInt 0, .none, .none] }) rfl rfl
  rw [hz] at e2
  refine ⟨⟨_, e2, rfl⟩, ?_⟩
  refine h _ e2 (Heap.get?_push_of_some _ (Heap.get?_push_size _ B.free)) (by rw [Heap.size_push, hz]) fun b o q => Heap.get?_push_of_some _ (Heap.get?_push_of_some _ q)
/-- the tuple at a, each item in a new pair -/
def Itf (K : PySem.W.Frag) (a : Addr) : It :=
  ⟨fun i H => ∃ (xs : List V) (x : V), SqT K H a xs ∧ xs[i]? = some x, fun i H v H' => ∃ T x, v = .ref T ∧ H T = none ∧ H' = upd H T (.tup [.int (i : Nat), x]) ∧ ∀ xs, SqT K H a xs → xs[i]? = some x, fun i H => ∃ xs : List V, SqT K H a xs ∧ xs.length ≤ i⟩
theorem turn_enumT {P : Program} {w : World} {K : PySem.W.Frag} {elts : List Expr} {kk : Nat} {tpos : Pos} (a e it : Addr) (hae : a ≠ e) (hai : a ≠ it) :
    Turn P w K (.Tuple elts kk tpos) (Itf K a) [e, it] e (fun i h => (∃ old, IsEnum h e it ((i : Nat) : Int) old) ∧ h.IsTupleIter it a i ∧ e ≠ it) where
  mem := by simp
  obj := by
    rintro i h ⟨⟨old, he⟩, ⟨o, ho, hc, hd⟩, _⟩ b hb
    rcases List.mem_cons.mp hb with rfl | hb
    · exact ⟨_, he, fun v q => nomatch q⟩
    · obtain rfl := List.mem_singleton.mp hb
      exact ⟨o, ho, fun v q => by rw [hd] at q; cases q⟩
  keep := by
    rintro i h h' ⟨⟨old, he⟩, hi, hne⟩ k
    exact ⟨⟨old, k e (by simp) _ he⟩, hi.at fun o q => k it (by simp) o q, hne⟩
  item := by
    intro X hP hw hK hc i pins s σ H E I hf st hg
    subst hP hw hK
    obtain ⟨⟨old, he⟩, hit, hne⟩ := st
    obtain ⟨xs, x, hq, hx⟩ := hg
    obtain ⟨its, rv, p, hz⟩ := I.tuple hq
    obtain ⟨u, hu, ru⟩ := rv.get hx
    have hel : e < s.heap.objs.size := Heap.lt_size he
    have hil : it < s.heap.objs.size := by obtain ⟨_, q, _⟩ := hit; exact Heap.lt_size q
    have hi : i < its.toArray.size := by
      have := (List.getElem?_eq_some_iff.mp hu).1
      simpa using this
    refine wpAny_pyNext_enum_itemD (Draws.tuple (A := X.A.in1) (I.ok.hd hc) it a hai its.toArray) he ⟨hit, p⟩ hi hne (by simp [hne, Ne.symm hae]) fun y h' tk hy ho ⟨hit', _⟩ hT hsz hk => ?_
    have hyu : y = u := by
      have hy : its.toArray[i]? = some y := hy
      rw [List.getElem?_toArray, hu] at hy
      cases hy; rfl
    subst hyu
    refine ⟨_, rfl, wpAny_letOwnedTupleGo_enum (s := { s with heap := h', toks := tk + 1 }) ho fun h'' he' sb => ?_⟩
    have hT2 : h''.get? s.heap.objs.size = some { cls := .type "tuple", data := .seq #[.int i tk, y] } := (sb.2 _ (Nat.ne_of_gt hel)).trans hT
    have new : ObjOk X.prog X.w (upd H s.heap.objs.size (.tup [.int (i : Nat), x])) h'' s.heap.objs.size (.tup [.int (i : Nat), x]) :=
      ⟨by show 2 ≤ sizeLine; decide, [.int i tk, y], .cons ⟨_, rfl⟩ (.cons ru .nil), ⟨_, hT2, rfl, _, rfl⟩⟩
    have I1 : Inv X pins σ (upd H s.heap.objs.size (.tup [.int (i : Nat), x])) { s with heap := h'', toks := tk + 1 } :=
      I.turnedNew (ch := [e, it]) (fun b ob hb q => (sb.2 b (fun z => hb (by simp [z]))).trans (hk b ob (fun z => hb (by simp [z])) (fun z => hb (by simp [z])) q)) hf (Nat.le_refl _) new
    refine ⟨.ref s.heap.objs.size, _, I1, rfl, ⟨_, x, rfl, I.hok.fresh (Nat.le_refl _), rfl, fun ys hy => by rw [I.tuple_inj hy hq]; exact hx⟩, ⟨⟨y, ?_⟩, hit'.at fun o q => (sb.2 it (Ne.symm hne)).trans q, hne⟩, fun b hb => ?_⟩
    · rw [show ((i + 1 : Nat) : Int) = (i : Int) + 1 by omega]
      exact he'
    · have hb' : b < s.heap.objs.size := by
        rcases List.mem_cons.mp hb with rfl | hb
        · exact hel
        · obtain rfl := List.mem_singleton.mp hb
          exact hil
      rw [upd_ne (Nat.ne_of_lt hb')]
      exact (hf b hb).1
  done := by
    intro X hP hw hK hc i pins s σ H E I hf st hg
    subst hP hw hK
    obtain ⟨⟨old, he⟩, hit, hne⟩ := st
    obtain ⟨xs, hq, hx⟩ := hg
    obtain ⟨its, rv, p, hz⟩ := I.tuple hq
    obtain ⟨f0, f1, f2, f3, f4, f5⟩ := hf it (by simp)
    have hl := rv.length
    unfold pyNext
    refine wpAny_bind (wpAny_attempt (wpAny_callSpecial?_slot (name := Str.ofString "__next__") (show s.TypeIs (.ref e) "enumerate" from ⟨_, he, rfl⟩) F.slot_enumerate_next
      (wpAny_call_entry F.slot_enumerate_next (show s.TypeIs (.ref e) "enumerate" from ⟨_, he, rfl⟩) F.entry_enumerate_next ?_ (F.args_enumerate_next_1 _))))
    show wpAny _ _ (field (.ref e) 2 >>= _) _ _ _
    refine wpAny_bind (wpAny_field he rfl (x := .ref it) rfl (wpAny_bind (wpAny_nextOf_tuple_end (A := X.A.in1) (I.ok.hd hc) hit p (by simp; omega) fun h' x he' hx' => ?_)))
    obtain ⟨o, ho, hcl⟩ := hx'
    refine wpAny_bind (wpAny_isInstance (T := "StopIteration") (b := true) ⟨o, ho, hcl⟩ isSubtype_stop (wpAny_pure ?_))
    exact ⟨rfl, I.turned (t' := s.toks) (fun b o hb q => he' b o hb q) f0 f1 f3 f4 f5⟩
  self := fun A i s Q E st h => let ⟨⟨_, he⟩, _⟩ := st; wpAny_pyIter_enum he h
/-- enumerate of a list or of a tuple -/
def iEnumA (K : PySem.W.Frag) (ta : TA) : TI := fun σ H R => ta σ H fun vs H1 => (∃ a xs, vs = [.ref a] ∧ SqL K H1 a xs ∧ R (Ite K a) H1) ∨ (∃ a xs, vs = [.ref a] ∧ SqT K H1 a xs ∧ R (Itf K a) H1)
theorem pi_enumA {X : Cx} {e : Expr} {ta : TA} {p pos tpos : Pos} {elts : List Expr} {kk : Nat} (hg : Gl X "enumerate") (hm : X.mg "enumerate" = none) (ha : PA X [e] ta) (hs : starEach [e] X.env = [(false, eval e X.env)] := by rfl) :
    PI X (.Tuple elts kk tpos) (.Call (.Name "enumerate" p) [e] [] pos) (iEnumA X.K ta) := by
  constructor
  intro pins s σ H R I h
  refine Call_ (ld_blt I hg hm boot_enumerate (PyProof.Rows.callWith_type1 (thn (ha.run pos pins s σ H _ I h) fun us s1 ⟨vs, H1, I1, r1, q1⟩ => ?_) hs rfl))
  have apart : ∀ b, b = s1.heap.objs.size + 1 ∨ b = s1.heap.objs.size → FpOk X pins H1 b := fun b hb => by
    have hle : s1.heap.objs.size ≤ b := by
      rcases hb with z | z
      · rw [z]; exact Nat.le_add_right _ _
      · rw [z]; exact Nat.le_refl _
    exact I1.fpOk hle (I1.hok.fresh hle)
  rcases q1 with ⟨a, xs, ex, hq, q⟩ | ⟨a, xs, ex, hq, q⟩
  · subst ex
    cases r1 with
    | cons r rr =>
      cases rr
      cases r
      obtain ⟨its, rv, p', hz⟩ := I1.list hq
      refine call_enumerate_list p'.isList fun h' he hit hsz hk => wpAny_pyIter_enum he ?_
      exact ⟨_, [s1.heap.objs.size + 1, s1.heap.objs.size], _, _, H1, rfl, I1.kept (t' := s1.toks) hk, turn_enum a (s1.heap.objs.size + 1) s1.heap.objs.size, ⟨⟨.none, he⟩, hit, Nat.succ_ne_self _⟩, fun b hb => apart b (by simpa using hb), q⟩
  · subst ex
    cases r1 with
    | cons r rr =>
      cases rr
      cases r
      obtain ⟨its, rv, p', hz⟩ := I1.tuple hq
      have hl : a < s1.heap.objs.size := by obtain ⟨o, ho, _⟩ := p'; exact Heap.lt_size ho
      refine enum_of (begins_tuple a its.toArray) p' fun h' he hit hsz hk => wpAny_pyIter_enum he ?_
      exact ⟨_, [s1.heap.objs.size + 1, s1.heap.objs.size], _, _, H1, rfl, I1.kept (t' := s1.toks) hk, turn_enumT a (s1.heap.objs.size + 1) s1.heap.objs.size (Nat.ne_of_lt (Nat.lt_succ_of_lt hl)) (Nat.ne_of_lt hl), ⟨⟨.none, he⟩, ⟨_, hit, rfl, rfl⟩, Nat.succ_ne_self _⟩, fun b hb => apart b (by simpa using hb), q⟩
def enumD (xs : List D) : List D := xs.zipIdx.map fun p => .tup [.int (p.2 : Nat), p.1]
def iEnum (f : EM) : IM := f.bind fun x => match x with
  | .d (.lst xs) => M.ret (enumD xs)
  | .d (.tup xs) => M.ret (enumD xs)
  | _ => M.fail
section
variable {X : Cx} {Y : Cy} {a : Expr} {f : EM} {p pos tpos : Pos} {elts : List Expr} {kk : Nat}
theorem enumD_get {xs : List D} {i : Nat} {d : D} (h : (enumD xs)[i]? = some d) : ∃ x, xs[i]? = some x ∧ d = .tup [.int (i : Nat), x] := by
  unfold enumD at h
  rw [List.getElem?_map, List.getElem?_zipIdx] at h
  cases e : xs[i]? with
  | none => rw [e] at h; cases h
  | some x =>
    rw [e] at h
    simp at h
    exact ⟨x, rfl, h.symm⟩
theorem enumD_len (xs : List D) : (enumD xs).length = xs.length := by unfold enumD; simp
theorem enum_yld {T : Tb} {B : Hp} {g : Gh} {own : Own} {H H2 : Hp} {i : Nat} {x v : V} {d : D} {Tt : Addr} (R : HRel T B g own H) (hT : H Tt = none) (e2 : H2 = upd H Tt (.tup [.int (i : Nat), v])) (r : Rep T g.F d v) :
    ∃ g2, HRel T B g2 own H2 ∧ GExt B g own.length g2 own.length ∧ Rep T g2.F (.tup [.int (i : Nat), d]) (.ref Tt) := by
  subst e2
  obtain ⟨R2, e2⟩ := R.new hT (.tup [.int (i : Nat), v])
  exact ⟨_, R2, e2, .tup (SqT.of upd_same) (.cons (.int _) (.cons (r.le e2.F) .nil))⟩
theorem ri_enum (hm : X.mg "enumerate" = none) (h : PE X a (trE Y f)) (hK : X.K = Y.T.K := by rfl) (hg : Gl X "enumerate" := by rfl) (hs : starEach [a] X.env = [(false, eval a X.env)] := by rfl) : PI X (.Tuple elts kk tpos) (.Call (.Name "enumerate" p) [a] [] pos) (trI Y (iEnum f)) := by
  refine PI.imp (pi_enumA hg hm (pa_cons h pa_nil hs) hs) fun σ H Q q => ?_
  obtain ⟨gh, sd, own, R, S, q⟩ := q
  refine at_bind R S q fun g1 o1 x v H1 R1 S1 e1 rx q1 => ?_
  match x, rx, q1 with
  | .d (.lst xs), rx, q1 =>
    have rx : Rep Y.T g1.F (.lst xs) v := rx
    have k := at_ret q1
    cases rx with
    | @lst pa vs _ h1 h2 =>
      rw [hK]
      refine .inl ⟨pa, vs, rfl, SqL.of (R1.f _ _ h1), k g1 _ H1 R1 .rfl' ⟨fun _ i g own H R l hi => ?_, fun _ i g own H R l hi => ?_, fun _ i g own H x H2 d R l y hd => ?_⟩⟩
      · rw [enumD_len] at hi
        obtain ⟨v, hv⟩ : ∃ v, vs[i]? = some v := ⟨vs[i]'(by rw [← h2.length]; exact hi), by simp⟩
        exact ⟨vs, v, SqL.of (R.f _ _ (l _ _ h1)), hv⟩
      · rw [enumD_len] at hi
        exact ⟨vs, SqL.of (R.f _ _ (l _ _ h1)), by rw [← h2.length]; exact hi⟩
      · obtain ⟨T, v, e1, e2, e3, e4⟩ := y
        obtain ⟨z, hz, rfl⟩ := enumD_get hd
        obtain ⟨w, hw, rw'⟩ := h2.get hz
        have := e4 vs (SqL.of (R.f _ _ (l _ _ h1)))
        rw [hw] at this
        cases this
        subst e1
        exact enum_yld (x := v) R e2 e3 (rw'.le l)
  | .d (.tup xs), rx, q1 =>
    have rx : Rep Y.T g1.F (.tup xs) v := rx
    have k := at_ret q1
    cases rx with
    | @tup pa vs _ h1 h2 =>
      rw [hK]
      refine .inr ⟨pa, vs, rfl, SqT.le R1.f h1, k g1 _ H1 R1 .rfl' ⟨fun _ i g own H R l hi => ?_, fun _ i g own H R l hi => ?_, fun _ i g own H x H2 d R l y hd => ?_⟩⟩
      · rw [enumD_len] at hi
        obtain ⟨v, hv⟩ : ∃ v, vs[i]? = some v := ⟨vs[i]'(by rw [← h2.length]; exact hi), by simp⟩
        exact ⟨vs, v, SqT.le R.f (SqT.le l h1), hv⟩
      · rw [enumD_len] at hi
        exact ⟨vs, SqT.le R.f (SqT.le l h1), by rw [← h2.length]; exact hi⟩
      · obtain ⟨T, v, e1, e2, e3, e4⟩ := y
        obtain ⟨z, hz, rfl⟩ := enumD_get hd
        obtain ⟨w, hw, rw'⟩ := h2.get hz
        have := e4 vs (SqT.le R.f (SqT.le l h1))
        rw [hw] at this
        cases this
        subst e1
        exact enum_yld (x := v) R e2 e3 (rw'.le l)
  | .h k, rx, q1 => exact (at_fail q1).elim
  | .d .non, rx, q1 => exact (at_fail q1).elim
  | .d (.bl _), rx, q1 => exact (at_fail q1).elim
  | .d (.int _), rx, q1 => exact (at_fail q1).elim
  | .d (.str _), rx, q1 => exact (at_fail q1).elim
  | .d (.ty _), rx, q1 => exact (at_fail q1).elim
  | .d (.cls _), rx, q1 => exact (at_fail q1).elim
  | .d (.dic _ _), rx, q1 => exact (at_fail q1).elim
  | .d (.obj _ _), rx, q1 => exact (at_fail q1).elim
end
end Gx
end T_GxN1
section T_GxN2
set_option Elab.async false
set_option linter.all false
set_option maxRecDepth 100000
set_option maxHeartbeats 4000000
namespace Gx
open PySem PySem.Spec PyProof.Rows L2

/-! ## operators of ints by name -/
section
variable {X : Cx} {Y : Cy} {pos : Pos} {a b : Expr} {f g : EM}
theorem o2_lt : O2 Y (rI0 fun i j => .bl (decide (i < j))) mLt := o2_I0 fun _ _ _ => .bl _
theorem o2_le : O2 Y (rI0 fun i j => .bl (decide (i ≤ j))) mLe := o2_I0 fun _ _ _ => .bl _
theorem o2_gt : O2 Y (rI0 fun i j => .bl (decide (j < i))) mGt := o2_I0 fun _ _ _ => .bl _
theorem o2_ge : O2 Y (rI0 fun i j => .bl (decide (j ≤ i))) mGe := o2_I0 fun _ _ _ => .bl _
theorem r_sub (ha : PE X a (trE Y f)) (hb : PE X b (trE Y g)) : PE X (.BinOp a .Sub b pos) (trE Y (eB mSub f g)) := r_bin op_sub (o2_I0 fun _ _ _ => .int _) ha hb
theorem r_mul (ha : PE X a (trE Y f)) (hb : PE X b (trE Y g)) : PE X (.BinOp a .Mult b pos) (trE Y (eB mMul f g)) := r_bin op_mul (o2_I (fun i j h => show (-(2 ^ 64) < i ∧ i < 2 ^ 64) ∨ (-(2 ^ 64) < j ∧ j < 2 ^ 64) from of_decide_eq_true h) fun _ _ _ => .int _) ha hb
theorem r_fdiv (ha : PE X a (trE Y f)) (hb : PE X b (trE Y g)) : PE X (.BinOp a .FloorDiv b pos) (trE Y (eB mFdiv f g)) := r_bin op_fdiv (o2_I (fun i j h => show 0 < j ∧ j < 1073741824 from of_decide_eq_true h) fun _ _ _ => .int _) ha hb
theorem r_mod (ha : PE X a (trE Y f)) (hb : PE X b (trE Y g)) : PE X (.BinOp a .Mod b pos) (trE Y (eB mMod f g)) := r_bin op_mod (o2_I (fun i j h => show 0 < j from of_decide_eq_true h) fun _ _ _ => .int _) ha hb
theorem r_pow (ha : PE X a (trE Y f)) (hb : PE X b (trE Y g)) : PE X (.BinOp a .Pow b pos) (trE Y (eB mPow f g)) := r_bin op_pow (o2_I (fun i j h => show 0 ≤ j ∧ j ≤ 1000000 ∧ i.natAbs < 2 ^ 64 from of_decide_eq_true h) fun _ _ _ => .int _) ha hb
theorem _root_.L2.Room.u64 {k : Nat} {A : Around} (r : Room k A) : A.units + 64 < cLine := by have := r.un; omega
theorem _root_.L2.Room.u1 {k : Nat} {A : Around} (r : Room k A) : A.units + 1 < cLine := by have := r.un; omega
theorem rs_doc {x j pos pos'} : PS X (.Expr (.Constant (.str x) j pos) pos') (trS Y sNil) := PS.imp ps_doc fun D σ H q => by
  obtain ⟨g, sd, own, R, S, q⟩ := q
  obtain ⟨r, e, k⟩ := q
  cases e
  exact k g σ H R S .rfl'
end

/-! ## own classes: isinstance, ==, len -/
/-- an own class whose instances may be asked for their class -/
structure Oc (K : PySem.W.Frag) (C : Addr) : Prop where
  cl : Cls K C
  ha : PySem.W.findIn K (.ref C) "__class__" = some (some (.builtin "object.__class__"))
  hn : PySem.W.specialIn K (.builtin "object.__class__") "__get__" = some (some (.builtin "getset_descriptor.__get__"))
  ht : PySem.W.takesIn K (.builtin "object.__class__") = some true
  hm : PySem.W.mroIn K C (.type "object") = some true
/-- the own classes L, one among the others and among the built-in ones -/
structure OwnF (T : Tb) (L : List Nat) : Prop where
  oc : ∀ c ∈ L, Oc T.K (T.ct c)
  own : ∀ c ∈ L, ∀ c2 ∈ L, PySem.W.kitOne T.K (.ref (T.ct c)) (.ref (T.ct c2)) = some (c == c2)
  base : ∀ k < 7, ∀ c ∈ L, PySem.W.kitOne T.K (.type (tyName k)) (.ref (T.ct c)) = some false
  none_ : ∀ k < 7, ∀ c ∈ L, PySem.W.kitOne T.K (.ref (T.ct c)) (.type (tyName k)) = some false
  first : ∀ k < 7, ∀ c ∈ L, PySem.W.notFirst T.K (T.ct c) (.type (tyName k)) = true
  firstO : ∀ c ∈ L, ∀ c2 ∈ L, PySem.W.notFirst T.K (T.ct c) (.ref (T.ct c2)) = true
/-- a value's type: by the base, or its own class -/
def tyO (L : List Nat) (own : Own) (x : SV) : Option (Nat ⊕ Nat) := match x with
  | .d (.obj c _) => if c ∈ L then some (.inr c) else none
  | x => (datV own x).bind fun d => (tyOf d).map .inl
def tyV (T : Tb) : Nat ⊕ Nat → Value
  | .inl k => .type (tyName k)
  | .inr c => .ref (T.ct c)
/-- isinstance(x, c), own classes too -/
def mIsiO (L : List Nat) : Own → SV → SV → Option D := fun own x c => match c with
  | .d (.ty k) => if k < 7 then (tyO L own x).map fun t => .bl (match t with
    | .inl t => isTy t k
    | .inr _ => false) else none
  | .d (.cls c) => if c ∈ L then (tyO L own x).map fun t => .bl (match t with
    | .inl _ => false
    | .inr c1 => c1 == c) else none
  | _ => none
section
variable {T : Tb} {L : List Nat} {B : Hp} {g : Gh} {own : Own} {H : Hp}
theorem tyO_of (O : OwnF T L) (R : HRel T B g own H) {x : SV} {v : V} {t : Nat ⊕ Nat} (r : RS T g own.length x v) (e : tyO L own x = some t) : TyX T.K H v (tyV T t) ∧ (∀ k, t = .inl k → k < 7) ∧ (∀ c, t = .inr c → c ∈ L) := by
  have base : ((datV own x).bind fun d => (tyOf d).map .inl) = some t → TyX T.K H v (tyV T t) ∧ (∀ k, t = .inl k → k < 7) ∧ (∀ c, t = .inr c → c ∈ L) := fun e => by
    obtain ⟨d, e1, e⟩ := Option.bind_eq_some_iff.mp e
    obtain ⟨k, e2, e3⟩ := Option.map_eq_some_iff.mp e
    subst e3
    exact ⟨tyX_of R r e1 e2, fun k' z => by cases z; exact tyOf_lt e2, fun c z => by cases z⟩
  cases x with
  | h k => exact base e
  | d x =>
    cases x with
    | obj c vs =>
      have e : (if c ∈ L then some (.inr c) else none) = some t := e
      by_cases hc : c ∈ L
      · rw [if_pos hc] at e
        cases e
        have r : Rep T g.F (.obj c vs) v := r
        cases r with
        | obj h1 h2 h3 =>
          have o := O.oc c hc
          exact ⟨.base (.ins (R.f _ _ h1) o.cl o.ha o.hn o.ht o.hm), ⟨fun k z => (by cases z), fun c' z => (by cases z; exact hc)⟩⟩
      · rw [if_neg hc] at e; cases e
    | _ => exact base e
theorem ob_isiO {Y : Cy} (O : OwnF Y.T L) : OB Y (rIsi Y.T.K) (m2 (mIsiO L)) := by
  refine ob_2 (r := fun v w H Q => rIsi Y.T.K [v, w] H Q) (fun gh own H x c v w z Q R rx rc h k => ?_) fun _ _ _ _ h => h
  match c, rc, h with
  | .d (.ty kk), rc, h =>
    have h : (if kk < 7 then (tyO L own x).map fun t => D.bl (match t with | .inl t => isTy t kk | .inr _ => false) else none) = some z := h
    by_cases c : kk < 7
    · rw [if_pos c] at h
      obtain ⟨t, e1, e2⟩ := Option.map_eq_some_iff.mp h
      subst e2
      obtain ⟨ty, l1, l2⟩ := tyO_of O R rx e1
      have rc : Rep Y.T gh.F (.ty kk) w := rc
      cases rc
      cases t with
      | inl t => exact ⟨v, _, _, _, isTy t kk, rfl, .ty _, ty, kit_ty (kit_tys t kk (l1 t rfl) c), k gh _ H R .rfl' (.bl _)⟩
      | inr c1 => exact ⟨v, _, _, _, false, rfl, .ty _, ty, O.none_ kk c c1 (l2 c1 rfl), k gh _ H R .rfl' (.bl _)⟩
    · rw [if_neg c] at h; cases h
  | .d (.cls c2), rc, h =>
    have h : (if c2 ∈ L then (tyO L own x).map fun t => D.bl (match t with | .inl _ => false | .inr c1 => c1 == c2) else none) = some z := h
    by_cases c : c2 ∈ L
    · rw [if_pos c] at h
      obtain ⟨t, e1, e2⟩ := Option.map_eq_some_iff.mp h
      subst e2
      obtain ⟨ty, l1, l2⟩ := tyO_of O R rx e1
      have rc : Rep Y.T gh.F (.cls c2) w := rc
      cases rc
      cases t with
      | inl t => exact ⟨v, _, _, _, false, rfl, .own _, ty, O.base t (l1 t rfl) c2 c, k gh _ H R .rfl' (.bl _)⟩
      | inr c1 => exact ⟨v, _, _, _, c1 == c2, rfl, .own _, ty, O.own c1 (l2 c1 rfl) c2 c, k gh _ H R .rfl' (.bl _)⟩
    · rw [if_neg c] at h; cases h
end

/-- a method of the class c by its special name -/
structure Spec (P : Program) (w : World) (K : PySem.W.Frag) (mg : Str → Option Value) (base : Heap) (T : Tb) (k c n : Nat) (nm : Str) (Ff : FM) : Prop where
  ex : ∃ (f : Addr) (fd : FuncData) (ps : List Str), PySem.W.findIn K (.ref (T.ct c)) nm = some (some (.ref f)) ∧ PySem.W.isFn K (.ref f) = true ∧ Binds K fd ps [] ∧ FnOk P w K mg base (L2.CX P w) k f fd ps (spF T n Ff)
/-- a callee that raises nothing, on data alone: its value -/
def callV0 (Ff : FM) (xs : List SV) : Option D := match dats xs with
  | none => none
  | some _ => match Ff xs [] with
    | some (.ok s, own') => resD own' s
    | _ => none
theorem call_V0 {T : Tb} {B : Hp} {Ff : FM} {n : Nat} {g1 : Gh} {own : Own} {H : Hp} {Q : VK} {E : XK} {xs : List SV} {vs : List V} {z : D} (R : HRel T B g1 own H) (rs : RSs T g1 own.length xs vs) (hl : xs.length = n) (e : callV0 Ff xs = some z)
    (k : ∀ g' u H', HRel T B g' own H' → GExt B g1 own.length g' own.length → Rep T g'.F z u → Q u H') : spF T n Ff vs H Q E := by
  unfold callV0 at e
  cases ed : dats xs with
  | none => rw [ed] at e; cases e
  | some ds =>
    rw [ed] at e
    cases ef : Ff xs [] with
    | none => simp only [ef] at e; cases e
    | some p =>
      obtain ⟨rf, of⟩ := p
      simp only [ef] at e
      cases rf with
      | ex c fs => simp only at e; cases e
      | ok s =>
        have er : resD of s = some z := e
        refine ⟨H, ⟨g1.F, g1.ρ⟩, [], xs, hrel_fresh R.f, dats_rss Le.rfl' xs vs ds ed rs, hl, .ok s, of, ef, fun g' v H' R' e' rv => ?_⟩
        cases s with
        | d y =>
          cases er
          obtain ⟨R2, e2⟩ := R.after R'.b e'.F R'.f e'.fb
          exact k _ v H' R2 e2 rv
        | h kk =>
          obtain ⟨o, eo, ez⟩ := Option.bind_eq_some_iff.mp er
          obtain ⟨ho, eh, rz⟩ := frz_rel R' eo ez
          obtain ⟨R3, e3⟩ := R'.freeze eo (frzO_live ez) eh
          have e4 := e'.trans e3
          obtain ⟨R2, e2⟩ := R.after (F' := L2.upd g'.F (g'.ρ kk) ho) R'.b e4.F R3.f e4.fb
          have hv := rv.2
          subst hv
          exact k _ _ H' R2 e2 rz
/-- len(x): x a list, a tuple, .., or an instance with its own __len__ -/
def mLenO (FL : Nat → Option FM) : Own → SV → Option D := fun own x => match x with
  | .d (.obj c _) => (FL c).bind fun Ff => match callV0 Ff [x] with
    | some (.int n) => if 0 ≤ n ∧ n < 2 ^ 63 then some (.int n) else none
    | _ => none
  | x => mLen own x
abbrev rLenO (X : Cx) (T : Tb) (k : Nat) (FL : Nat → Option FM) : List V → Hp → VK → Prop := fun xs H Q => ∃ (c : Nat) (Ff : FM) (a dx : Addr) (fs : List (Str × V)), FL c = some Ff ∧ xs = [.ref a] ∧ H a = some (.ins (T.ct c) dx fs) ∧ Spec X.prog X.w X.K X.mg X.base T k c 1 "__len__" Ff ∧
  spF T 1 Ff [.ref a] H (fun v H' => ∃ n, v = .int n ∧ 0 ≤ n ∧ n < 2 ^ 63 ∧ Q (.int n) H') (fun _ _ _ => False)
theorem call_lenO {X : Cx} {T : Tb} {k : Nat} {FL : Nat → Option FM} (hr : Room (k + 1) X.A) : CallR X (.builtin "len") (rLenO X T k FL) := by
  intro pins s σ H xs us Q I r h
  obtain ⟨c, Ff, a, dx, fs, _, rfl, ha, ⟨f, fd, ps, hs, hf, hb, F⟩, q⟩ := h
  obtain ⟨u, rfl, ru⟩ := vals1 r
  obtain rfl : u = Value.ref a := ru
  obtain ⟨mA, J, _⟩ := ins_get I.hok ha
  obtain ⟨od, J, _⟩ := J.look
  obtain ⟨m, hF⟩ := I.fr
  refine PySem.W.len_K hF I.ok.mod.kin J hs hf ?_
  have hl := F.len _ _ _ _ q
  have bnd := hb s [.ref a] I.kIn (by simpa using hl)
  rw [List.append_nil] at bnd
  refine wpAny_call (codeAny_mono (F.run X.A.in1 X.stack s H ⟨[.ref a], []⟩ [.ref a] [.ref a] _ _ hr.in1 I.env0.in1 bnd (.cons rfl .nil) q) fun r s' hq => ?_)
  match r, hq with
  | .error e, hq => exact passL pins σ H s e s' I hq
  | .ok (.ret w), hq =>
    obtain ⟨z, H', I', rz, n, ez, n0, n1, q2⟩ := I.after hq
    subst ez
    obtain ⟨t, rfl⟩ := rz
    exact ⟨⟨n0, n1⟩, .int n, H', I'.tok _, ⟨_, rfl⟩, q2⟩
  | .ok .next, hq => exact (show False from hq).elim
  | .ok .brk, hq => exact (show False from hq).elim
  | .ok .cont, hq => exact (show False from hq).elim

/-! ### == -/
def mEqO (L : List Nat) (FE : Nat → Option FM) (neg : Bool) : Own → SV → SV → Option D := fun own x y => match x with
  | .d (.obj c _) => if c ∈ L then (match neg with
    | false => (FE c).bind fun Ff => (tyO L own y).bind fun _ => match callV0 Ff [x, y] with
      | some (.bl b) => some (.bl b)
      | _ => none
    | true => none) else none
  | x => match neg with
    | false => mEq own x y
    | true => mNe own x y
abbrev rEqO (X : Cx) (T : Tb) (k : Nat) (FE : Nat → Option FM) : R2 := fun x y H Q => ∃ (c : Nat) (Ff : FM) (a dx : Addr) (fs : List (Str × V)) (t : Value), FE c = some Ff ∧ x = .ref a ∧ H a = some (.ins (T.ct c) dx fs) ∧ Spec X.prog X.w X.K X.mg X.base T k c 2 "__eq__" Ff ∧ TyX X.K H y t ∧ PySem.W.notFirst X.K (T.ct c) t = true ∧
  spF T 2 Ff [.ref a, y] H (fun v H' => ∃ b, v = .bl b ∧ Q (.bl b) H') (fun _ _ _ => False)
theorem op_eqO {X : Cx} {T : Tb} {k : Nat} {FE : Nat → Option FM} (hr : Room (k + 1) X.A) : OpR X (compareOp .Eq) (rEqO X T k FE) := by
  intro pins s σ H x y v u Q I rx ry h
  obtain ⟨c, Ff, a, dx, fs, t, _, rfl, ha, ⟨f, fd, ps, hs, hf, hb, F⟩, ty, nf, q⟩ := h
  obtain rfl : v = Value.ref a := rx
  show wpAny (model X.prog X.w) X.A (richCompare .Eq (.ref a) u) (EP X pins σ Q) X.xe s
  obtain ⟨mA, J, _⟩ := ins_get I.hok ha
  obtain ⟨od, J, _⟩ := J.look
  obtain ⟨m, hF⟩ := I.fr
  obtain ⟨Pk, Z, pk, _⟩ := kit_of I ry ty
  refine PySem.W.cmp_K (op := .Eq) (tb := t) hr.units0 hF I.ok.mod.kin J (Z.ty _ _ I.kIn pk) nf hs hf ?_
  have hl := F.len _ _ _ _ q
  have bnd := hb s [.ref a, u] I.kIn (by simpa using hl)
  rw [List.append_nil] at bnd
  refine wpAny_call (codeAny_mono (F.run X.A X.stack s H ⟨[.ref a, u], []⟩ [.ref a, u] [.ref a, y] _ _ (hr.mono (Nat.le_succ k)) I.env0 bnd (.cons rfl (.cons ry .nil)) q) fun r s' hq => ?_)
  match r, hq with
  | .error e, hq => exact passL pins σ H s e s' I hq
  | .ok (.ret w), hq =>
    obtain ⟨z, H', I', rz, b, ez, q2⟩ := I.after hq
    subst ez
    obtain rfl : w = Value.bool b := rz
    exact ⟨.bl b, H', I', rfl, q2⟩
  | .ok .next, hq => exact (show False from hq).elim
  | .ok .brk, hq => exact (show False from hq).elim
  | .ok .cont, hq => exact (show False from hq).elim
/-- the classes' own == and len, as the text has them -/
structure OwnM (P : Program) (w : World) (K : PySem.W.Frag) (mg : Str → Option Value) (base : Heap) (T : Tb) (k : Nat) (L : List Nat) (FE FL : Nat → Option FM) : Prop where
  o : OwnF T L
  hK : K = T.K
  eq : ∀ c Ff, FE c = some Ff → Spec P w K mg base T k c 2 "__eq__" Ff
  len : ∀ c Ff, FL c = some Ff → Spec P w K mg base T k c 1 "__len__" Ff
section
variable {X : Cx} {Y : Cy} {k j : Nat} {L : List Nat} {FE FL : Nat → Option FM}
theorem o2_eqO (O : OwnM X.prog X.w X.K X.mg X.base Y.T k L FE FL) : O2 Y (fun x y H Q => rEqD Y.T.K x y H Q ∨ rEqO X Y.T k FE x y H Q) (mEqO L FE false) := by
  intro gh own H x y v w z Q R rx ry h kk
  match x, rx, h with
  | .d (.obj c vs), rx, h =>
    have h : (if c ∈ L then (FE c).bind fun Ff => (tyO L own y).bind fun _ => match callV0 Ff [.d (.obj c vs), y] with | some (.bl b) => some (.bl b) | _ => none else none) = some z := h
    by_cases hc : c ∈ L
    · rw [if_pos hc] at h
      obtain ⟨Ff, e1, h⟩ := Option.bind_eq_some_iff.mp h
      obtain ⟨t, e2, h⟩ := Option.bind_eq_some_iff.mp h
      obtain ⟨ty, l1, l2⟩ := tyO_of O.o R ry e2
      cases e3 : callV0 Ff [.d (.obj c vs), y] with
      | none => rw [e3] at h; cases h
      | some d =>
        rw [e3] at h
        cases d with
        | bl b =>
          cases h
          have rx' : Rep Y.T gh.F (.obj c vs) v := rx
          have q := call_V0 (n := 2) (E := fun _ _ _ => False) (Q := fun v H' => ∃ b, v = .bl b ∧ Q (.bl b) H') R (.cons rx (.cons ry .nil)) rfl e3 fun g' u H' R' e' ru => by
            cases ru
            exact ⟨b, rfl, kk g' _ H' R' e' (.bl _)⟩
          cases rx' with
          | obj h1 h2 h3 =>
            refine .inr ⟨c, Ff, _, _, _, _, e1, rfl, R.f _ _ h1, O.eq c Ff e1, by rw [O.hK]; exact ty, ?_, q⟩
            rw [O.hK]
            cases t with
            | inl t => exact O.o.first t (l1 t rfl) c hc
            | inr c2 => exact O.o.firstO c hc c2 (l2 c2 rfl)
        | _ => cases h
    · rw [if_neg hc] at h; cases h
  | .h _, rx, h => exact .inl (o2_eq gh own H _ y v w z Q R rx ry h kk)
  | .d .non, rx, h => exact .inl (o2_eq gh own H _ y v w z Q R rx ry h kk)
  | .d (.bl _), rx, h => exact .inl (o2_eq gh own H _ y v w z Q R rx ry h kk)
  | .d (.int _), rx, h => exact .inl (o2_eq gh own H _ y v w z Q R rx ry h kk)
  | .d (.str _), rx, h => exact .inl (o2_eq gh own H _ y v w z Q R rx ry h kk)
  | .d (.ty _), rx, h => exact .inl (o2_eq gh own H _ y v w z Q R rx ry h kk)
  | .d (.cls _), rx, h => exact .inl (o2_eq gh own H _ y v w z Q R rx ry h kk)
  | .d (.tup _), rx, h => exact .inl (o2_eq gh own H _ y v w z Q R rx ry h kk)
  | .d (.lst _), rx, h => exact .inl (o2_eq gh own H _ y v w z Q R rx ry h kk)
  | .d (.dic _ _), rx, h => exact .inl (o2_eq gh own H _ y v w z Q R rx ry h kk)
theorem op_eqOA (hr : Room j X.A) (hj : k + 1 ≤ j) (hK : X.K = Y.T.K := by rfl) : OpR X (compareOp .Eq) (fun x y H Q => rEqD Y.T.K x y H Q ∨ rEqO X Y.T k FE x y H Q) := by
  rw [← hK]
  exact (op_eqD hr.u64).or (op_eqO (hr.mono hj))
theorem ob_lenO (O : OwnM X.prog X.w X.K X.mg X.base Y.T k L FE FL) {rr : List V → Hp → VK → Prop} (hA : OB Y rr (m1 mLen)) : OB Y (fun xs H Q => rr xs H Q ∨ rLenO X Y.T k FL xs H Q) (m1 (mLenO FL)) := by
  intro gh own H xs vs z Q R rs h kk
  match xs, rs, h with
  | [x], rs, h =>
    have old : m1 mLen own [x] = some z → _ := fun h => Or.inl (b := rLenO X Y.T k FL vs H Q) (hA gh own H [x] vs z Q R rs h kk)
    match x, rs, h with
    | .d (.obj c ys), rs, h =>
      obtain ⟨d, hd, e0⟩ := Option.map_eq_some_iff.mp (show (mLenO FL own (.d (.obj c ys))).map SV.d = some z from h)
      subst e0
      clear h old
      have h : ((FL c).bind fun Ff => match callV0 Ff [.d (.obj c ys)] with | some (.int n) => if 0 ≤ n ∧ n < 2 ^ 63 then some (D.int n) else none | _ => none) = some d := hd
      obtain ⟨Ff, e1, h⟩ := Option.bind_eq_some_iff.mp h
      cases e3 : callV0 Ff [.d (.obj c ys)] with
      | none => rw [e3] at h; cases h
      | some d2 =>
        rw [e3] at h
        cases d2 with
        | int n =>
          have h : (if 0 ≤ n ∧ n < 2 ^ 63 then some (D.int n) else none) = some d := h
          by_cases hn : 0 ≤ n ∧ n < 2 ^ 63
          · rw [if_pos hn] at h
            cases h
            have q := call_V0 (n := 1) (E := fun _ _ _ => False) (Q := fun v H' => ∃ n, v = .int n ∧ 0 ≤ n ∧ n < 2 ^ 63 ∧ Q (.int n) H') R rs rfl e3 fun g' u H' R' e' ru => by
              cases ru
              exact ⟨n, rfl, hn.1, hn.2, kk g' _ H' R' e' (Rep.int _)⟩
            obtain ⟨v, rfl, rx⟩ := rss1 rs
            have rx' : Rep Y.T gh.F (.obj c ys) v := rx
            cases rx' with
            | obj h1 h2 h3 => exact .inr ⟨c, Ff, _, _, _, e1, rfl, R.f _ _ h1, O.len c Ff e1, q⟩
          · rw [if_neg hn] at h; cases h
        | _ => cases h
    | .h _, rs, h => exact old h
    | .d .non, rs, h => exact old h
    | .d (.bl _), rs, h => exact old h
    | .d (.int _), rs, h => exact old h
    | .d (.str _), rs, h => exact old h
    | .d (.ty _), rs, h => exact old h
    | .d (.cls _), rs, h => exact old h
    | .d (.tup _), rs, h => exact old h
    | .d (.lst _), rs, h => exact old h
    | .d (.dic _ _), rs, h => exact old h
theorem call_lenOA (hr : Room j X.A) (hj : k + 1 ≤ j) {rr : List V → Hp → VK → Prop} (h : CallR X (.builtin "len") rr) : CallR X (.builtin "len") (fun xs H Q => rr xs H Q ∨ rLenO X Y.T k FL xs H Q) := h.or (call_lenO (hr.mono hj))
end

/-! ### properties -/
def eProp (c : Nat) (Ff : FM) (f : EM) : EM := f.bind fun x => M.ask fun _ => match x with
  | .d (.obj c' _) => if c' = c then (callV0 Ff [x]).map SV.d else none
  | _ => none
/-- a property of the class c -/
structure Prp (P : Program) (w : World) (K : PySem.W.Frag) (mg : Str → Option Value) (base : Heap) (T : Tb) (k c : Nat) (nm : Str) (Ff : FM) : Prop where
  cl : Cls K (T.ct c)
  ex : ∃ (p f : Addr) (fd : FuncData) (ps : List Str), PropOf K (T.ct c) nm p f ∧ Binds K fd ps [] ∧ FnOk P w K mg base (L2.CX P w) k f fd ps (spF T 1 Ff)
section
variable {X : Cx} {Y : Cy} {k j c : Nat} {nm : Str} {Ff : FM} {e : Expr} {pos : Pos} {f : EM}
theorem r_prop (pr : Prp X.prog X.w X.K X.mg X.base Y.T k c nm Ff) (hr : Room j X.A) (hj : k + 1 ≤ j) (he : PE X e (trE Y f)) (hab : attributeBase e nm X.env (eval e X.env) = eval e X.env := by rfl) : PE X (.Attribute e nm pos) (trE Y (eProp c Ff f)) := by
  obtain ⟨p, fa, fd, ps, hp, hb, F⟩ := pr.ex
  refine PE.imp (pe_prop (E := fun _ _ _ => False) he pr.cl hp F (hr.mono hj) hb .nil passL hab) fun σ H Q q => ?_
  obtain ⟨gh, sd, own, R, S, q⟩ := q
  refine at_bind R S q fun g1 o1 x v H1 R1 S1 e1 rx q1 => ?_
  obtain ⟨s, es, kq⟩ := at_ask q1
  match x, rx, es with
  | .d (.obj c' ys), rx, es =>
    have es2 : (if c' = c then (callV0 Ff [.d (.obj c' ys)]).map SV.d else none) = some s := es
    clear es
    by_cases hc : c' = c
    · rw [if_pos hc] at es2
      subst hc
      obtain ⟨z, e3, e4⟩ := Option.map_eq_some_iff.mp es2
      subst e4
      have q := call_V0 (n := 1) (E := fun _ _ _ => False) (Q := Q) R1 (.cons rx .nil) rfl e3 fun g' u H' R' e' ru => kq g' u H' R' e' ru
      have rx' : Rep Y.T g1.F (.obj c' ys) v := rx
      cases rx' with
      | obj h1 h2 h3 => exact ⟨_, _, _, rfl, R1.f _ _ h1, q⟩
    · rw [if_neg hc] at es2; cases es2
end
end Gx
end T_GxN2
section T_GxN3
set_option Elab.async false
set_option linter.all false
set_option maxRecDepth 100000
set_option maxHeartbeats 4000000
namespace Gx
open PySem PySem.Spec PyProof.Rows L2

/-! ## a list of one's own, walked as it stands at each turn -/
def forH (k : Nat) (tg : GM) (body : SM) : Nat → Nat → SM
  | 0, _ => sNo
  | n + 1, i => fun sd own => match own[k]? with
    | some (.lst ys) => (match ys[i]? with
      | none => some (.nx sd own)
      | some x => (match tg x sd with
        | none => none
        | some sd1 => (match body sd1 own with
          | some (.nx sd2 own2) => forH k tg body n (i + 1) sd2 own2
          | some (.ct sd2 own2) => forH k tg body n (i + 1) sd2 own2
          | some (.bk sd2 own2) => some (.nx sd2 own2)
          | r => r)))
    | _ => none
def sForH (n : Nat) (f : EM) (tg : GM) (body : SM) : SM := SM.bind f fun x => match x with
  | .h k => forH k tg body n 0
  | .d _ => sNo
theorem at_own {T : Tb} {B : Hp} {g : Gh} {own : Own} {H : Hp} {k : Nat} {ys : List D} (R : HRel T B g own H) (e : own[k]? = some (.lst ys)) : ∃ vs, H (g.ρ k) = some (.lst vs) ∧ Reps T g.F ys vs := R.o k _ e
theorem rs_forH {X : Cx} {Y : Cy} {t iter : Expr} {body : List Stmt} {pos : Pos} {f : EM} {tg : GM} {gg : TG} {is : List Nat} {p : SM} (n : Nat) (hp : PassesOwn (model X.prog X.w) X.A X.env X.xe) (hi : PE X iter (trE Y f)) (hg : PG X t gg) (og : OG Y.T gg tg is) (hb : PSs X body (trS Y p)) (hc : X.calm = true := by rfl)
    (hs : ∀ x, foldedSetIterable iter X.env x = pure x := by intro _; rfl) : PS X (.For t iter body [] pos) (trS Y (sForH n f tg p)) := PS.imp (ps_for hp hc (pi_list hi) hg hb hs) fun Dn σ H q => by
  obtain ⟨gh, sd, own, R, S, q⟩ := q
  refine s_bind R S q fun g1 o1 x v H1 R1 S1 e1 rx q1 => ?_
  match x, rx, q1 with
  | .d d, rx, q1 => obtain ⟨r, e, _⟩ := q1; cases e
  | .h k, rx, q1 =>
    obtain ⟨hk, rfl⟩ := rx
    have first : ∃ ys, o1[k]? = some (.lst ys) := by
      obtain ⟨r, e, _⟩ := q1
      cases n with
      | zero => cases e
      | succ n =>
        have e : forH k tg p (n + 1) 0 sd o1 = some r := e
        unfold forH at e
        cases eo : o1[k]? with
        | none => rw [eo] at e; cases e
        | some o =>
          cases o with
          | lst ys => exact ⟨ys, rfl⟩
          | _ => rw [eo] at e; cases e
    obtain ⟨ys, eo⟩ := first
    obtain ⟨vs0, hv0, _⟩ := at_own R1 eo
    refine ⟨g1.ρ k, rfl, ⟨vs0, SqL.of hv0⟩, fun i m σ H => ∃ g2 sd2 o2, HRel Y.T Y.B g2 o2 H ∧ SRel Y.T g2 o2.length sd2 σ ∧ g2.ρ k = g1.ρ k ∧ k < o2.length ∧ SAt Y g2 sd2 o2 Dn (forH k tg p m i), ⟨n, g1, sd, o1, R1, S1, rfl, hk, q1⟩, ?_⟩
    rintro i m σ2 H2 ⟨g2, sd2, o2, R2, S2, l2, hk2, r, er, kk⟩
    cases m with
    | zero => cases er
    | succ m =>
      unfold forH at er
      cases eo : o2[k]? with
      | none => rw [eo] at er; cases er
      | some o =>
        cases o with
        | dead => rw [eo] at er; cases er
        | dic _ _ => rw [eo] at er; cases er
        | ins _ _ => rw [eo] at er; cases er
        | dih _ _ => rw [eo] at er; cases er
        | lst ys =>
          simp only [eo] at er
          obtain ⟨vs, hv, rv⟩ := at_own R2 eo
          rw [l2] at hv
          cases ey : ys[i]? with
          | none =>
            simp only [ey] at er
            cases er
            refine .inl ⟨⟨vs, SqL.of hv, ?_⟩, kk g2 σ2 H2 R2 S2 .rfl'⟩
            rw [← rv.length]
            exact List.getElem?_eq_none_iff.mp ey
          | some d =>
            simp only [ey] at er
            obtain ⟨w, hw, rw'⟩ := rv.get ey
            refine .inr ⟨⟨vs, w, SqL.of hv, hw⟩, fun σ' H' => ∃ g2 sd2 o2, HRel Y.T Y.B g2 o2 H' ∧ SRel Y.T g2 o2.length sd2 σ' ∧ g2.ρ k = g1.ρ k ∧ k < o2.length ∧ SAt Y g2 sd2 o2 Dn (forH k tg p m (i + 1)),
              fun σ' H' z => ⟨m, Nat.lt_succ_self m, z⟩, fun x H' y => ?_⟩
            obtain ⟨y1, y2⟩ := y
            subst y1
            have hx := y2 vs (SqL.of hv)
            rw [hw] at hx
            cases hx
            cases et : tg d sd2 with
            | none => simp only [et] at er; cases er
            | some sd3 =>
              simp only [et] at er
              refine og _ g2 o2 _ d w sd2 sd3 σ2 _ R2 rw' S2 et fun σ3 S4 _ => ?_
              cases eb : p sd3 o2 with
              | none => simp only [eb] at er; cases er
              | some rb =>
                simp only [eb] at er
                refine ⟨g2, sd3, o2, R2, S4, rb, eb, ?_⟩
                cases rb with
                | nx sd5 o5 => exact fun g5 σ5 H5 R5 S5 e5 => ⟨g5, sd5, o5, R5, S5, (e5.ρ k hk2).trans l2, Nat.lt_of_lt_of_le hk2 e5.le, r, er, kk.shift e5⟩
                | ct sd5 o5 => exact fun g5 σ5 H5 R5 S5 e5 => ⟨g5, sd5, o5, R5, S5, (e5.ρ k hk2).trans l2, Nat.lt_of_lt_of_le hk2 e5.le, r, er, kk.shift e5⟩
                | bk sd5 o5 => cases er; exact kk
                | rt s o5 => cases er; exact kk
                | ex cc fs sd5 o5 => cases er; exact kk
/-! ### .. in a comprehension -/
def lcH (k : Nat) (tg : GM) (t : TM) (f : EM) (sd0 : Sl) : Nat → Nat → Own → Option (List D × Own)
  | 0, _, _ => none
  | n + 1, i, own => match own[k]? with
    | some (.lst ys) => (match ys[i]? with
      | none => some ([], own)
      | some x => (match tg x sd0 with
        | none => none
        | some sd1 => (match t sd1 own with
          | some (.ok true, o1) => (match f sd1 o1 with
            | some (.ok (.d d), o2) => (match lcH k tg t f sd0 n (i + 1) o2 with
              | some (ds, o3) => some (d :: ds, o3)
              | none => none)
            | _ => none)
          | some (.ok false, o1) => lcH k tg t f sd0 n (i + 1) o1
          | _ => none)))
    | _ => none
def eLCH (n : Nat) (src : EM) (vs : List Nat) (tg : GM) (t : TM) (f : EM) : EM := src.bind fun x => match x with
  | .h k => fun sd own => (match lcH k tg t f (wipeD sd vs) n 0 own with
    | some (ds, o) => if ds.length < sizeLine then some (.ok (.d (.lst ds)), o) else none
    | none => none)
  | .d _ => M.fail
section
variable {X : Cx} {Y : Cy} {tgx iter elt : Expr} {ifs : List Expr} {scope : Scope} {own : List (Str × Nat)} {pos : Pos} {src : EM} {tg : GM} {gg : TG} {is : List Nat} {t : TM} {f : EM}
theorem guard_none {B : Hp} {g g' : Gh} {n n' : Nat} {p : Addr} {u : HO} (e : GExt (upd B p u) g n g' n') (h : g.F p = none) : g'.F p = none := by
  cases q : g'.F p with
  | none => rfl
  | some w =>
    rcases e.fb _ _ q with z | z
    · rw [h] at z; cases z
    · rw [upd_same] at z; cases z
theorem lcH_at (n : Nat) (og : OG Y.T gg tg is) (hv : ∀ i ∈ is, i ∈ own.map (·.2)) {σ : L2.St} {H : Hp} {Q : VK} (q : trE Y (eLCH n src (own.map (·.2)) tg t f) σ H Q) : tLc (iList Y.T.K (trE Y src)) gg (anyT Y.T t) (anyB Y.T f) (own.map (·.2)) σ H Q := by
  obtain ⟨gh, sd, own0, R, S, q⟩ := q
  refine at_bind R S q fun g1 o1 x v H1 R1 S1 e1 rx q1 => ?_
  match x, rx, q1 with
  | .d d, rx, q1 => exact (at_fail q1).elim
  | .h k, rx, q1 =>
    obtain ⟨hk, rfl⟩ := rx
    obtain ⟨r, own', e, kq⟩ := q1
    cases el : lcH k tg t f (wipeD sd (own.map (·.2))) n 0 o1 with
    | none => simp only [el] at e; cases e
    | some p =>
      obtain ⟨ds, oF⟩ := p
      simp only [el] at e
      by_cases hz : ds.length < sizeLine
      case neg => rw [if_neg hz] at e; cases e
      rw [if_pos hz] at e
      cases e
      have first : ∃ ys, o1[k]? = some (.lst ys) := by
        cases n with
        | zero => cases el
        | succ n =>
          unfold lcH at el
          cases eo : o1[k]? with
          | none => rw [eo] at el; cases el
          | some o =>
            cases o with
            | lst ys => exact ⟨ys, rfl⟩
            | _ => rw [eo] at el; cases el
      obtain ⟨ys, eo⟩ := first
      obtain ⟨vs0, hv0, _⟩ := at_own R1 eo
      refine ⟨g1.ρ k, rfl, ⟨vs0, SqL.of hv0⟩, fun Dn hD => ?_⟩
      obtain ⟨hB, hF⟩ := R1.free hD
      refine ⟨fun i m H => ∃ (acc : List D) (accV : List V) (rest : List D) (g2 : Gh) (o2 : Own), HRel Y.T (upd Y.B Dn (.lst accV)) g2 o2 H ∧ g2.F Dn = none ∧ Reps Y.T g2.F acc accV ∧
        GExt Y.B g1 o1.length g2 o2.length ∧ lcH k tg t f (wipeD sd (own.map (·.2))) m i o2 = some (rest, own') ∧ acc ++ rest = ds,
        ⟨n, [], [], ds, g1, o1, R1.guard hD, hF, .nil, .rfl', el, rfl⟩, ?_⟩
      rintro i m H2 ⟨acc, accV, rest, g2, o2, R2, F2, r2, e2, l2, ea⟩
      cases m with
      | zero => cases l2
      | succ m =>
        unfold lcH at l2
        cases eo : o2[k]? with
        | none => rw [eo] at l2; cases l2
        | some o =>
          cases o with
          | dead => rw [eo] at l2; cases l2
          | dic _ _ => rw [eo] at l2; cases l2
          | ins _ _ => rw [eo] at l2; cases l2
          | dih _ _ => rw [eo] at l2; cases l2
          | lst ys =>
            simp only [eo] at l2
            obtain ⟨vs, hvs, rv⟩ := at_own R2 eo
            rw [e2.ρ k hk] at hvs
            cases ey : ys[i]? with
            | none =>
              simp only [ey] at l2
              cases l2
              rw [List.append_nil] at ea
              subst ea
              obtain ⟨R3, e3⟩ := R2.unguard F2 hB
              refine .inl ⟨⟨vs, SqL.of hvs, ?_⟩, kq _ _ H2 R3 (e2.trans e3) (Rep.lst upd_same (r2.le e3.F))⟩
              rw [← rv.length]
              exact List.getElem?_eq_none_iff.mp ey
            | some d =>
              simp only [ey] at l2
              obtain ⟨w, hw, rw'⟩ := rv.get ey
              refine .inr ⟨⟨vs, w, SqL.of hvs, hw⟩, fun H' => ∃ (acc : List D) (accV : List V) (rest : List D) (g2 : Gh) (o2 : Own), HRel Y.T (upd Y.B Dn (.lst accV)) g2 o2 H' ∧ g2.F Dn = none ∧ Reps Y.T g2.F acc accV ∧
                GExt Y.B g1 o1.length g2 o2.length ∧ lcH k tg t f (wipeD sd (own.map (·.2))) m (i + 1) o2 = some (rest, own') ∧ acc ++ rest = ds, fun H' z => ⟨m, Nat.lt_succ_self m, z⟩, fun x H' y => ?_⟩
              obtain ⟨y1, y2⟩ := y
              subst y1
              have hx := y2 vs (SqL.of hvs)
              rw [hw] at hx
              cases hx
              have S3 : SRel Y.T g2 o2.length sd σ := S1.ext e2
              cases et : tg d (wipeD sd (own.map (·.2))) with
              | none => simp only [et] at l2; cases l2
              | some sd3 =>
                simp only [et] at l2
                refine og _ g2 o2 _ d w _ sd3 _ _ R2 rw' (srel_wipe S3 _) et fun σ3 S4 u => ⟨wipe_eq u hv, ?_⟩
                cases ec : t sd3 o2 with
                | none => simp only [ec] at l2; cases l2
                | some pc =>
                  obtain ⟨rc, o3⟩ := pc
                  cases rc with
                  | ex cc fs => simp only [ec] at l2; cases l2
                  | ok bb =>
                    simp only [ec] at l2
                    refine ⟨upd Y.B Dn (.lst accV), g2, sd3, o2, R2, S4, .ok bb, o3, ec, fun g4 b' H4 R4 e4 eb => ?_⟩
                    obtain rfl : bb = b' := eb
                    have F4 : g4.F Dn = none := guard_none e4 F2
                    have e34 := e4.less (B := Y.B) (Le.upd hB)
                    cases bb with
                    | false =>
                      rw [if_neg (by decide)]
                      simp only at l2
                      exact ⟨acc, accV, rest, g4, o3, R4, F4, r2.le e4.F, e2.trans e34, l2, ea⟩
                    | true =>
                      rw [if_pos rfl]
                      simp only at l2
                      cases ef : f sd3 o3 with
                      | none => simp only [ef] at l2; cases l2
                      | some pf =>
                        obtain ⟨rf, o4⟩ := pf
                        cases rf with
                        | ex cc fs => simp only [ef] at l2; cases l2
                        | ok s =>
                          cases s with
                          | h kk => simp only [ef] at l2; cases l2
                          | d d2 =>
                            simp only [ef] at l2
                            cases er : lcH k tg t f (wipeD sd (own.map (·.2))) m (i + 1) o4 with
                            | none => simp only [er] at l2; cases l2
                            | some pr =>
                              obtain ⟨rs, o5⟩ := pr
                              simp only [er] at l2
                              cases l2
                              refine ⟨upd Y.B Dn (.lst accV), g4, sd3, o3, R4, S4.ext e4, .ok (.d d2), o4, ef, fun g5 v H5 R5 e5 rv => ?_⟩
                              have F5 : g5.F Dn = none := guard_none e5 F4
                              have e345 := (e4.trans e5).less (B := Y.B) (Le.upd hB)
                              have r5 := r2.le (e4.F.trans e5.F)
                              have hlen : acc.length < ds.length := by rw [← ea]; simp
                              exact ⟨accV, R5.b _ _ upd_same, by rw [← r2.length]; omega, acc ++ [d2], accV ++ [v], rs, g5, o4, R5.reb F5, F5, r5.snoc rv, e2.trans e345, er, by rw [← ea]; simp⟩
theorem r_lcH (n : Nat) (hN : X.N.Nodup) (hi : PE X iter (trE Y src)) (ok : BlkOk X.N X.env.scope scope own) (hg : ∀ (s : Shared) (H : Hp) (C : Addr) (cl : List (Str × Addr)) (fp : List Addr), PG (X.blk s H scope (compEnvC scope cl C X.env) fp) tgx gg) (og : OG Y.T gg tg is) (hv : ∀ i ∈ is, i ∈ own.map (·.2))
    (ht : ∀ (B : Hp) (s : Shared) (H : Hp) (C : Addr) (cl : List (Str × Addr)) (fp : List Addr), PTs (X.blk s H scope (compEnvC scope cl C X.env) fp) ifs (trT ⟨Y.T, B, E00⟩ t))
    (he : ∀ (B : Hp) (s : Shared) (H : Hp) (C : Addr) (cl : List (Str × Addr)) (fp : List Addr), PE (X.blk s H scope (compEnvC scope cl C X.env) fp) elt (trE ⟨Y.T, B, E00⟩ f)) (hc : X.calm = true := by rfl) (hK : X.K = Y.T.K := by rfl) (hs : ∀ x, foldedSetIterable iter X.env x = pure x := by intro _; rfl) :
    PE X (.ListComp elt [⟨tgx, iter, ifs, 0⟩] scope pos) (trE Y (eLCH n src (own.map (·.2)) tg t f)) :=
  PE.imp (pe_lc hc hN (pi_list hi) ok hg (fun s H C cl fp => pt_any fun B => ht B s H C cl fp) (fun s H C cl fp => pe_any fun B => he B s H C cl fp) hs) fun _ _ _ q => by rw [hK]; exact lcH_at n og hv q
theorem rs_setLcH {i : Nat} {y : Str} {py spos : Pos} (n : Nat) (hN : X.N.Nodup) (hi : PE X iter (trE Y src)) (ok : BlkOk X.N X.env.scope scope own)
    (hg : ∀ (s : Shared) (H : Hp) (C : Addr) (cl : List (Str × Addr)) (fp : List Addr), PG (X.blk s H scope (compEnvC scope cl C X.env) fp) tgx gg) (og : OG Y.T gg tg is) (hv : ∀ i ∈ is, i ∈ own.map (·.2))
    (ht : ∀ (B : Hp) (s : Shared) (H : Hp) (C : Addr) (cl : List (Str × Addr)) (fp : List Addr), PTs (X.blk s H scope (compEnvC scope cl C X.env) fp) ifs (trT ⟨Y.T, B, E00⟩ t))
    (he : ∀ (B : Hp) (s : Shared) (H : Hp) (C : Addr) (cl : List (Str × Addr)) (fp : List Addr), PE (X.blk s H scope (compEnvC scope cl C X.env) fp) elt (trE ⟨Y.T, B, E00⟩ f)) (hy : X.N[i]? = some y := by rfl) (hyl : X.env.scope.names.lookup y = some .local := by rfl)
    (hsw : swapsWith (.ListComp elt [⟨tgx, iter, ifs, 0⟩] scope pos) (some (.Name y py)) spos.line X.env = pure true := by exact sw_true rfl rfl rfl (by decide +kernel)) (hc : X.calm = true := by rfl) (hK : X.K = Y.T.K := by rfl) (hs : ∀ x, foldedSetIterable iter X.env x = pure x := by intro _; rfl) :
    PS X (.Assign [.Name y py] (.ListComp elt [⟨tgx, iter, ifs, 0⟩] scope pos) spos) (trS Y (sSet i (eLCH n src (own.map (·.2)) tg t f))) :=
  PS.imp (ps_setLc hc hN hy hyl hsw (pi_list hi) ok hg (fun s H C cl fp => pt_any fun B => ht B s H C cl fp) (fun s H C cl fp => pe_any fun B => he B s H C cl fp) hs) fun D σ H q => by
    rw [hK]
    refine lcH_at n og hv ?_
    obtain ⟨gh, sd, own0, R, S, q⟩ := q
    refine s_bind R S q fun g1 o1 x v H1 R1 S1 e1 rx q1 => ?_
    exact sat_nx q1 rfl g1 _ H1 R1 (S1.set rx) .rfl'
end
end Gx
end T_GxN3
section T_GxN4
set_option Elab.async false
set_option linter.all false
set_option maxRecDepth 100000
set_option maxHeartbeats 4000000
namespace Gx
open PySem PySem.Spec PyProof.Rows L2

/-! ## contexts -/
theorem cx_blk {X : Cx} {T : Tb} {B : Hp} (hK : X.K = T.K := by rfl) : CxOk X ⟨T, B, E00⟩ := ⟨hK, fun σ pins H s e s' I h => passL pins σ H s e s' I h⟩
section
variable {P : Program} {w : World} {K : PySem.W.Frag} {mg : Str → Option Value} {base : Heap} {N : List Str} {qual : Str} {sc : Scope} {f : Addr} {cdv : Value} {A : Around} {outer : List Env} {s : Shared} {H : Hp} {E : XK} {T : Tb} {B : Hp}
theorem tk_def : Takes (cxOf (L2.CX P w) P w K mg base N qual sc f cdv A outer s H E) (WY ⟨T, B, fun _ => E⟩) := takes_of rfl rfl rfl rfl
theorem cx_def (hK : K = T.K := by rfl) : CxOk (cxOf (L2.CX P w) P w K mg base N qual sc f cdv A outer s H E) ⟨T, B, fun _ => E⟩ := ⟨hK, fun σ => passAt (W := WY ⟨T, B, fun _ => E⟩) tk_def σ⟩
end
/-! ## constants -/
/-- a tuple of texts that the module's top has written -/
structure TupC (K : PySem.W.Frag) (mg : Str → Option Value) (x : Str) (ys : List Str) : Prop where
  ex : ∃ (a : Addr) (o : Obj) (its : Array Value) (n : Nat), mg x = some (.ref a) ∧ K.lookup a = some o ∧ o.cls = .type "tuple" ∧ o.data = .seq its n ∧ its.size ≤ sizeLine ∧ Vals (ys.map V.str) its.toList
theorem reps_str {T : Tb} {F : Hp} : ∀ ys : List Str, Reps T F (ys.map D.str) (ys.map V.str)
  | [] => .nil
  | y :: ys => .cons (.str y) (reps_str ys)
theorem r_gt {X : Cx} {Y : Cy} {x : Str} {ys : List Str} {pos : Pos} {ds : List D} (c : TupC X.K X.mg x ys) (hK : X.K = Y.T.K := by rfl) (hd : ds = ys.map D.str := by rfl) (hg : Gl X x := by rfl) (hdb : (x == ("__debug__" : Str)) = false := by decide) : PE X (.Name x pos) (trE Y (eK (.tup ds))) := by
  obtain ⟨a, o, its, n, hm, hk, hc, hdt, hz, hv⟩ := c.ex
  rw [hd]
  exact r_k (pe_glob hg hm (v := .ref a) rfl hdb) fun F => .tup (.inr ⟨o, its, n, by rw [← hK]; exact hk, hc, hdt, hz, hv⟩) (reps_str ys)
/-! ## the drawing of the row, the law -/
/-- _law_draws: a copy of the script, then 0, 0, 7 -/
def spDraw (K : PySem.W.Frag) : Sp := fun vs H Q _ => ∃ (a : Addr) (ns : List Int), vs = [.ref a] ∧ SqL K H a (ns.map V.int) ∧ ∀ l p, H l = none → H p = none → p ≠ l → Q (.ref p) (upd (upd H l (.lst (ns.map V.int))) p (.lst [.ref l, .int 0, .int 0, .int 7]))
def spLaw (K : PySem.W.Frag) : Sp := fun vs H Q _ => ∃ (a : Addr) (ns : List Int), vs = [.ref a] ∧ ns.length ≤ 63 ∧ SqL K H a (ns.map V.int) ∧ ∀ H', Q (.bl true) H'
section
variable {P : Program} {w : World} {K : PySem.W.Frag} {mg : Str → Option Value} {base : Heap}
theorem draws_ok {st : Stmt} {f : Addr} {fd : FuncData} {p1 p2 p3 p4 p5 p6 p7 p8 : Pos} {j1 j2 j3 : Nat} (F : Fun K "_law_draws" "_law_draws" st f fd) (S : FnScope ["_law_script"] ["_law_script"] (defScope st)) (hl : mg "list" = none) (hg : (defScope st).names.lookup ("list" : Str) = some .globalImplicit)
    (hs : (defScope st).names.lookup ("_law_script" : Str) = some .local)
    (hb : defBody st = [.Return (some (.List [.Call (.Name "list" p1) [.Name "_law_script" p2] [] p3, .Constant (.int 0) j1 p4, .Constant (.int 0) j2 p5, .Constant (.int 7) j3 p6] p7)) p8]) : FnOk P w K mg base (L2.CX P w) 1 f fd ["_law_script"] (spDraw K) := by
  refine F.okX (k := 0) S (fun vs H Q E h => ?_) (fun cdv A outer s H vs Q E hr h => ?_)
  · obtain ⟨a, ns, rfl, _⟩ := h
    rfl
  · obtain ⟨a, ns, rfl, hS, h⟩ := h
    rw [hb]
    refine ⟨_, pss_one (ps_ret (pe_lst (pa_cons (pe_callTy call_list_of hg hl (by decide +kernel) (pa_cons (pe_var (i := 0) rfl (.inl hs)) pa_nil)) (pa_cons pe_int (pa_cons pe_int (pa_cons pe_int pa_nil)))))), ?_⟩
    refine ⟨_, rfl, a, _, rfl, .inl hS, fun l hl => ?_⟩
    refine ⟨(by show 4 ≤ sizeLine; rw [sizeLine_eq]; decide), fun p hp => ?_⟩
    have hpl : p ≠ l := fun z => by rw [z, upd_same] at hp; cases hp
    exact h l p hl (by rw [← upd_ne (H := H) (o := .lst (ns.map V.int)) hpl]; exact hp) hpl
/-- the law's names at the second statement: the script is not looked at again -/
def lawSl (n : Nat) : Sl := none :: some (.h 0) :: List.replicate (n - 2) none
def lawRow (ns : List Int) : Own := [.lst [.lst (ns.map D.int), .int 0, .int 0, .int 7]]
theorem reps_int {T : Tb} {F : Hp} : ∀ ns : List Int, Reps T F (ns.map D.int) (ns.map V.int)
  | [] => .nil
  | y :: ys => .cons (.int y) (reps_int ys)
theorem law_of {T : Tb} {st : Stmt} {f : Addr} {fd : FuncData} {N : List Str} {k : Nat} {rest : List Stmt} {Lr : SM} {p1 p2 p3 p4 p5 : Pos} (F : Fun K "law" "law" st f fd) (S : FnScope N ["_law_script"] (defScope st)) (hk : 1 ≤ k) (h0 : N[0]? = some ("_law_script" : Str)) (h1 : N[1]? = some ("_law_row" : Str))
    (v0 : (defScope st).names.lookup ("_law_script" : Str) = some .local) (v1 : (defScope st).names.lookup ("_law_row" : Str) = some .local) (vg : (defScope st).names.lookup ("_law_draws" : Str) = some .globalImplicit)
    (dr : ∃ (f' : Addr) (fd' : FuncData), mg "_law_draws" = some (.ref f') ∧ PySem.W.keepIn K (.ref f') = true ∧ Binds K fd' ["_law_script"] [] ∧ FnOk P w K mg base (L2.CX P w) 1 f' fd' ["_law_script"] (spDraw K))
    (hb : defBody st = .Assign [.Name "_law_row" p1] (.Call (.Name "_law_draws" p2) [.Name "_law_script" p3] [] p4) p5 :: rest)
    (hsw : ∀ env : Env, swapsWith (.Call (.Name "_law_draws" p2) [.Name "_law_script" p3] [] p4) (some (.Name "_law_row" p1)) p5.line env = pure false)
    (hrest : ∀ (cdv : Value) (A : Around) (outer : List Env) (s : Shared) (H : Hp) (E : XK) (B : Hp), Room k (A.deeper (envOfC "law" (defScope st) s.heap.objs.size f cdv)) →
      PSs (cxOf (L2.CX P w) P w K mg base N "law" (defScope st) f cdv A outer s H E) rest (trS ⟨T, B, fun _ => E⟩ Lr))
    (hsem : ∀ ns : List Int, ns.length ≤ 63 → ∃ own', Lr (lawSl N.length) (lawRow ns) = some (.rt (.d (.bl true)) own')) :
    FnOk P w K mg base (L2.CX P w) (k + 1) f fd ["_law_script"] (spLaw K) := by
  obtain ⟨f', fd', hm, hkp, hbd, FD⟩ := dr
  refine F.okX (k := k) S (fun vs H Q E h => ?_) (fun cdv A outer s H vs Q E hr h => ?_)
  · obtain ⟨a, ns, rfl, _⟩ := h
    rfl
  · obtain ⟨a, ns, rfl, hl, hS, hQ⟩ := h
    rw [hb]
    have hN2 : 2 ≤ N.length := by
      have := (List.getElem?_eq_some_iff.mp h1).1
      omega
    refine ⟨_, pss_cons (ps_set (i := 1) S.nd h1 (.inl v1) (pe_call FD (hr.mono hk) vg hm hkp hbd .nil passL (pa_cons (pe_var h0 (.inl v0)) pa_nil)) (hsw _)) (hrest cdv A outer s H E H hr), ?_⟩
    refine ⟨.ref a, rfl, a, ns, rfl, hS, fun l p hl0 hp0 hpl => ?_⟩
    obtain ⟨own', hs⟩ := hsem ns hl
    have R0 : HRel T H ⟨fun _ => none, fun _ => 0⟩ [] H := hrel_fresh (F := fun _ => none) fun a o e => by cases e
    obtain ⟨R1, e1⟩ := R0.new hl0 (.lst (ns.map V.int))
    have hp1 : upd H l (.lst (ns.map V.int)) p = none := by rw [upd_ne hpl]; exact hp0
    obtain ⟨R2, e2⟩ := R1.made (ho := .lst [.ref l, .int 0, .int 0, .int 7]) (o := .lst [.lst (ns.map D.int), .int 0, .int 0, .int 7]) hp1
      ⟨[.ref l, .int 0, .int 0, .int 7], upd_same, .cons (.lst upd_same (reps_int ns)) (.cons (.int 0) (.cons (.int 0) (.cons (.int 7) .nil)))⟩
    refine ⟨_, lawSl N.length, lawRow ns, R2, ⟨?_, fun i sv e => ?_⟩, _, hs, fun g' v H' R' e' rv => ?_⟩
    · show ((L2.start N [V.ref a]).set 1 (some (V.ref p))).length = (lawSl N.length).length
      rw [List.length_set]
      unfold L2.start lawSl
      simp
      omega
    · match i, e with
      | 0, e => cases e
      | 1, e =>
        have e : some (SV.h 0) = some sv := by
          unfold lawSl at e
          simpa using e
        cases e
        refine ⟨.ref p, ?_, (show 0 < 1 by decide), rfl⟩
        rw [List.getElem?_set_self]
        unfold L2.start
        simp
        omega
      | i + 2, e =>
        unfold lawSl at e
        simp only [List.getElem?_cons_succ, List.getElem?_replicate] at e
        split at e <;> cases e
    · have rv : Rep T g'.F (.bl true) v := rv
      cases rv
      exact hQ H'
end
end Gx
end T_GxN4
section T_GxN5
set_option Elab.async false
set_option linter.all false
set_option maxRecDepth 100000
set_option maxHeartbeats 4000000
namespace Gx
open PySem PySem.Spec PyProof.Rows L2
section
variable {X : Cx} {Y : Cy} {pos : Pos} {a : Expr} {f : EM}
theorem r_neg (h : PE X a (trE Y f)) : PE X (.UnaryOp .USub a pos) (trE Y (eU mNeg f)) := by
  refine PE.imp (pe_un un_neg h) fun σ H Q q => ?_
  obtain ⟨gh, sd, own, R, S, q⟩ := q
  refine at_bind R S q fun g1 o1 x v H1 R1 S1 e1 rx q1 => ?_
  obtain ⟨s, es, k⟩ := at_ask q1
  obtain ⟨d, e2, e3⟩ := Option.map_eq_some_iff.mp es
  subst e3
  cases x with
  | h k => cases e2
  | d x =>
    cases x with
    | int i => cases e2; exact ⟨i, sv_int rx, k g1 _ H1 R1 .rfl' (Rep.int _)⟩
    | _ => cases e2
/-- {} that is not to change -/
def eDic0 : EM := M.ret (.d (.dic [] []))
theorem r_dic0 : PE X (.Dict [] [] pos) (trE Y eDic0) := by
  refine PE.imp pe_dnewK fun σ H Q q => ?_
  obtain ⟨gh, sd, own, R, S, q⟩ := q
  have k := at_ret q
  intro p hp
  obtain ⟨R2, e2⟩ := R.new hp (.dK [])
  exact k _ _ _ R2 e2 (Rep.dic (kvs := []) (.inl upd_same) rfl .nil)
/-- {} of one's own -/
def eDicH : EM := fun _ own => some (.ok (.h own.length), own ++ [.dic [] []])
theorem r_dicH : PE X (.Dict [] [] pos) (trE Y eDicH) := by
  refine PE.imp pe_dnewK fun σ H Q q => ?_
  obtain ⟨gh, sd, own, R, S, r, own', e, k⟩ := q
  cases e
  intro p hp
  obtain ⟨R2, e2⟩ := R.made (ho := .dK []) (o := .dic [] []) hp ⟨[], upd_same, rfl, .nil⟩
  exact k _ _ _ R2 e2 ⟨by simp, by simp⟩
variable {x : Str}
theorem r_ty (k : Nat) (hm : X.mg x = none) (hv : bootBuiltins x = some (.type (tyName k)) := by decide +kernel) (hg : Gl X x := by rfl) (hn : x ≠ "__name__" := by decide) (hdb : (x == ("__debug__" : Str)) = false := by decide) : PE X (.Name x pos) (trE Y (eK (.ty k))) :=
  r_k (v := .ty (tyName k)) (pe_bltn hg hm hv rfl hn hdb) fun _ => .ty k
theorem r_ci (i : Int) (hm : ∃ t, X.mg x = some (.int i t)) (hg : Gl X x := by rfl) (hdb : (x == ("__debug__" : Str)) = false := by decide) : PE X (.Name x pos) (trE Y (eK (.int i))) := by
  obtain ⟨t, hm⟩ := hm
  exact r_k (v := .int i) (pe_glob hg hm ⟨t, rfl⟩ hdb) fun _ => .int i
theorem r_cs (i : Str) (hm : ∃ t, X.mg x = some (.str i t)) (hg : Gl X x := by rfl) (hdb : (x == ("__debug__" : Str)) = false := by decide) : PE X (.Name x pos) (trE Y (eK (.str i))) := by
  obtain ⟨t, hm⟩ := hm
  exact r_k (v := .str i) (pe_glob hg hm ⟨t, rfl⟩ hdb) fun _ => .str i
theorem r_cl (c : Nat) (hm : X.mg x = some (.ref (Y.T.ct c))) (hg : Gl X x := by rfl) (hdb : (x == ("__debug__" : Str)) = false := by decide) : PE X (.Name x pos) (trE Y (eK (.cls c))) :=
  r_k (v := .ref (Y.T.ct c)) (pe_glob hg hm rfl hdb) fun _ => .cls c
end
end Gx
end T_GxN5
section T_GxN6
set_option Elab.async false
set_option linter.all false
set_option maxRecDepth 100000
set_option maxHeartbeats 4000000
namespace Gx
open PySem PySem.Spec PyProof.Rows L2

/-! ## what the written part says, put together -/
def ctOf (l : List (Nat × Addr)) : Nat → Addr := fun c => (l.lookup c).getD 0
/-- an own class in raw words -/
structure OwnK (K : PySem.W.Frag) (C : Addr) : Prop where
  pg : PySem.W.plainGet K C Str.empty = true
  hd : PySem.W.hasDictIn K C = true
  po : PySem.W.plainOver K C = true
  sa : PySem.W.findIn K (.ref C) "__setattr__" = some (some (.builtin "object.__setattr__"))
  ha : PySem.W.findIn K (.ref C) "__class__" = some (some (.builtin "object.__class__"))
  hn : PySem.W.specialIn K (.builtin "object.__class__") "__get__" = some (some (.builtin "getset_descriptor.__get__"))
  ht : PySem.W.takesIn K (.builtin "object.__class__") = some true
  hm : PySem.W.mroIn K C (.type "object") = some true
  ic : PySem.W.isClsIn K C = true
  ty : PySem.W.typeIn K (.ref C) = some (.type "type")
  sf : PySem.W.subIn K (.ref C) (.ref C) = some true
  b0 : PySem.W.subIn K (.type "int") (.ref C) = some false
  b1 : PySem.W.subIn K (.type "bool") (.ref C) = some false
  b2 : PySem.W.subIn K (.type "str") (.ref C) = some false
  b3 : PySem.W.subIn K (.type "tuple") (.ref C) = some false
  b4 : PySem.W.subIn K (.type "list") (.ref C) = some false
  b5 : PySem.W.subIn K (.type "dict") (.ref C) = some false
  b6 : PySem.W.subIn K (.type "NoneType") (.ref C) = some false
  n0 : PySem.W.subIn K (.ref C) (.type "int") = some false
  n1 : PySem.W.subIn K (.ref C) (.type "bool") = some false
  n2 : PySem.W.subIn K (.ref C) (.type "str") = some false
  n3 : PySem.W.subIn K (.ref C) (.type "tuple") = some false
  n4 : PySem.W.subIn K (.ref C) (.type "list") = some false
  n5 : PySem.W.subIn K (.ref C) (.type "dict") = some false
  n6 : PySem.W.subIn K (.ref C) (.type "NoneType") = some false
section
variable {K : PySem.W.Frag} {C C2 : Addr}
theorem kit_cl {t : Value} {b : Bool} (ic : PySem.W.isClsIn K C = true) (ty : PySem.W.typeIn K (.ref C) = some (.type "type")) (sf : PySem.W.subIn K (.ref C) (.ref C) = some true) (h : PySem.W.subIn K t (.ref C) = some b) : PySem.W.kitOne K t (.ref C) = some b := by
  have ic2 : (PySem.W.clsIn K C).isSome = true := ic
  unfold PySem.W.kitOne
  by_cases e : (t == Value.ref C) = true
  · rw [if_pos e]
    have e2 : t = .ref C := beq_iff_eq.mp e
    rw [e2, sf] at h
    exact h
  · rw [if_neg e]
    show (if ((PySem.W.clsIn K C).isSome && PySem.W.typeIn K (.ref C) == some (.type "type")) = true then PySem.W.subIn K t (.ref C) else none) = some b
    rw [ic2, ty]
    exact h
theorem kit_bt {n : String} {b : Bool} (hn : PySem.W.kitMeta n = true) (h : PySem.W.subIn K (.ref C) (.type n) = some b) : PySem.W.kitOne K (.ref C) (.type n) = some b := by
  unfold PySem.W.kitOne
  rw [if_neg (by simp)]
  show (if PySem.W.kitMeta n = true then PySem.W.subIn K (.ref C) (.type n) else none) = some b
  rw [if_pos hn]
  exact h
theorem OwnK.base (o : OwnK K C) : ∀ k < 7, PySem.W.subIn K (.type (tyName k)) (.ref C) = some false := by
  intro k hk
  match k, hk with
  | 0, _ => exact o.b0
  | 1, _ => exact o.b1
  | 2, _ => exact o.b2
  | 3, _ => exact o.b3
  | 4, _ => exact o.b4
  | 5, _ => exact o.b5
  | 6, _ => exact o.b6
theorem meta7 : ∀ k < 7, PySem.W.kitMeta (tyName k) = true := by
  intro k hk
  match k, hk with
  | 0, _ => decide +kernel
  | 1, _ => decide +kernel
  | 2, _ => decide +kernel
  | 3, _ => decide +kernel
  | 4, _ => decide +kernel
  | 5, _ => decide +kernel
  | 6, _ => decide +kernel
theorem OwnK.none_ (o : OwnK K C) : ∀ k < 7, PySem.W.subIn K (.ref C) (.type (tyName k)) = some false := by
  intro k hk
  match k, hk with
  | 0, _ => exact o.n0
  | 1, _ => exact o.n1
  | 2, _ => exact o.n2
  | 3, _ => exact o.n3
  | 4, _ => exact o.n4
  | 5, _ => exact o.n5
  | 6, _ => exact o.n6
theorem OwnK.cls (o : OwnK K C) : Cls K C := ⟨o.pg, o.hd, o.po, o.sa⟩
theorem first_of {t : Value} (h : PySem.W.subIn K t (.ref C) = some false) : PySem.W.notFirst K C t = true := by
  unfold PySem.W.notFirst
  rw [h]
  simp
theorem ownF_of {ct : Nat → Addr} {L : List Nat} (o : ∀ c ∈ L, OwnK K (ct c)) (p : ∀ c ∈ L, ∀ c2 ∈ L, PySem.W.subIn K (.ref (ct c)) (.ref (ct c2)) = some (c == c2)) : OwnF ⟨K, ct⟩ L := by
  refine ⟨fun c hc => ⟨(o c hc).cls, (o c hc).ha, (o c hc).hn, (o c hc).ht, (o c hc).hm⟩, fun c hc c2 hc2 => kit_cl (o c2 hc2).ic (o c2 hc2).ty (o c2 hc2).sf (p c hc c2 hc2), fun k hk c hc => kit_cl (o c hc).ic (o c hc).ty (o c hc).sf ((o c hc).base k hk),
    fun k hk c hc => kit_bt (meta7 k hk) ((o c hc).none_ k hk), fun k hk c hc => first_of ((o c hc).base k hk), fun c hc c2 hc2 => ?_⟩
  have h := p c2 hc2 c hc
  by_cases e : c2 = c
  · subst e
    show PySem.W.notFirst K (ct c2) (.ref (ct c2)) = true
    unfold PySem.W.notFirst
    simp
  · rw [beq_false_of_ne e] at h
    exact first_of h
/-- an exception class in raw words -/
structure ExcK (K : PySem.W.Frag) (C : Addr) : Prop where
  hg : PySem.W.findIn K (.ref C) "__getattribute__" = some (some (.builtin "BaseException.__getattribute__"))
  hk : PySem.W.findIn K (.ref C) "__getattr__" = some none
  hs : PySem.W.subIn K (.ref C) (.type "BaseException") = some true
  hd : PySem.W.hasDictIn K C = true
  ha : PySem.W.findIn K (.ref C) "__class__" = some (some (.builtin "object.__class__"))
  hn : PySem.W.specialIn K (.builtin "object.__class__") "__get__" = some (some (.builtin "getset_descriptor.__get__"))
  ht : PySem.W.takesIn K (.builtin "object.__class__") = some true
  hm : PySem.W.mroIn K C (.type "object") = some true
  ic : PySem.W.isClsIn K C = true
  ty : PySem.W.typeIn K (.ref C) = some (.type "type")
  sf : PySem.W.subIn K (.ref C) (.ref C) = some true
theorem ExcK.excC (o : ExcK K C) : ExcC K C := ⟨o.hg, o.hk, o.hs, o.hd, o.ha, o.hn, o.ht, o.hm⟩
theorem ExcK.xfC (o : ExcK K C) : XfC K C := ⟨o.hg, o.hk, o.hs, o.hd⟩
theorem ExcK.kit {t : Value} {b : Bool} (o : ExcK K C) (h : PySem.W.subIn K t (.ref C) = some b) : PySem.W.kitOne K t (.ref C) = some b := kit_cl o.ic o.ty o.sf h
theorem ExcK.exm {t : Value} {b : Bool} (o : ExcK K C) (h : PySem.W.subIn K t (.ref C) = some b) : PySem.W.exmOne K t (.ref C) = some b := PySem.W.exm_ref o.hs o.hd o.ty h
end

/-- def_ok with what the body's rules ask of the context -/
theorem def_ok2 {P : Program} {w : World} {K : PySem.W.Frag} {mg : Str → Option Value} {base : Heap} {x qual : Str} {st : Stmt} {f : Addr} {fd : FuncData} {N ps : List Str} {k n : Nat} {ct : Nat → Addr} {body : SM}
    (F : Fun K x qual st f fd) (S : FnScope N ps (defScope st)) (hn : ps.length = n)
    (h : ∀ (cdv : Value) (A : Around) (outer : List Env) (s : Shared) (H : Hp) (E : XK) (B : Hp), Room k (A.deeper (envOfC qual (defScope st) s.heap.objs.size f cdv)) →
      Takes (cxOf (L2.CX P w) P w K mg base N qual (defScope st) f cdv A outer s H E) (WY ⟨⟨K, ct⟩, B, fun _ => E⟩) → PassesOwn (model P w) (A.deeper (envOfC qual (defScope st) s.heap.objs.size f cdv)) (envOfC qual (defScope st) s.heap.objs.size f cdv) (cxOf (L2.CX P w) P w K mg base N qual (defScope st) f cdv A outer s H E).xe →
      CxOk (cxOf (L2.CX P w) P w K mg base N qual (defScope st) f cdv A outer s H E) ⟨⟨K, ct⟩, B, fun _ => E⟩ → PSs (cxOf (L2.CX P w) P w K mg base N qual (defScope st) f cdv A outer s H E) (defBody st) (trS ⟨⟨K, ct⟩, B, fun _ => E⟩ body)) :
    FnOk P w K mg base (L2.CX P w) (k + 1) f fd ps (spF ⟨K, ct⟩ n (runDef N.length body)) :=
  def_ok F S hn fun cdv A outer s H E B hr => h cdv A outer s H E B hr tk_def (passes_of rfl) cx_def
theorem law_of2 {P : Program} {w : World} {K : PySem.W.Frag} {mg : Str → Option Value} {base : Heap} {ct : Nat → Addr} {st : Stmt} {f : Addr} {fd : FuncData} {N : List Str} {k : Nat} {rest : List Stmt} {Lr : SM} {p1 p2 p3 p4 p5 : Pos} (F : Fun K "law" "law" st f fd) (S : FnScope N ["_law_script"] (defScope st)) (hk : 1 ≤ k) (h0 : N[0]? = some ("_law_script" : Str)) (h1 : N[1]? = some ("_law_row" : Str))
    (v0 : (defScope st).names.lookup ("_law_script" : Str) = some .local) (v1 : (defScope st).names.lookup ("_law_row" : Str) = some .local) (vg : (defScope st).names.lookup ("_law_draws" : Str) = some .globalImplicit)
    (dr : ∃ (f' : Addr) (fd' : FuncData), mg "_law_draws" = some (.ref f') ∧ PySem.W.keepIn K (.ref f') = true ∧ Binds K fd' ["_law_script"] [] ∧ FnOk P w K mg base (L2.CX P w) 1 f' fd' ["_law_script"] (spDraw K))
    (hb : defBody st = .Assign [.Name "_law_row" p1] (.Call (.Name "_law_draws" p2) [.Name "_law_script" p3] [] p4) p5 :: rest)
    (hsw : ∀ env : Env, swapsWith (.Call (.Name "_law_draws" p2) [.Name "_law_script" p3] [] p4) (some (.Name "_law_row" p1)) p5.line env = pure false)
    (hrest : ∀ (cdv : Value) (A : Around) (outer : List Env) (s : Shared) (H : Hp) (E : XK) (B : Hp), Room k (A.deeper (envOfC "law" (defScope st) s.heap.objs.size f cdv)) →
      Takes (cxOf (L2.CX P w) P w K mg base N "law" (defScope st) f cdv A outer s H E) (WY ⟨⟨K, ct⟩, B, fun _ => E⟩) → PassesOwn (model P w) (A.deeper (envOfC "law" (defScope st) s.heap.objs.size f cdv)) (envOfC "law" (defScope st) s.heap.objs.size f cdv) (cxOf (L2.CX P w) P w K mg base N "law" (defScope st) f cdv A outer s H E).xe →
      CxOk (cxOf (L2.CX P w) P w K mg base N "law" (defScope st) f cdv A outer s H E) ⟨⟨K, ct⟩, B, fun _ => E⟩ → PSs (cxOf (L2.CX P w) P w K mg base N "law" (defScope st) f cdv A outer s H E) rest (trS ⟨⟨K, ct⟩, B, fun _ => E⟩ Lr))
    (hsem : ∀ ns : List Int, ns.length ≤ 63 → ∃ own', Lr (lawSl N.length) (lawRow ns) = some (.rt (.d (.bl true)) own')) :
    FnOk P w K mg base (L2.CX P w) (k + 1) f fd ["_law_script"] (spLaw K) :=
  law_of (T := ⟨K, ct⟩) F S hk h0 h1 v0 v1 vg dr hb hsw (fun cdv A outer s H E B hr => hrest cdv A outer s H E B hr tk_def (passes_of rfl) cx_def) hsem
theorem sup_free {l : List (Str × NameKind)} (h : (l.all fun p => p.2 != .free || p.1 == ("__class__" : Str)) = true) (_ : True = True) : ∀ x, l.lookup x = some .free → x = "__class__" := by
  intro x hx
  have hm := PySem.mem_of_lookup hx
  have h2 := List.all_eq_true.mp h _ hm
  simpa using h2
theorem cx_end {P : Program} {w : World} {H : Hp} {s : Shared} {e : Value} {s' : Shared} (z : L2.CX P w [] H s (fun _ _ _ => False) e s') : False := by
  obtain ⟨_, _, _, _, _, _, _, _, _, _, _, _, z⟩ := z
  exact z.elim
section
variable {K : PySem.W.Frag}
theorem vI_mk {x : Str} {i : Int} {t : Tok} (h : PySem.W.nsIn K mainGlobals x = some (some (.int i t))) : ∃ t, PySem.W.nsIn K mainGlobals x = some (some (.int i t)) := ⟨t, h⟩
theorem vS_mk {x : Str} {i : Str} {t : Tok} (h : PySem.W.nsIn K mainGlobals x = some (some (.str i t))) : ∃ t, PySem.W.nsIn K mainGlobals x = some (some (.str i t)) := ⟨t, h⟩
theorem vT_mk {x : Str} {ys : List Str} {a : Addr} {dd : Option Addr} {its : List Value} {n : Nat} {sl : Array (Option Value)} (h : PySem.W.nsIn K mainGlobals x = some (some (.ref a))) (l : K.lookup a = some ⟨.type "tuple", dd, .seq its.toArray n, sl⟩) (z : its.length ≤ sizeLine) (v : Vals (ys.map V.str) its) :
    ∃ (a : Addr) (o : Obj) (its : Array Value) (n : Nat), PySem.W.nsIn K mainGlobals x = some (some (.ref a)) ∧ K.lookup a = some o ∧ o.cls = .type "tuple" ∧ o.data = .seq its n ∧ its.size ≤ sizeLine ∧ Vals (ys.map V.str) its.toList :=
  ⟨a, _, its.toArray, n, h, l, rfl, rfl, by simpa using z, by simpa using v⟩
end
theorem oexc_mk {K : PySem.W.Frag} {C N : Addr} {nm q : Str} {bs bm : List Value} {sn : List Str} {sub : List Value} {ab : Bool} {col : Option Bool} {dd : Option Addr} {k0 k1 k2 k3 k5 : Option Value}
    (l : K.lookup C = some (excClassObj nm q C N bs bm true sn sub ab col dd k0 k1 k2 k3 k5 "ValueError.__new__")) (r : PySem.HandSPX.refsVE bm = true) (sa : PySem.W.findIn K (.ref C) "__setattr__" = some (some (.builtin "object.__setattr__")))
    (ex : PySem.W.subIn K (.ref C) (.type "BaseException") = some true) (ty : PySem.W.typeIn K (.ref C) = some (.type "type")) (kp : PySem.W.keepIn K (.ref C) = true) : OexC K C := ⟨⟨_, _, _, _, _, _, _, _, _, _, _, _, _, _, _, l, r⟩, sa, ex, ty, kp⟩
theorem sup_mk {P : Program} {K : PySem.W.Frag} {C f cc cda : Addr} {name qual : Str} {params : Arguments} {body : List Stmt} {scope : Scope} {kV doc pm ctv oc : Value} {an od : Option Addr} {osl : Array (Option Value)} {ccl cl : Value} {cdd cld : Option Addr} {vs : Array Value} {ccs csl : Array (Option Value)} {file : Str} {tf : Tok}
    (l : K.lookup f = some ⟨oc, od, .func (PySem.W.ksFn name qual params body scope .none kV doc pm an (.ref cda) ctv cc), osl⟩) (c : PySem.W.codeIn K (.ref cda) qual = true) (f1 : K.lookup cda = some ⟨ccl, cdd, .fields vs, ccs⟩) (f2 : vs[2]? = some (.str file tf)) (f3 : ((P.main.file : Str) == file) = true)
    (c1 : K.lookup cc = some ⟨cl, cld, .cell (some (.ref C)), csl⟩) (tp : (P.main.scope.names.lookup ("super" : Str)).isSome = false) (mgs : PySem.W.nsIn K mainGlobals "super" = some none) (op : PySem.W.nsIn K cStatics "thirdparty.any" = some none)
    (su : PySem.W.ks_superIn K C C "__init__" = some (some (.builtin "ValueError.__init__"))) (mr : PySem.W.mroIn K C (.ref C) = some true) (ve : PySem.W.subIn K (.ref C) (.type "ValueError") = some true) (ec : OexC K C) :
    ∃ fd cc cda, SupDef P K C f cc cda fd qual params body scope :=
  ⟨_, cc, cda, ⟨name, kV, doc, pm, ctv, oc, an, od, osl, rfl, l⟩, c, ⟨_, _, vs, _, file, tf, f1, f2, f3⟩, ⟨_, _, _, c1⟩, tp, mgs, op, su, mr, ve, ec⟩
theorem prop_mk {K : PySem.W.Frag} {C p g : Addr} {f : Str} {rest : List Value} (a : PySem.W.findIn K (.ref C) f = some (some (.ref p))) (b : PySem.W.specialIn K (.ref p) "__get__" = some (some (.builtin "property.__get__"))) (c : PySem.W.takesIn K (.ref p) = some true) (d : PySem.W.recIn K p "property" = some (.ref g :: rest)) : PropOf K C f p g := ⟨a, b, c, rest, d⟩
theorem fn_mk {K : PySem.W.Frag} {x qual : Str} {st : Stmt} {f : Addr} {oc : Value} {od an : Option Addr} {osl : Array (Option Value)} {kV doc pm cdv ctv : Value} (l : K.lookup f = some ⟨oc, od, .func (PySem.W.fnOf x qual (defArgs st) (defBody st) (defScope st) .none kV doc pm an cdv ctv), osl⟩)
    (c : PySem.W.codeIn K cdv qual = true) (k : PySem.W.keepIn K (.ref f) = true) : ∃ fd, Fun K x qual st f fd := ⟨_, fun_mk l c k⟩
end Gx
end T_GxN6
section T_GxS
set_option Elab.async false
set_option linter.all false
set_option maxRecDepth 100000
set_option maxHeartbeats 4000000
namespace Gx
open PySem

/-! ## the readings' equations, for simp -/
section
variable {α β : Type} {f g : EM} {t u : TM} {a : AM} {p q : SM} {sd : Sl} {own : Own} {n i c j : Nat} {d : D} {m : Own → SV → SV → Option D} {m' : Own → SV → SV → Option D} {Ff : FM}
@[simp] theorem s_bind_ok {f : M α} {k : α → M β} {x : α} {o1 : Own} (h : f sd own = some (.ok x, o1)) : M.bind f k sd own = k x sd o1 := by unfold M.bind; rw [h]
@[simp] theorem s_Mbind {f : M α} {k : α → M β} : M.bind f k sd own = (match f sd own with | some (.ok x, o1) => k x sd o1 | some (.ex c fs, o1) => some (.ex c fs, o1) | none => none) := rfl
@[simp] theorem s_Sbind {f : M α} {k : α → SM} : SM.bind f k sd own = (match f sd own with | some (.ok x, o1) => k x sd o1 | some (.ex c fs, o1) => some (.ex c fs sd o1) | none => none) := rfl
@[simp] theorem s_ret {x : α} : (M.ret x : M α) sd own = some (.ok x, own) := rfl
@[simp] theorem s_ask {h : Own → Option α} : (M.ask h : M α) sd own = (match h own with | some x => some (.ok x, own) | none => none) := rfl
@[simp] theorem s_fail : (M.fail : M α) sd own = none := rfl
@[simp] theorem s_eV : eV i sd own = (match sd[i]? with | some (some s) => some (.ok s, own) | _ => none) := rfl
@[simp] theorem s_eK : eK d sd own = some (.ok (.d d), own) := rfl
@[simp] theorem s_eB : eB m f g sd own = M.bind f (fun x => g.bind fun y => M.ask fun own => (m own x y).map SV.d) sd own := rfl
@[simp] theorem s_eU {m : Own → SV → Option D} : eU m f sd own = M.bind f (fun x => M.ask fun own => (m own x).map SV.d) sd own := rfl
@[simp] theorem s_eCh {h : EM} : eCh m m' f g h sd own = M.bind f (fun x => g.bind fun y => (M.ask fun own => m own x y).bind fun z => match z with
  | .bl true => h.bind fun w => M.ask fun own => (m' own y w).map SV.d
  | .bl false => M.ret (.d (.bl false))
  | _ => M.fail) sd own := rfl
@[simp] theorem s_eIf : eIf t f g sd own = M.bind t (fun b => match b with | true => f | false => g) sd own := rfl
@[simp] theorem s_tE : tE f sd own = M.bind f (fun x => match x with | .d (.bl b) => M.ret b | _ => M.fail) sd own := rfl
@[simp] theorem s_aNil : aNil sd own = some (.ok [], own) := rfl
@[simp] theorem s_aCons : aCons f a sd own = M.bind f (fun x => a.bind fun xs => M.ret (x :: xs)) sd own := rfl
@[simp] theorem s_eTup : eTup a sd own = M.bind a (fun xs => M.ask fun _ => (dats xs).bind fun ds => if ds.length ≤ sizeLine then some (.d (.tup ds)) else none) sd own := rfl
@[simp] theorem s_eLst : eLst a sd own = M.bind a (fun xs => M.ask fun _ => (dats xs).bind fun ds => if ds.length ≤ sizeLine then some (.d (.lst ds)) else none) sd own := rfl
@[simp] theorem s_eCB {m : Own → List SV → Option SV} : eCB m a sd own = M.bind a (fun xs => M.ask fun own => m own xs) sd own := rfl
@[simp] theorem s_m1 {m : Own → SV → Option D} {x : SV} : m1 m own [x] = (m own x).map SV.d := rfl
@[simp] theorem s_m2 {x y : SV} : m2 m own [x, y] = (m own x y).map SV.d := rfl
@[simp] theorem s_dats0 : dats [] = some [] := rfl
@[simp] theorem s_dats {r : List SV} : dats (.d d :: r) = (dats r).map (d :: ·) := rfl
@[simp] theorem s_sNil : sNil sd own = some (.nx sd own) := rfl
@[simp] theorem s_sSeq : sSeq p q sd own = (match p sd own with | some (.nx sd' own') => q sd' own' | r => r) := rfl
@[simp] theorem s_sExpr : sExpr f sd own = SM.bind f (fun _ => sNil) sd own := rfl
@[simp] theorem s_sRet : sRet f sd own = SM.bind f (fun x => fun _ own => some (.rt x own)) sd own := rfl
@[simp] theorem s_sRetN : sRetN sd own = some (.rt (.d .non) own) := rfl
@[simp] theorem s_sIf : sIf t p q sd own = SM.bind t (fun b => match b with | true => p | false => q) sd own := rfl
@[simp] theorem s_sSet : sSet i f sd own = SM.bind f (fun x => fun sd own => some (.nx (sd.set i (some x)) own)) sd own := rfl
@[simp] theorem s_sPar {is : List Nat} : sPar is a sd own = SM.bind a (fun xs => fun sd own => (setL is xs sd).map fun sd' => .nx sd' own) sd own := rfl
@[simp] theorem s_setL0 : setL [] [] sd = some sd := rfl
@[simp] theorem s_setL {is : List Nat} {x : SV} {xs : List SV} : setL (i :: is) (x :: xs) sd = setL is xs (sd.set i (some x)) := rfl
@[simp] theorem s_sPutL {o i v : EM} : sPutL o i v sd own = SM.bind v (fun x => SM.bind o fun a => SM.bind i fun b => fun sd own => match x with | .d d => (setIx own a b d).map fun own' => .nx sd own' | _ => none) sd own := rfl
@[simp] theorem s_sFor {src : IM} {tg : GM} : sFor src tg p sd own = SM.bind src (fun xs => forL tg p xs) sd own := rfl
@[simp] theorem s_eCallD : eCallD n Ff a sd own = M.bind a (fun xs => callD n Ff xs) sd own := rfl
@[simp] theorem s_eCallZ : eCallZ n Ff a sd own = M.bind a (fun xs => callZ n Ff xs) sd own := rfl
@[simp] theorem s_eCallH : eCallH n Ff a sd own = M.bind a (fun xs => callH n Ff xs) sd own := rfl
@[simp] theorem s_eMakeD : eMakeD c n Ff a sd own = M.bind a (fun xs => makeD c n Ff xs) sd own := rfl
@[simp] theorem s_iSeq : iSeq f sd own = M.bind f (fun x => match x with | .d (.lst xs) => M.ret xs | .d (.tup xs) => M.ret xs | _ => M.fail) sd own := rfl
@[simp] theorem s_iEnum : iEnum f sd own = M.bind f (fun x => match x with | .d (.lst xs) => M.ret (enumD xs) | .d (.tup xs) => M.ret (enumD xs) | _ => M.fail) sd own := rfl
@[simp] theorem s_sRaise : sRaise c a sd own = SM.bind a (fun xs => fun sd own => (fldR c xs).map fun ds => .ex c ds sd own) sd own := rfl
@[simp] theorem s_eFld : eFld c i f sd own = M.bind f (fun x => M.ask fun own => match x with
  | .d (.obj c' vs) => if c' = c then (vs[i]?).map SV.d else none
  | .h k => match own[k]? with
    | some (.ins c' vs) => if c' = c then vs[i]? else none
    | _ => none
  | _ => none) sd own := rfl
@[simp] theorem s_tgN : tgN i d sd = some (sd.set i (some (.d d))) := rfl
@[simp] theorem s_tgU {is : List Nat} {ds : List D} : tgU is (.tup ds) sd = setL is (ds.map SV.d) sd := rfl
@[simp] theorem s_eAnd : eAnd f g sd own = M.bind f (fun x => match x with | .d (.bl true) => g | .d (.bl false) => M.ret (.d (.bl false)) | _ => M.fail) sd own := rfl
@[simp] theorem s_eOr : eOr f g sd own = M.bind f (fun x => match x with | .d (.bl false) => g | .d (.bl true) => M.ret (.d (.bl true)) | _ => M.fail) sd own := rfl
@[simp] theorem s_eNot : eNot f sd own = M.bind f (fun x => match x with | .d (.bl b) => M.ret (.d (.bl (!b))) | _ => M.fail) sd own := rfl
@[simp] theorem s_tAnd : tAnd t u sd own = M.bind t (fun b => match b with | true => u | false => M.ret false) sd own := rfl
@[simp] theorem s_tOr : tOr t u sd own = M.bind t (fun b => match b with | true => M.ret true | false => u) sd own := rfl
@[simp] theorem s_tNot : tNot t sd own = M.bind t (fun b => M.ret (!b)) sd own := rfl
/-! ### operators -/
variable {k : Nat} {xs ys : List D} {x y : Int}
@[simp] theorem o_eq : mEq own (.d (.int x)) (.d (.int y)) = some (.bl (x == y)) := rfl
@[simp] theorem o_ne : mNe own (.d (.int x)) (.d (.int y)) = some (.bl (!(x == y))) := rfl
@[simp] theorem o_lt : mLt own (.d (.int x)) (.d (.int y)) = some (.bl (decide (x < y))) := rfl
@[simp] theorem o_le : mLe own (.d (.int x)) (.d (.int y)) = some (.bl (decide (x ≤ y))) := rfl
@[simp] theorem o_gt : mGt own (.d (.int x)) (.d (.int y)) = some (.bl (decide (y < x))) := rfl
@[simp] theorem o_ge : mGe own (.d (.int x)) (.d (.int y)) = some (.bl (decide (y ≤ x))) := rfl
@[simp] theorem o_add : mAdd own (.d (.int x)) (.d (.int y)) = some (.int (x + y)) := rfl
@[simp] theorem o_sub : mSub own (.d (.int x)) (.d (.int y)) = some (.int (x - y)) := rfl
@[simp] theorem o_int : mInt own (.d (.int x)) = some (.int x) := rfl
@[simp] theorem o_neg : mNeg own (.d (.int x)) = some (.int (-x)) := rfl
theorem o_mod (h : 0 < y) : mMod own (.d (.int x)) (.d (.int y)) = some (.int (x % y)) := by
  show (if decide (0 < y) = true then some (D.int (x % y)) else none) = _
  rw [if_pos (decide_eq_true h)]
theorem o_fdiv (h : 0 < y) (h2 : y < 1073741824) : mFdiv own (.d (.int x)) (.d (.int y)) = some (.int (x / y)) := by
  show (if decide (0 < y ∧ y < 1073741824) = true then some (D.int (x / y)) else none) = _
  rw [if_pos (decide_eq_true ⟨h, h2⟩)]
theorem o_mulr (h : -(2 ^ 64) < y) (h2 : y < 2 ^ 64) : mMul own (.d (.int x)) (.d (.int y)) = some (.int (x * y)) := by
  show (if decide ((-(2 ^ 64) < x ∧ x < 2 ^ 64) ∨ (-(2 ^ 64) < y ∧ y < 2 ^ 64)) = true then some (D.int (x * y)) else none) = _
  rw [if_pos (decide_eq_true (.inr ⟨h, h2⟩))]
theorem o_mull (h : -(2 ^ 64) < x) (h2 : x < 2 ^ 64) : mMul own (.d (.int x)) (.d (.int y)) = some (.int (x * y)) := by
  show (if decide ((-(2 ^ 64) < x ∧ x < 2 ^ 64) ∨ (-(2 ^ 64) < y ∧ y < 2 ^ 64)) = true then some (D.int (x * y)) else none) = _
  rw [if_pos (decide_eq_true (.inl ⟨h, h2⟩))]
@[simp] theorem o_ixl : mIx own (.d (.lst xs)) (.d (.int x)) = L2.atI xs x := rfl
@[simp] theorem o_ixt : mIx own (.d (.tup xs)) (.d (.int x)) = L2.atI xs x := rfl
theorem o_ixh (h : own[k]? = some (.lst xs)) : mIx own (.h k) (.d (.int x)) = L2.atI xs x := by
  simp [mIx, dicV, seqV, h]
@[simp] theorem o_lenl : mLen own (.d (.lst xs)) = some (.int xs.length) := rfl
@[simp] theorem o_lent : mLen own (.d (.tup xs)) = some (.int xs.length) := rfl
theorem o_lenh (h : own[k]? = some (.lst xs)) : mLen own (.h k) = some (.int xs.length) := by
  simp [mLen, dicV, seqV, h]
@[simp] theorem o_tup : mTupC own (.d (.lst xs)) = some (.tup xs) := rfl
@[simp] theorem o_tupt : mTupC own (.d (.tup xs)) = some (.tup xs) := rfl
theorem o_tuph (h : own[k]? = some (.lst xs)) : mTupC own (.h k) = some (.tup xs) := by
  simp [mTupC, seqV, h]
@[simp] theorem o_lst : mLstC own (.d (.lst xs)) = some (.lst xs) := rfl
@[simp] theorem o_lstt : mLstC own (.d (.tup xs)) = some (.lst xs) := rfl
theorem atI_pos {α : Type} {l : List α} {i : Int} (h : 0 ≤ i) : L2.atI l i = l[i.toNat]? := by
  unfold L2.atI L2.ixN
  rw [if_pos h]
  by_cases c : i < l.length
  · rw [if_pos c]; rfl
  · rw [if_neg c, List.getElem?_eq_none (by omega)]; rfl
@[simp] theorem forL_0 {tg : GM} : forL tg p [] sd own = some (.nx sd own) := rfl
theorem forL_1 {tg : GM} {x : D} {xs : List D} : forL tg p (x :: xs) sd own = (match tg x sd with
    | none => none
    | some sd1 => match p sd1 own with
      | some (.nx sd2 own2) => forL tg p xs sd2 own2
      | some (.ct sd2 own2) => forL tg p xs sd2 own2
      | some (.bk sd2 own2) => some (.nx sd2 own2)
      | r => r) := rfl
/-- a loop that keeps J and always goes on -/
theorem forL_inv {tg : GM} {J : List D → Sl → Own → Prop} : ∀ (xs : List D) (sd : Sl) (own : Own), J xs sd own → (∀ x xs sd own, J (x :: xs) sd own → ∃ sd1, tg x sd = some sd1 ∧ ∃ sd2 own2, (p sd1 own = some (.nx sd2 own2) ∨ p sd1 own = some (.ct sd2 own2)) ∧ J xs sd2 own2) →
    ∃ sd2 own2, forL tg p xs sd own = some (.nx sd2 own2) ∧ J [] sd2 own2
  | [], sd, own, h, _ => ⟨sd, own, rfl, h⟩
  | x :: xs, sd, own, h, st => by
    obtain ⟨sd1, e1, sd2, own2, e2, h2⟩ := st x xs sd own h
    obtain ⟨sd3, own3, e3, h3⟩ := forL_inv xs sd2 own2 h2 st
    refine ⟨sd3, own3, ?_, h3⟩
    rw [forL_1, e1]
    rcases e2 with e2 | e2 <;> simp only [e2] <;> exact e3
end
/-! ## the drawn row -/
/-- the row: the script's numbers, where it stands, the great number, the seed -/
def Row (o : O) : Prop := ∃ (ns : List Int) (i c s : Int), o = .lst [.lst (ns.map D.int), .int i, .int c, .int s] ∧ 0 ≤ i ∧ i ≤ ns.length ∧ 0 ≤ c
theorem row_flat {o : O} (h : Row o) : flatO o = true := by
  obtain ⟨_, _, _, _, rfl, _⟩ := h
  rfl
theorem row_start {ns : List Int} : Row (.lst [.lst (ns.map D.int), .int 0, .int 0, .int 7]) := ⟨ns, 0, 0, 7, rfl, Int.le_refl _, by omega, Int.le_refl _⟩
/-- a drawing function: from a row and a number to a smaller one -/
def Draws (Ff : FM) : Prop := ∀ (o : O) (m : Int), Row o → 1 ≤ m → m < 1073741824 → ∃ (r : Int) (o' : O), 0 ≤ r ∧ r < m ∧ Row o' ∧ Ff [.h 0, .d (.int m)] [o] = some (.ok (.d (.int r)), [o'])
theorem draw_at {Ff : FM} (P : Draws Ff) {own : Own} {k : Nat} {o : O} {m : Int} {sd : Sl} (hk : own[k]? = some o) (R : Row o) (h1 : 1 ≤ m) (h2 : m < 1073741824) :
    ∃ (r : Int) (o' : O), 0 ≤ r ∧ r < m ∧ Row o' ∧ callZ 2 Ff [.h k, .d (.int m)] sd own = some (.ok (.d (.int r)), own.set k o') := by
  obtain ⟨r, o', h3, h4, R', e⟩ := P o m R h1 h2
  refine ⟨r, o', h3, h4, R', ?_⟩
  unfold callZ
  simp [hk, row_flat R, row_flat R', e]
end Gx
end T_GxS
section T_GxS2
set_option Elab.async false
set_option linter.all false
set_option maxRecDepth 100000
set_option maxHeartbeats 4000000
namespace Gx
open PySem
section
variable {f g : EM} {a : AM} {p : SM} {sd : Sl} {own : Own} {n c i : Nat}
@[simp] theorem s_oNo : oNo sd own = some (.ok none, own) := rfl
@[simp] theorem s_oSo : oSo f sd own = M.bind f (fun x => match x with | .d (.int i) => M.ret (some i) | _ => M.fail) sd own := rfl
@[simp] theorem s_eSl {l h : OM} : eSl f l h sd own = M.bind f (fun x => l.bind fun lo => h.bind fun hi => M.ask fun own => (mSl own x lo hi).map SV.d) sd own := rfl
@[simp] theorem s_mSlt {xs : List D} {lo hi : Option Int} : mSl own (.d (.tup xs)) lo hi = some (.tup (cutD xs lo hi)) := rfl
@[simp] theorem s_mSll {xs : List D} {lo hi : Option Int} : mSl own (.d (.lst xs)) lo hi = some (.lst (cutD xs lo hi)) := rfl
theorem cut_to {xs : List D} {k : Int} (h0 : 0 ≤ k) (h1 : k ≤ xs.length) : cutD xs none (some k) = xs.take k.toNat := by
  unfold cutD
  simp [HT.sIx]
  split
  · omega
  · congr 1
    omega
theorem cut_from {xs : List D} {k : Int} (h0 : 0 ≤ k) (h1 : k ≤ xs.length) : cutD xs (some k) none = xs.drop k.toNat := by
  unfold cutD
  simp [HT.sIx]
  split
  · omega
  · have e : (min k (xs.length : Int)).toNat = k.toNat := by omega
    rw [List.take_of_length_le]
    · congr 1 <;> omega
    · simp <;> omega
@[simp] theorem s_sFldS : sFldS c i f g sd own = SM.bind g (fun x => SM.bind f fun a => fun sd own => (putFld c i own a x).map fun own' => .nx sd own') sd own := rfl
@[simp] theorem s_eMut {mm : MM} : eMut mm f a sd own = M.bind f (fun x => (M.ask fun own => lstV own x).bind fun _ => a.bind fun ys => fun _ own => match x with
  | .h k => match own[k]? with
    | some (.lst xs) => match mm own xs ys with
      | some (z, xs') => some (.ok (.d z), own.set k (.lst xs'))
      | none => none
    | _ => none
  | _ => none) sd own := rfl
@[simp] theorem s_iRg1 : iRg1 a sd own = M.bind a (fun xs => match xs with | [.d (.int j)] => if rgOk 0 j = true then M.ret (rgD 0 j.toNat) else M.fail | _ => M.fail) sd own := rfl
@[simp] theorem s_eLstH : eLstH a sd own = M.bind a (fun xs => fun _ own => match dats xs with
  | some ds => if ds.length ≤ sizeLine then some (.ok (.h own.length), own ++ [.lst ds]) else none
  | none => none) sd own := rfl
theorem rg_ok {j : Int} (h : 0 ≤ j) (h2 : j < 2 ^ 62) : rgOk 0 j = true := by
  unfold rgOk
  simp
  omega
theorem in_tup {d : D} {xs : List D} {neg : Bool} (h1 : okN 60 d = true) (h2 : xs.all (okN 59) = true) : mIn neg own (.d d) (.d (.tup xs)) = some (.bl ((xs.any fun z => eqN 60 z d) != neg)) := by
  show (if (okN 60 d && xs.all (okN 59)) = true then some (D.bl ((xs.any fun z => eqN 60 z d) != neg)) else none) = _
  rw [h1, h2]
  rfl
theorem in_lst {d : D} {xs : List D} {neg : Bool} (h1 : okN 60 d = true) (h2 : xs.all (okN 59) = true) : mIn neg own (.d d) (.d (.lst xs)) = some (.bl ((xs.any fun z => eqN 60 z d) != neg)) := by
  show (if (okN 60 d && xs.all (okN 59)) = true then some (D.bl ((xs.any fun z => eqN 60 z d) != neg)) else none) = _
  rw [h1, h2]
  rfl
theorem in_h {k : Nat} {d : D} {xs : List D} {neg : Bool} (hk : own[k]? = some (.lst xs)) (h1 : okN 60 d = true) (h2 : xs.all (okN 59) = true) : mIn neg own (.d d) (.h k) = some (.bl ((xs.any fun z => eqN 60 z d) != neg)) := by
  have e1 : dicV own (.h k) = none := by simp [dicV, hk]
  have e2 : seqV own (.h k) = some xs := by simp [seqV, hk]
  unfold mIn
  rw [e1, e2]
  show (if (okN 60 d && xs.all (okN 59)) = true then some (D.bl ((xs.any fun z => eqN 60 z d) != neg)) else none) = _
  rw [h1, h2]
  rfl
theorem sizeL : sizeLine = 16777216 := by decide
end
theorem draw_all {Ff : FM} (P : Draws Ff) {o : O} {m : Int} (R : Row o) (h1 : 1 ≤ m) (h2 : m < 1073741824) :
    ∃ (r : Int) (o' : O), 0 ≤ r ∧ r < m ∧ Row o' ∧ ∀ (sd : Sl) (rest : Own), callZ 2 Ff [.h 0, .d (.int m)] sd (o :: rest) = some (.ok (.d (.int r)), o' :: rest) := by
  obtain ⟨r, o', h3, h4, R', e⟩ := P o m R h1 h2
  refine ⟨r, o', h3, h4, R', fun sd rest => ?_⟩
  unfold callZ
  simp [row_flat R, row_flat R', e]
theorem two_at {a b : D} {r : Int} (h : 0 ≤ r) : L2.atI [a, b] (r % 2) = some (if r % 2 = 0 then a else b) := by
  have h1 : 0 ≤ r % 2 := Int.emod_nonneg _ (by omega)
  have h2 : r % 2 < 2 := Int.emod_lt_of_pos _ (by omega)
  by_cases c : r % 2 = 0
  · rw [c]; rfl
  · have : r % 2 = 1 := by omega
    rw [this]; rfl
theorem lenO_of {FL : Nat → Option FM} {c : Nat} {Ff : FM} {vs : List D} {own : Own} {n : Int} (h : FL c = some Ff) (e : callV0 Ff [.d (.obj c vs)] = some (.int n)) (h0 : 0 ≤ n) (h1 : n < 2 ^ 63) : mLenO FL own (.d (.obj c vs)) = some (.int n) := by
  unfold mLenO
  simp only [h, Option.bind_some, e]
  rw [if_pos ⟨h0, h1⟩]
theorem small63 {n : Nat} (h : n ≤ 100) : (n : Int) < 2 ^ 63 := Int.lt_of_lt_of_le (show (n : Int) < 101 by omega) (by decide)
/-! ### one step each -/
section
variable {f g : EM} {t u : TM} {a : AM} {p q : SM} {sd sd1 sd2 : Sl} {own o1 o2 o3 : Own} {n c i : Nat} {d : D} {x y : SV} {xs : List SV} {b : Bool} {Ff : FM} {r : Fl}
theorem e_V (h : sd[i]? = some (some x)) : eV i sd own = some (.ok x, own) := by rw [s_eV, h]
theorem e_B {m : Own → SV → SV → Option D} (hf : f sd own = some (.ok x, o1)) (hg : g sd o1 = some (.ok y, o2)) (hm : m o2 x y = some d) : eB m f g sd own = some (.ok (.d d), o2) := by
  rw [s_eB, s_bind_ok hf, s_bind_ok hg, s_ask, hm]
  rfl
theorem e_C1 {m : Own → SV → Option D} (hf : f sd own = some (.ok x, o1)) (hm : m o1 x = some d) : eCB (m1 m) (aCons f aNil) sd own = some (.ok (.d d), o1) := by
  have ha : aCons f aNil sd own = some (.ok [x], o1) := by rw [s_aCons, s_bind_ok hf]; rfl
  rw [s_eCB, s_bind_ok ha, s_ask, s_m1, hm]
  rfl
theorem t_E (hf : f sd own = some (.ok (.d (.bl b)), o1)) : tE f sd own = some (.ok b, o1) := by
  rw [s_tE, s_bind_ok hf]
  rfl
theorem t_Or (h1 : t sd own = some (.ok false, o1)) (h2 : u sd o1 = some (.ok b, o2)) : tOr t u sd own = some (.ok b, o2) := by
  rw [s_tOr, s_bind_ok h1]
  exact h2
theorem t_Or1 (h1 : t sd own = some (.ok true, o1)) : tOr t u sd own = some (.ok true, o1) := by
  rw [s_tOr, s_bind_ok h1]
  rfl
theorem t_And (h1 : t sd own = some (.ok true, o1)) (h2 : u sd o1 = some (.ok b, o2)) : tAnd t u sd own = some (.ok b, o2) := by
  rw [s_tAnd, s_bind_ok h1]
  exact h2
theorem t_And0 (h1 : t sd own = some (.ok false, o1)) : tAnd t u sd own = some (.ok false, o1) := by
  rw [s_tAnd, s_bind_ok h1]
  rfl
theorem t_Not (h1 : t sd own = some (.ok b, o1)) : tNot t sd own = some (.ok (!b), o1) := by
  rw [s_tNot, s_bind_ok h1]
  rfl
theorem st_If (h1 : t sd own = some (.ok b, o1)) : sIf t p q sd own = (match b with | true => p | false => q) sd o1 := by
  rw [s_sIf, s_Sbind, h1]
  try (cases b <;> rfl)
theorem st_IfT (h1 : t sd own = some (.ok true, o1)) : sIf t p q sd own = p sd o1 := st_If h1
theorem st_IfF (h1 : t sd own = some (.ok false, o1)) : sIf t p q sd own = q sd o1 := st_If h1
theorem st_Set (h1 : f sd own = some (.ok x, o1)) : sSet i f sd own = some (.nx (sd.set i (some x)) o1) := by
  rw [s_sSet, s_Sbind, h1]
theorem st_Seq (h1 : p sd own = some (.nx sd1 o1)) : sSeq p q sd own = q sd1 o1 := by
  rw [s_sSeq, h1]
theorem st_Ret (h1 : f sd own = some (.ok x, o1)) : sRet f sd own = some (.rt x o1) := by
  rw [s_sRet, s_Sbind, h1]
theorem e_Call {ds : List D} {z : D} {o' : Own} (ha : a sd own = some (.ok xs, o1)) (hd : dats xs = some ds) (hl : xs.length = n) (h : Ff xs [] = some (.ok (.d z), o')) : eCallD n Ff a sd own = some (.ok (.d z), o1) := by
  rw [s_eCallD, s_bind_ok ha]
  unfold callD
  rw [if_neg (fun z => z hl)]
  simp only [hd, h, resD]
theorem a_1 (h : f sd own = some (.ok x, o1)) : aCons f aNil sd own = some (.ok [x], o1) := by
  rw [s_aCons, s_bind_ok h]
  rfl
theorem a_c (h : f sd own = some (.ok x, o1)) (h2 : a sd o1 = some (.ok xs, o2)) : aCons f a sd own = some (.ok (x :: xs), o2) := by
  rw [s_aCons, s_bind_ok h, s_bind_ok h2]
  rfl
theorem e_Prop {c : Nat} {vs : List D} {z : D} (h : f sd own = some (.ok (.d (.obj c vs)), o1)) (e : callV0 Ff [.d (.obj c vs)] = some z) : eProp c Ff f sd own = some (.ok (.d z), o1) := by
  unfold eProp
  rw [s_bind_ok h, s_ask]
  simp only [if_true, e, Option.map_some]
end
end Gx
end T_GxS2
section T_GxT1
set_option Elab.async false
set_option linter.all false
set_option maxRecDepth 100000
set_option maxHeartbeats 4000000
namespace Gx
open PySem PySem.Spec PyProof.Rows L2
/-! ## ints and tuples in order -/
/-- less, by the first place where two lists differ -/
def lexI : List Int → List Int → Bool
  | [], [] => false
  | [], _ :: _ => true
  | _ :: _, [] => false
  | i :: x, j :: y => if i = j then lexI x y else decide (i < j)
theorem lexI_irr : ∀ x : List Int, lexI x x = false
  | [] => rfl
  | i :: x => by unfold lexI; rw [if_pos rfl]; exact lexI_irr x
theorem lexI_as : ∀ x y : List Int, lexI x y = true → lexI y x = false
  | [], [], h => by cases h
  | [], _ :: _, _ => rfl
  | _ :: _, [], h => by cases h
  | i :: x, j :: y, h => by
    unfold lexI at h ⊢
    by_cases e : i = j
    · rw [if_pos e] at h
      rw [if_pos e.symm]
      exact lexI_as x y h
    · rw [if_neg e] at h
      rw [if_neg (fun z => e z.symm)]
      have h := of_decide_eq_true h
      exact decide_eq_false (by omega)
theorem lexI_tr : ∀ x y z : List Int, lexI x y = false → lexI y z = false → lexI x z = false
  | [], [], z, _, h => h
  | [], _ :: _, _, h, _ => by cases h
  | _ :: _, _, [], _, _ => rfl
  | i :: x, [], k :: z, _, h => by cases h
  | i :: x, j :: y, k :: z, h1, h2 => by
    unfold lexI at h1 h2 ⊢
    by_cases e1 : i = j
    · by_cases e2 : j = k
      · rw [if_pos e1] at h1
        rw [if_pos e2] at h2
        rw [if_pos (e1.trans e2)]
        exact lexI_tr x y z h1 h2
      · rw [if_neg e2] at h2
        have h2 := of_decide_eq_false h2
        rw [if_neg (by omega)]
        exact decide_eq_false (by omega)
    · rw [if_neg e1] at h1
      have h1 := of_decide_eq_false h1
      by_cases e2 : j = k
      · rw [if_neg (by omega)]
        exact decide_eq_false (by omega)
      · rw [if_neg e2] at h2
        have h2 := of_decide_eq_false h2
        rw [if_neg (by omega)]
        exact decide_eq_false (by omega)
theorem swo_lexI {α : Type} (k : α → List Int) : SrtO.Swo fun x y => lexI (k x) (k y) := ⟨fun x y h => lexI_as _ _ h, fun x y z h1 h2 => lexI_tr _ _ _ h2 h1⟩
/-- the shapes: an int, a tuple of any number of one shape, a pair -/
inductive Sh where
  | I | U (s : Sh) | P (a b : Sh)
def shp : Sh → D → Bool
  | .I, .int _ => true
  | .U s, .tup xs => xs.all (shp s)
  | .P a b, .tup [x, y] => shp a x && shp b y
  | _, _ => false
/-- a code that keeps the order -/
def encS : Sh → D → List Int
  | .I, .int i => [i]
  | .U s, .tup xs => (xs.flatMap fun x => 1 :: encS s x) ++ [0]
  | .P a b, .tup [x, y] => encS a x ++ encS b y
  | _, _ => []
def ltS (s : Sh) (x y : D) : Bool := lexI (encS s x) (encS s y)
theorem lexI_pre : ∀ a u v : List Int, lexI (a ++ u) (a ++ v) = lexI u v
  | [], _, _ => rfl
  | i :: a, u, v => by
    have e : lexI (i :: (a ++ u)) (i :: (a ++ v)) = (if i = i then lexI (a ++ u) (a ++ v) else decide (i < i)) := rfl
    show lexI (i :: (a ++ u)) (i :: (a ++ v)) = _
    rw [e, if_pos rfl]
    exact lexI_pre a u v
/-- two of one shape are one, or differ at a place before the end of both -/
def Far (x y : List Int) : Prop := ∃ b, ∀ u v, lexI (x ++ u) (y ++ v) = b
def flatS (s : Sh) (xs : List D) : List Int := xs.flatMap fun x => 1 :: encS s x
theorem far_app {a b : List Int} (h : Far a b) (u v : List Int) : Far (a ++ u) (b ++ v) := by
  obtain ⟨c, h⟩ := h
  exact ⟨c, fun u' v' => by rw [List.append_assoc, List.append_assoc]; exact h _ _⟩
theorem far_pre {a b : List Int} (h : Far a b) (p : List Int) : Far (p ++ a) (p ++ b) := by
  obtain ⟨c, h⟩ := h
  exact ⟨c, fun u' v' => by rw [List.append_assoc, List.append_assoc, lexI_pre]; exact h _ _⟩
theorem far_flat {s : Sh} (ih : ∀ x y, shp s x = true → shp s y = true → x = y ∨ Far (encS s x) (encS s y)) : ∀ xs ys : List D, xs.all (shp s) = true → ys.all (shp s) = true → xs = ys ∨ Far (flatS s xs ++ [0]) (flatS s ys ++ [0])
  | [], [], _, _ => .inl rfl
  | [], y :: ys, _, _ => .inr ⟨true, fun u v => rfl⟩
  | x :: xs, [], _, _ => .inr ⟨false, fun u v => rfl⟩
  | x :: xs, y :: ys, h1, h2 => by
    rw [List.all_cons, Bool.and_eq_true] at h1 h2
    have e1 : ∀ (z : D) (zs : List D), flatS s (z :: zs) ++ [0] = [1] ++ (encS s z ++ (flatS s zs ++ [0])) := fun z zs => by simp [flatS]
    rcases ih x y h1.1 h2.1 with e | f
    · subst e
      rcases far_flat ih xs ys h1.2 h2.2 with e | f
      · exact .inl (by rw [e])
      · refine .inr ?_
        rw [e1, e1]
        exact far_pre (far_pre f _) _
    · refine .inr ?_
      rw [e1, e1]
      exact far_pre (far_app f _ _) _
theorem far_enc : ∀ (s : Sh) (x y : D), shp s x = true → shp s y = true → x = y ∨ Far (encS s x) (encS s y)
  | .I, .int i, .int j, _, _ => by
    by_cases e : i = j
    · exact .inl (by rw [e])
    · refine .inr ⟨decide (i < j), fun u v => ?_⟩
      show lexI (i :: u) (j :: v) = _
      unfold lexI
      rw [if_neg e]
  | .U s, .tup xs, .tup ys, h1, h2 => by
    rcases far_flat (far_enc s) xs ys h1 h2 with e | f
    · exact .inl (by rw [e])
    · exact .inr f
  | .P a b, .tup [x, y], .tup [x', y'], h1, h2 => by
    have h1 : (shp a x && shp b y) = true := h1
    have h2 : (shp a x' && shp b y') = true := h2
    rw [Bool.and_eq_true] at h1 h2
    rcases far_enc a x x' h1.1 h2.1 with e | f
    · subst e
      rcases far_enc b y y' h1.2 h2.2 with e | f
      · exact .inl (by rw [e])
      · exact .inr (far_pre f _)
    · exact .inr (far_app f _ _)
theorem far_ne {a : List Int} (h : Far a a) : False := by
  obtain ⟨b, h⟩ := h
  have h1 := h [0] [1]
  have h2 := h [1] [0]
  rw [lexI_pre] at h1 h2
  have e1 : lexI [0] [1] = true := rfl
  have e2 : lexI [1] [0] = false := rfl
  rw [e1] at h1
  rw [e2, ← h1] at h2
  cases h2
end Gx
end T_GxT1
section T_GxT2
set_option Elab.async false
set_option linter.all false
set_option maxRecDepth 100000
set_option maxHeartbeats 4000000
namespace Gx
open PySem PySem.Spec PyProof.Rows L2
mutual
/-- a value on a heap is this data of this shape -/
inductive TV (h : Heap) : Sh → Value → D → Prop
  | I (i : Int) (t : Tok) : TV h .I (.int i t) (.int i)
  | U {s : Sh} {a : Addr} {o : Obj} {vs : Array Value} {n : Nat} {ds : List D} : h.get? a = some o → o.cls = .type "tuple" → o.data = .seq vs n → TVs h s vs.toList ds → TV h (.U s) (.ref a) (.tup ds)
  | P {s1 s2 : Sh} {a : Addr} {o : Obj} {vs : Array Value} {n : Nat} {v u : Value} {x y : D} : h.get? a = some o → o.cls = .type "tuple" → o.data = .seq vs n → vs.toList = [v, u] → TV h s1 v x → TV h s2 u y → TV h (.P s1 s2) (.ref a) (.tup [x, y])
inductive TVs (h : Heap) : Sh → List Value → List D → Prop
  | nil {s : Sh} : TVs h s [] []
  | cons {s : Sh} {v : Value} {d : D} {vs : List Value} {ds : List D} : TV h s v d → TVs h s vs ds → TVs h s (v :: vs) (d :: ds)
end
mutual
theorem TV.keeps {h h' : Heap} (k : ∀ b o, h.get? b = some o → o.cls = .type "tuple" → h'.get? b = some o) : ∀ {s : Sh} {v : Value} {d : D}, TV h s v d → TV h' s v d
  | _, _, _, .I i t => .I i t
  | _, _, _, .U h1 h2 h3 r => .U (k _ _ h1 h2) h2 h3 (TVs.keeps k r)
  | _, _, _, .P h1 h2 h3 h4 r1 r2 => .P (k _ _ h1 h2) h2 h3 h4 (TV.keeps k r1) (TV.keeps k r2)
theorem TVs.keeps {h h' : Heap} (k : ∀ b o, h.get? b = some o → o.cls = .type "tuple" → h'.get? b = some o) : ∀ {s : Sh} {v : List Value} {d : List D}, TVs h s v d → TVs h' s v d
  | _, _, _, .nil => .nil
  | _, _, _, .cons a r => .cons (TV.keeps k a) (TVs.keeps k r)
end
mutual
theorem TV.shp {h : Heap} : ∀ {s : Sh} {v : Value} {d : D}, TV h s v d → shp s d = true
  | _, _, _, .I i t => rfl
  | _, _, _, .U _ _ _ r => TVs.shp r
  | _, _, _, .P _ _ _ _ r1 r2 => by
    show (Gx.shp _ _ && Gx.shp _ _) = true
    rw [TV.shp r1, TV.shp r2]; rfl
theorem TVs.shp {h : Heap} : ∀ {s : Sh} {v : List Value} {d : List D}, TVs h s v d → d.all (Gx.shp s) = true
  | _, _, _, .nil => rfl
  | _, _, _, .cons a r => by rw [List.all_cons, TV.shp a, TVs.shp r]; rfl
end
def pyS : Sh → D → PyData
  | .I, .int i => .int i
  | .U s, .tup xs => .tuple (xs.map (pyS s))
  | .P a b, .tup [x, y] => .tuple [pyS a x, pyS b y]
  | _, _ => .none
mutual
theorem TV.reads {h : Heap} : ∀ {s : Sh} {v : Value} {d : D}, TV h s v d → ∃ as, Reads h v (pyS s d) as
  | _, _, _, .I i t => ⟨_, .int i t⟩
  | _, _, _, .U h1 h2 h3 r => let ⟨_, q⟩ := TVs.reads r; ⟨_, .tuple h1 h2 h3 q⟩
  | _, _, _, .P h1 h2 h3 h4 r1 r2 => let ⟨_, q1⟩ := TV.reads r1; let ⟨_, q2⟩ := TV.reads r2; ⟨_, .tuple h1 h2 h3 (by rw [h4]; exact .cons q1 (.cons q2 .nil))⟩
theorem TVs.reads {h : Heap} : ∀ {s : Sh} {v : List Value} {d : List D}, TVs h s v d → ∃ as, ReadsAll h v (d.map (pyS s)) as
  | _, _, _, .nil => ⟨_, .nil⟩
  | _, _, _, .cons a r => let ⟨_, q1⟩ := TV.reads a; let ⟨_, q2⟩ := TVs.reads r; ⟨_, .cons q1 q2⟩
end
theorem TVs.length {h : Heap} : ∀ {s : Sh} {v : List Value} {d : List D}, TVs h s v d → v.length = d.length
  | _, _, _, .nil => rfl
  | _, _, _, .cons _ r => by rw [List.length_cons, List.length_cons, r.length]
/-- how deep a shape goes -/
def Sh.dep : Sh → Nat
  | .I => 0
  | .U s => s.dep + 1
  | .P a b => max a.dep b.dep + 1
theorem pyS_all {s : Sh} (ih : ∀ x, shp s x = true → (pyS s x).canLay0 = true ∧ (pyS s x).depth ≤ s.dep) : ∀ xs : List D, xs.all (shp s) = true → PyData.canLayAll0 (xs.map (pyS s)) = true ∧ PyData.depthAll (xs.map (pyS s)) ≤ s.dep
  | [], _ => ⟨rfl, Nat.zero_le _⟩
  | x :: xs, h => by
    rw [List.all_cons, Bool.and_eq_true] at h
    obtain ⟨a, b⟩ := ih x h.1
    obtain ⟨c, d⟩ := pyS_all ih xs h.2
    refine ⟨?_, ?_⟩
    · show (PyData.canLay0 (pyS s x) && PyData.canLayAll0 (xs.map (pyS s))) = true
      rw [a, c]; rfl
    · show max (PyData.depth (pyS s x)) (PyData.depthAll (xs.map (pyS s))) ≤ _
      omega
theorem pyS_lay : ∀ (s : Sh) (x : D), shp s x = true → (pyS s x).canLay0 = true ∧ (pyS s x).depth ≤ s.dep
  | .I, .int i, _ => ⟨rfl, Nat.le_refl _⟩
  | .U s, .tup xs, h => by
    obtain ⟨a, b⟩ := pyS_all (pyS_lay s) xs h
    exact ⟨a, Nat.succ_le_succ b⟩
  | .P a b, .tup [x, y], h => by
    have h : (shp a x && shp b y) = true := h
    rw [Bool.and_eq_true] at h
    obtain ⟨a1, a2⟩ := pyS_lay a x h.1
    obtain ⟨b1, b2⟩ := pyS_lay b y h.2
    refine ⟨?_, ?_⟩
    · show (PyData.canLay0 (pyS a x) && (PyData.canLay0 (pyS b y) && true)) = true
      rw [a1, b1]; rfl
    · show max (PyData.depth (pyS a x)) (max (PyData.depth (pyS b y)) 0) + 1 ≤ max a.dep b.dep + 1
      omega
theorem pyS_eqs {s : Sh} (ih : ∀ x y, shp s x = true → shp s y = true → (PyData.eqv (pyS s x) (pyS s y) = true ↔ x = y)) : ∀ xs ys : List D, xs.all (shp s) = true → ys.all (shp s) = true → (PyData.eqvAll (xs.map (pyS s)) (ys.map (pyS s)) = true ↔ xs = ys)
  | [], [], _, _ => ⟨fun _ => rfl, fun _ => rfl⟩
  | [], y :: ys, _, _ => ⟨(fun h => by cases h), (fun h => by cases h)⟩
  | x :: xs, [], _, _ => ⟨(fun h => by cases h), (fun h => by cases h)⟩
  | x :: xs, y :: ys, h1, h2 => by
    rw [List.all_cons, Bool.and_eq_true] at h1 h2
    have e : PyData.eqvAll ((x :: xs).map (pyS s)) ((y :: ys).map (pyS s)) = (PyData.eqv (pyS s x) (pyS s y) && PyData.eqvAll (xs.map (pyS s)) (ys.map (pyS s))) := rfl
    rw [e, Bool.and_eq_true, ih x y h1.1 h2.1, pyS_eqs ih xs ys h1.2 h2.2, List.cons.injEq]
theorem pyS_eq : ∀ (s : Sh) (x y : D), shp s x = true → shp s y = true → (PyData.eqv (pyS s x) (pyS s y) = true ↔ x = y)
  | .I, .int i, .int j, _, _ => by
    have e : PyData.eqv (pyS .I (.int i)) (pyS .I (.int j)) = (i == j) := rfl
    rw [e, beq_iff_eq, D.int.injEq]
  | .U s, .tup xs, .tup ys, h1, h2 => by
    have e : PyData.eqv (pyS (.U s) (.tup xs)) (pyS (.U s) (.tup ys)) = PyData.eqvAll (xs.map (pyS s)) (ys.map (pyS s)) := rfl
    rw [e, pyS_eqs (pyS_eq s) xs ys h1 h2, D.tup.injEq]
  | .P a b, .tup [x, y], .tup [x', y'], h1, h2 => by
    have h1 : (shp a x && shp b y) = true := h1
    have h2 : (shp a x' && shp b y') = true := h2
    rw [Bool.and_eq_true] at h1 h2
    have e : PyData.eqv (pyS (.P a b) (.tup [x, y])) (pyS (.P a b) (.tup [x', y'])) = (PyData.eqv (pyS a x) (pyS a x') && (PyData.eqv (pyS b y) (pyS b y') && true)) := rfl
    rw [e, Bool.and_eq_true, Bool.and_eq_true, pyS_eq a x x' h1.1 h2.1, pyS_eq b y y' h1.2 h2.2, D.tup.injEq, List.cons.injEq, List.cons.injEq]
    simp
end Gx
end T_GxT2
section T_GxT3
set_option Elab.async false
set_option linter.all false
set_option maxRecDepth 100000
set_option maxHeartbeats 4000000
namespace Gx
open PySem PySem.Spec PyProof.Rows L2
theorem far_lt {s : Sh} {x y : D} (h : Far (encS s x) (encS s y)) (u v : List Int) : lexI (encS s x ++ u) (encS s y ++ v) = ltS s x y := by
  obtain ⟨b, h⟩ := h
  have h0 := h [] []
  rw [List.append_nil, List.append_nil] at h0
  rw [h u v]
  exact h0.symm
theorem lexAt_U {s : Sh} {e r : Nat → Bool} : ∀ (xs ys : List D) (i : Nat), xs.all (shp s) = true → ys.all (shp s) = true → (∀ j x y, xs[j]? = some x → ys[j]? = some y → e (i + j) = PyData.eqv (pyS s x) (pyS s y)) → (∀ j x y, xs[j]? = some x → ys[j]? = some y → r (i + j) = ltS s x y) →
    Ob.lexAt e r (decide (xs.length < ys.length)) i (min xs.length ys.length) = lexI (flatS s xs ++ [0]) (flatS s ys ++ [0])
  | [], [], _, _, _, _, _ => rfl
  | [], y :: ys, i, _, _, _, _ => by
    have e : min ([] : List D).length (y :: ys).length = 0 := by simp
    rw [e]; rfl
  | x :: xs, [], i, _, _, _, _ => by
    have e : min (x :: xs).length ([] : List D).length = 0 := by simp
    rw [e]; rfl
  | x :: xs, y :: ys, i, h1, h2, he, hr => by
    rw [List.all_cons, Bool.and_eq_true] at h1 h2
    have e0 : min (x :: xs).length (y :: ys).length = min xs.length ys.length + 1 := by simp only [List.length_cons]; omega
    have e1 : ∀ (z : D) (zs : List D), flatS s (z :: zs) ++ [0] = [1] ++ (encS s z ++ (flatS s zs ++ [0])) := fun z zs => by simp [flatS]
    have e2 : decide ((x :: xs).length < (y :: ys).length) = decide (xs.length < ys.length) := by simp
    rw [e0, e2, e1, e1, lexI_pre, Ob.lexAt_succ]
    have ei := he 0 x y rfl rfl
    have ri := hr 0 x y rfl rfl
    rw [Nat.add_zero] at ei ri
    rcases far_enc s x y h1.1 h2.1 with q | q
    · have : e i = true := by rw [ei]; exact (pyS_eq s x y h1.1 h2.1).mpr q
      rw [if_pos this]
      subst q
      rw [lexI_pre]
      refine lexAt_U xs ys (i + 1) h1.2 h2.2 (fun j a b ha hb => ?_) (fun j a b ha hb => ?_)
      · have := he (j + 1) a b ha hb
        rw [← this]; congr 1; omega
      · have := hr (j + 1) a b ha hb
        rw [← this]; congr 1; omega
    · have ne : x ≠ y := fun z => by subst z; exact far_ne q
      have : ¬ e i = true := by rw [ei]; exact fun z => ne ((pyS_eq s x y h1.1 h2.1).mp z)
      rw [if_neg this, ri, far_lt q]
section
variable {A : Around} {st : Shared}
theorem TV.eqAt {s : Sh} {v u : Value} {x y : D} (hv : TV st.heap s v x) (hu : TV st.heap s u y) (hr : A.units + s.dep < cLine) : SeqAt.EqAt A st v u (PyData.eqv (pyS s x) (pyS s y)) := by
  obtain ⟨as, r1⟩ := hv.reads
  obtain ⟨bs, r2⟩ := hu.reads
  obtain ⟨a1, a2⟩ := pyS_lay s x hv.shp
  obtain ⟨b1, b2⟩ := pyS_lay s y hu.shp
  intro prog w E Q h
  exact SeqAt.eqBoolOverData prog w A E st v u _ _ as bs Q r1 r2 a1 b1 (by omega) h
theorem TVs.get {h : Heap} : ∀ {s : Sh} {vs : List Value} {ds : List D} {j : Nat} {v : Value}, TVs h s vs ds → vs[j]? = some v → ∃ d, ds[j]? = some d ∧ TV h s v d
  | _, _, _, _, _, .nil, e => by simp at e
  | _, _, _, 0, _, .cons a _, e => by simp at e; subst e; exact ⟨_, rfl, a⟩
  | _, _, _, j + 1, _, .cons _ r, e => by
    obtain ⟨d, e1, e2⟩ := TVs.get (j := j) r (by simpa using e)
    exact ⟨d, by simpa using e1, e2⟩
end
end Gx
end T_GxT3
section T_GxT4
set_option Elab.async false
set_option linter.all false
set_option maxRecDepth 100000
set_option maxHeartbeats 4000000
namespace Gx
open PySem PySem.Spec PyProof.Rows L2
theorem ltS_I (i j : Int) : ltS .I (.int i) (.int j) = decide (i < j) := by
  show (if i = j then false else decide (i < j)) = decide (i < j)
  by_cases e : i = j
  · rw [if_pos e]; exact (decide_eq_false (by omega)).symm
  · rw [if_neg e]
def eAt (s : Sh) (ds es : List D) (j : Nat) : Bool := match ds[j]?, es[j]? with
  | some x, some y => PyData.eqv (pyS s x) (pyS s y)
  | _, _ => false
def rAt (s : Sh) (ds es : List D) (j : Nat) : Bool := match ds[j]?, es[j]? with
  | some x, some y => ltS s x y
  | _, _ => false
section
variable {st : Shared}
theorem TV.lt : ∀ (s : Sh) {A : Around} {v u : Value} {x y : D}, TV st.heap s v x → TV st.heap s u y → A.units + s.dep < cLine → Ob.RcOp .Lt A st v u (ltS s x y)
  | .I, A, _, _, _, _, .I i t, .I j t2, _ => by
    rw [ltS_I]
    exact Ob.RcOp.lt_int i j t t2
  | .U s, A, _, _, _, _, .U (vs := vs) (n := n) (ds := ds) h1 h2 h3 r1, .U (vs := ws) (n := m) (ds := es) k1 k2 k3 r2, hu => by
    have hu : A.units + (s.dep + 1) < cLine := hu
    have main := Ob.RcOp.tuples_lt (A := A) (s := st) (e := eAt s ds es) (r := rAt s ds es) ⟨_, h1, h2, n, h3⟩ ⟨_, k1, k2, m, k3⟩ (by omega) (fun j q1 q2 => ?_) (fun j q1 q2 _ => ?_)
    · have l1 : vs.size = ds.length := by rw [← r1.length]; simp
      have l2 : ws.size = es.length := by rw [← r2.length]; simp
      rw [l1, l2, lexAt_U (s := s) ds es 0 r1.shp r2.shp (fun j x y ha hb => by unfold eAt; rw [Nat.zero_add, ha, hb]) (fun j x y ha hb => by unfold rAt; rw [Nat.zero_add, ha, hb])] at main
      exact main
    · obtain ⟨x, e1, t1⟩ := r1.get (j := j) (v := vs[j]) (by simp [q1])
      obtain ⟨y, e2, t2⟩ := r2.get (j := j) (v := ws[j]) (by simp [q2])
      have := t1.eqAt t2 (A := A.in1) (by show A.units + 1 + s.dep < cLine; omega)
      unfold eAt
      rw [e1, e2]
      exact this
    · obtain ⟨x, e1, t1⟩ := r1.get (j := j) (v := vs[j]) (by simp [q1])
      obtain ⟨y, e2, t2⟩ := r2.get (j := j) (v := ws[j]) (by simp [q2])
      have := TV.lt s (A := A.in1) t1 t2 (by show A.units + 1 + s.dep < cLine; omega)
      unfold rAt
      rw [e1, e2]
      exact this
  | .P a b, A, _, _, _, _, .P (vs := vs) (n := n) (v := v1) (u := v2) (x := x1) (y := x2) h1 h2 h3 h4 r1 r2, .P (vs := ws) (n := m) (v := w1) (u := w2) (x := y1) (y := y2) k1 k2 k3 k4 p1 p2, hu => by
    have hu : A.units + (max a.dep b.dep + 1) < cLine := hu
    have main := Ob.RcOp.tuples_lt (A := A) (s := st) (e := fun j => if j = 0 then PyData.eqv (pyS a x1) (pyS a y1) else PyData.eqv (pyS b x2) (pyS b y2)) (r := fun j => if j = 0 then ltS a x1 y1 else ltS b x2 y2) ⟨_, h1, h2, n, h3⟩ ⟨_, k1, k2, m, k3⟩ (by omega) (fun j q1 q2 => ?_) (fun j q1 q2 _ => ?_)
    · have l1 : vs.size = 2 := by have := congrArg List.length h4; simpa using this
      have l2 : ws.size = 2 := by have := congrArg List.length k4; simpa using this
      rw [l1, l2] at main
      have e : ltS (.P a b) (.tup [x1, x2]) (.tup [y1, y2]) = (if PyData.eqv (pyS a x1) (pyS a y1) = true then (if PyData.eqv (pyS b x2) (pyS b y2) = true then false else ltS b x2 y2) else ltS a x1 y1) := by
        show lexI (encS a x1 ++ encS b x2) (encS a y1 ++ encS b y2) = _
        rcases far_enc a x1 y1 r1.shp p1.shp with q | q
        · rw [if_pos ((pyS_eq a x1 y1 r1.shp p1.shp).mpr q)]
          subst q
          rw [lexI_pre]
          rcases far_enc b x2 y2 r2.shp p2.shp with q | q
          · rw [if_pos ((pyS_eq b x2 y2 r2.shp p2.shp).mpr q)]
            subst q
            exact lexI_irr _
          · rw [if_neg fun z => by have := (pyS_eq b x2 y2 r2.shp p2.shp).mp z; subst this; exact far_ne q]
            rfl
        · rw [if_neg fun z => by have := (pyS_eq a x1 y1 r1.shp p1.shp).mp z; subst this; exact far_ne q]
          exact far_lt q _ _
      rw [e]
      exact main
    · have c : j = 0 ∨ j = 1 := by have := congrArg List.length h4; simp at this; omega
      have g1 : vs.toList[j]? = some vs[j] := by simp [q1]
      have g2 : ws.toList[j]? = some ws[j] := by simp [q2]
      rw [h4] at g1
      rw [k4] at g2
      rcases c with rfl | rfl
      · cases g1; cases g2
        exact r1.eqAt p1 (A := A.in1) (by show A.units + 1 + a.dep < cLine; omega)
      · cases g1; cases g2
        exact r2.eqAt p2 (A := A.in1) (by show A.units + 1 + b.dep < cLine; omega)
    · have c : j = 0 ∨ j = 1 := by have := congrArg List.length h4; simp at this; omega
      have g1 : vs.toList[j]? = some vs[j] := by simp [q1]
      have g2 : ws.toList[j]? = some ws[j] := by simp [q2]
      rw [h4] at g1
      rw [k4] at g2
      rcases c with rfl | rfl
      · cases g1; cases g2
        exact TV.lt a (A := A.in1) r1 p1 (by show A.units + 1 + a.dep < cLine; omega)
      · cases g1; cases g2
        exact TV.lt b (A := A.in1) r2 p2 (by show A.units + 1 + b.dep < cLine; omega)
end
end Gx
end T_GxT4
section T_GxT5
set_option Elab.async false
set_option linter.all false
set_option maxRecDepth 100000
set_option maxHeartbeats 4000000
namespace Gx
open PySem PySem.Spec PyProof.Rows L2
section
variable {prog : Program} {w : World} {A : Around} {E : Value → Shared → Prop} {st : Shared}
theorem oneLt_T {s : Sh} {b : Bool} {v u : Value} {x y : D} {Q : Bool → Shared → Prop} (hb : b = true → s = .I) (t1 : TV st.heap s v x) (t2 : TV st.heap s u y) (hu : A.units + s.dep < cLine) (h : Q (ltS s x y) st) : wpAny (model prog w) A (oneLt' b v u) Q E st := by
  cases b with
  | false => exact PySem.W.kat_one _ _ (TV.lt s t1 t2 hu prog w E _ h)
  | true =>
    obtain rfl := hb rfl
    cases t1
    cases t2
    rw [ltS_I] at h
    exact PyProof.Rows.oneLt_int h
theorem katU {s : Sh} {b : Bool} {n m : Nat} {Q : Bool → Shared → Prop} (hb : b = true → s = .I) (hu : A.units + s.dep < cLine) : ∀ {vs us : List Value} {xs ys : List D} (i : Nat), TVs st.heap s vs xs → TVs st.heap s us ys → n + ys.length = m + xs.length →
    Q (lexI (flatS s xs ++ [0]) (flatS s ys ++ [0])) st → PySem.W.KatLex prog w A b (decide (n < m)) Q (vs.zip us) i st
  | _, _, _, _, i, .nil, .nil, hl, h => by
    have e : decide (n < m) = false := decide_eq_false (by simp at hl; omega)
    rw [e]
    exact PySem.W.kat_nil h
  | _, _, _, _, i, .nil, .cons _ _, hl, h => by
    have e : decide (n < m) = true := decide_eq_true (by simp at hl; omega)
    rw [e]
    exact PySem.W.kat_nil h
  | _, _, _, _, i, .cons _ _, .nil, hl, h => by
    have e : decide (n < m) = false := decide_eq_false (by simp at hl; omega)
    rw [e]
    exact PySem.W.kat_nil h
  | _, _, _, _, i, .cons (d := x) (ds := xs) t1 r1, .cons (d := y) (ds := ys) t2 r2, hl, h => by
    have e1 : ∀ (z : D) (zs : List D), flatS s (z :: zs) ++ [0] = [1] ++ (encS s z ++ (flatS s zs ++ [0])) := fun z zs => by simp [flatS]
    rw [e1, e1, lexI_pre] at h
    refine PySem.W.kat_cons (t1.eqAt t2 hu prog w _ _ ?_)
    rcases far_enc s x y t1.shp t2.shp with q | q
    · rw [(pyS_eq s x y t1.shp t2.shp).mpr q]
      subst q
      rw [lexI_pre] at h
      exact PySem.W.kat_yes (katU hb hu (i + 1) r1 r2 (by simp at hl; omega) h)
    · have ne : PyData.eqv (pyS s x) (pyS s y) = false := by
        cases hh : PyData.eqv (pyS s x) (pyS s y)
        · rfl
        · have := (pyS_eq s x y t1.shp t2.shp).mp hh; subst this; exact (far_ne q).elim
      rw [ne]
      rw [far_lt q] at h
      refine PySem.W.kat_no (oneLt_T (s := s) (fun z => hb ?_) t1 t2 hu h)
      revert z
      cases b <;> simp
end
end Gx
end T_GxT5
section T_GxT6
set_option Elab.async false
set_option linter.all false
set_option maxRecDepth 100000
set_option maxHeartbeats 4000000
namespace Gx
open PySem PySem.Spec PyProof.Rows L2
/-- the shapes of lists that are sorted here, with the first items' type -/
inductive SKind : Sh → Bool → Prop
  | UI : SKind (.U .I) true
  | UU (s : Sh) : SKind (.U (.U s)) false
  | UP (a b : Sh) : SKind (.U (.P a b)) false
  | PI (b : Sh) : SKind (.P .I b) true
  | PU (a b : Sh) : SKind (.P (.U a) b) false
  | PP (a b c : Sh) : SKind (.P (.P a b) c) false
section
variable {prog : Program} {w : World} {A : Around} {E : Value → Shared → Prop} {st : Shared}
/-- one comparison of the sort -/
theorem keyLt_T {s : Sh} {b : Bool} {v u : Value} {x y : D} {Q : Bool → Shared → Prop} (k : SKind s b) (t1 : TV st.heap s v x) (t2 : TV st.heap s u y) (hu : A.units + s.dep < cLine) (h : Q (ltS s x y) st) : wpAny (model prog w) A (keyLt' (tuples' b) v u) Q E st := by
  have gU : ∀ {s : Sh} {v u : Value} {x y : D}, (b = true → s = .I) → A.units + s.dep < cLine → TV st.heap (.U s) v x → TV st.heap (.U s) u y → Q (ltS (.U s) x y) st → wpAny (model prog w) A (keyLt' (tuples' b) v u) Q E st := by
    intro s v u x y hb hu t1 t2 h
    cases t1 with
    | @U _ a o vs n ds h1 h2 h3 r1 =>
      cases t2 with
      | @U _ a' o' ws m es k1 k2 k3 r2 =>
        refine PySem.W.kat_lt h1 h3 k1 k3 ?_
        refine katU hb hu 0 r1 r2 ?_ h
        have l1 := r1.length
        have l2 := r2.length
        rw [Array.length_toList] at l1 l2
        omega
  have gP : ∀ {a c : Sh} {v u : Value} {x y : D}, (b = true → a = .I) → A.units + (max a.dep c.dep) < cLine → TV st.heap (.P a c) v x → TV st.heap (.P a c) u y → Q (ltS (.P a c) x y) st → wpAny (model prog w) A (keyLt' (tuples' b) v u) Q E st := by
    intro a c v u x y hb hu t1 t2 h
    cases t1 with
    | @P _ _ ad o vs n v1 v2 x1 x2 h1 h2 h3 h4 r1 r2 =>
      cases t2 with
      | @P _ _ ad' o' ws m w1 w2 y1 y2 k1 k2 k3 k4 p1 p2 =>
        refine PySem.W.kat_lt h1 h3 k1 k3 ?_
        have l1 : vs.size = 2 := by have := congrArg List.length h4; simpa using this
        have l2 : ws.size = 2 := by have := congrArg List.length k4; simpa using this
        rw [h4, k4, l1, l2]
        have h : Q (lexI (encS a x1 ++ encS c x2) (encS a y1 ++ encS c y2)) st := h
        show PySem.W.KatLex prog w A b (decide (2 < 2)) Q [(v1, w1), (v2, w2)] 0 st
        refine PySem.W.kat_cons (r1.eqAt p1 (by omega) prog w _ _ ?_)
        rcases far_enc a x1 y1 r1.shp p1.shp with q | q
        · rw [(pyS_eq a x1 y1 r1.shp p1.shp).mpr q]
          subst q
          rw [lexI_pre] at h
          refine PySem.W.kat_yes (PySem.W.kat_cons (r2.eqAt p2 (by omega) prog w _ _ ?_))
          rcases far_enc c x2 y2 r2.shp p2.shp with q | q
          · rw [(pyS_eq c x2 y2 r2.shp p2.shp).mpr q]
            subst q
            rw [lexI_irr] at h
            exact PySem.W.kat_yes (PySem.W.kat_nil h)
          · have ne : PyData.eqv (pyS c x2) (pyS c y2) = false := by
              cases hh : PyData.eqv (pyS c x2) (pyS c y2)
              · rfl
              · have := (pyS_eq c x2 y2 r2.shp p2.shp).mp hh; subst this; exact (far_ne q).elim
            rw [ne]
            refine PySem.W.kat_no (oneLt_T (s := c) (fun z => ?_) r2 p2 (by omega) h)
            revert z
            cases b <;> simp
        · have ne : PyData.eqv (pyS a x1) (pyS a y1) = false := by
            cases hh : PyData.eqv (pyS a x1) (pyS a y1)
            · rfl
            · have := (pyS_eq a x1 y1 r1.shp p1.shp).mp hh; subst this; exact (far_ne q).elim
          rw [ne]
          rw [far_lt q] at h
          refine PySem.W.kat_no (oneLt_T (s := a) (fun z => hb ?_) r1 p1 (by omega) h)
          revert z
          cases b <;> simp
  cases k with
  | UI => exact gU (fun _ => rfl) (by have : A.units + (Sh.I.dep + 1) < cLine := hu; omega) t1 t2 h
  | UU s => exact gU (fun z => by cases z) (by have : A.units + ((Sh.U s).dep + 1) < cLine := hu; omega) t1 t2 h
  | UP a c => exact gU (fun z => by cases z) (by have : A.units + ((Sh.P a c).dep + 1) < cLine := hu; omega) t1 t2 h
  | PI c => exact gP (fun _ => rfl) (by have : A.units + (max Sh.I.dep c.dep + 1) < cLine := hu; omega) t1 t2 h
  | PU a c => exact gP (fun z => by cases z) (by have : A.units + (max (Sh.U a).dep c.dep + 1) < cLine := hu; omega) t1 t2 h
  | PP a c d => exact gP (fun z => by cases z) (by have : A.units + (max (Sh.P a c).dep d.dep + 1) < cLine := hu; omega) t1 t2 h
end
end Gx
end T_GxT6
section T_GxT7
set_option Elab.async false
set_option linter.all false
set_option maxRecDepth 100000
set_option maxHeartbeats 4000000
namespace Gx
open PySem PySem.Spec PyProof.Rows L2
/-- a tuple that has an item -/
def full : D → Bool
  | .tup (_ :: _) => true
  | _ => false
def tyB (b : Bool) : Value := if b = true then .type "int" else .type "tuple"
theorem ty_I {M : Model} {h : Heap} {v : Value} {d : D} (t : TV h .I v d) : PySem.W.Looks M h (typeOf v) (.type "int") := by
  cases t
  exact PySem.W.Looks.now
theorem ty_T {M : Model} {h : Heap} {s : Sh} {v : Value} {d : D} (hs : s ≠ .I) (t : TV h s v d) : PySem.W.Looks M h (typeOf v) (.type "tuple") := by
  cases t with
  | I => exact (hs rfl).elim
  | U h1 h2 h3 r => rw [← h2]; exact (PySem.W.Looks.ld h1).andThen .now
  | P h1 h2 h3 h4 r1 r2 => rw [← h2]; exact (PySem.W.Looks.ld h1).andThen .now
theorem first_T {M : Model} {h : Heap} {s : Sh} {b : Bool} {v : Value} {d : D} (k : SKind s b) (t : TV h s v d) (hf : full d = true) :
    ∃ (f : Value) (a : Addr) (o : Obj) (xs : Array Value) (n : Nat), v = .ref a ∧ h.get? a = some o ∧ o.cls = .type "tuple" ∧ o.data = .seq xs n ∧ xs[0]? = some f ∧ PySem.W.Looks M h (typeOf f) (tyB b) := by
  cases t with
  | I => cases k
  | @U s a o vs n ds h1 h2 h3 r =>
    cases r' : vs.toList with
    | nil => rw [r'] at r; cases r; cases hf
    | cons f fs =>
      rw [r'] at r
      have e : vs[0]? = some f := by rw [← Array.getElem?_toList, r']; rfl
      cases r with
      | cons t0 _ =>
        refine ⟨f, a, o, vs, n, rfl, h1, h2, h3, e, ?_⟩
        cases k with
        | UI => exact ty_I t0
        | UU s => exact ty_T (by intro z; cases z) t0
        | UP a c => exact ty_T (by intro z; cases z) t0
  | @P s1 s2 a o vs n v1 v2 x y h1 h2 h3 h4 r1 r2 =>
    have e : vs[0]? = some v1 := by rw [← Array.getElem?_toList, h4]; rfl
    refine ⟨v1, a, o, vs, n, rfl, h1, h2, h3, e, ?_⟩
    cases k with
    | PI c => exact ty_I r1
    | PU a c => exact ty_T (by intro z; cases z) r1
    | PP a c d => exact ty_T (by intro z; cases z) r1
theorem firsts_T {M : Model} {h : Heap} {s : Sh} {b : Bool} (k : SKind s b) : ∀ {vs : List Value} {ds : List D}, TVs h s vs ds → ds.all full = true → ∃ fs, PySem.W.KatTups h vs fs ∧ fs.length = vs.length ∧ ∀ f ∈ fs, PySem.W.Looks M h (typeOf f) (tyB b)
  | _, _, .nil, _ => ⟨[], .nil, rfl, fun _ h => by cases h⟩
  | _, _, .cons t r, hf => by
    rw [List.all_cons, Bool.and_eq_true] at hf
    obtain ⟨fs, q1, q2, q3⟩ := firsts_T (M := M) k r hf.2
    obtain ⟨f, a, o, xs, n, rfl, h1, h2, h3, h4, h5⟩ := first_T (M := M) k t hf.1
    refine ⟨f :: fs, .cons h1 h2 h3 h4 q1, by rw [List.length_cons, List.length_cons, q2], fun g hg => ?_⟩
    rcases List.mem_cons.mp hg with rfl | hg
    · exact h5
    · exact q3 g hg
section
variable {prog : Program} {w : World} {A : Around} {st : Shared}
theorem sortable_T {s : Sh} {b : Bool} {vs : List Value} {ds : List D} {a : Addr} {ltv : Value → Value → Bool} (k : SKind s b) (h0 : 0 < vs.length) (t : TVs st.heap s vs ds) (hf : ds.all full = true) (hu : A.units + s.dep < cLine)
    (hlt : ∀ v ∈ vs, ∀ u ∈ vs, ∃ x y, TV st.heap s v x ∧ TV st.heap s u y ∧ ltv v u = ltS s x y)
    (ha : ∀ o, st.heap.get? a = some o → o.cls ≠ .type "tuple") : SrtO.SortableO prog w A st a vs ltv := by
  intro h' keep
  have kp : ∀ c o, st.heap.get? c = some o → o.cls = .type "tuple" → h'.get? c = some o := fun c o e hc => keep c o (fun z => by subst z; exact ha o e hc) e
  obtain ⟨fs, h1, h2, h3⟩ := firsts_T (M := model prog w) k (t.keeps kp) hf
  refine ⟨tuples' b, fun Q E hq => ?_, fun p q hp hq => ?_⟩
  · refine PySem.W.kat_kind (T := tyB b) h1 (by omega) h3 (by cases b <;> rfl) ?_
    have e : (tyB b != Value.type "tuple") = b := by cases b <;> (first | decide +kernel | rfl)
    rw [e]
    exact hq
  · obtain ⟨x, y, t1, t2, e⟩ := hlt _ hp _ hq
    refine keyLt_T k (t1.keeps kp) (t2.keeps kp) hu ?_
    exact ⟨rfl, e.symm⟩
end
end Gx
end T_GxT7
section T_GxT8
set_option Elab.async false
set_option linter.all false
set_option maxRecDepth 100000
set_option maxHeartbeats 4000000
namespace Gx
open PySem PySem.Spec PyProof.Rows L2
section
variable {X : Cx} {pins : List (Addr × Obj)} {σ : L2.St} {H F : Hp} {st : Shared} {T : Tb}
theorem tvs_of {s : Sh} (ih : ∀ {d : D} {v : V} {u : Value}, Rep T F d v → RelV v u → shp s d = true → TV st.heap s u d) : ∀ {ds : List D} {vs : List V} {us : List Value}, Reps T F ds vs → Vals vs us → ds.all (shp s) = true → TVs st.heap s us ds
  | _, _, _, .nil, r, _ => by cases r; exact .nil
  | _, _, _, .cons h t, r, hs => by
    rw [List.all_cons, Bool.and_eq_true] at hs
    cases r with
    | cons r1 r2 => exact .cons (ih h r1 hs.1) (tvs_of ih t r2 hs.2)
/-- data on the heap -/
theorem tv_of (I : Inv X pins σ H st) (l : Le F H) (hK : X.K = T.K) : ∀ (s : Sh) {d : D} {v : V} {u : Value}, Rep T F d v → RelV v u → shp s d = true → TV st.heap s u d
  | .I, .int i, _, _, r, rv, _ => by
    cases r
    obtain ⟨t, rfl⟩ := rv
    exact .I i t
  | .U s, .tup xs, _, _, r, rv, hs => by
    cases r with
    | @tup a vs _ q rs =>
      obtain rfl := (show _ = Value.ref a from rv)
      obtain ⟨its, r2, ⟨o, ho, hc, n, hd⟩, _⟩ := I.tuple (by rw [hK]; exact SqT.le l q)
      exact .U ho hc hd (tvs_of (fun a b c => tv_of I l hK s a b c) rs r2 hs)
  | .P s1 s2, .tup [x, y], _, _, r, rv, hs => by
    have hs : (shp s1 x && shp s2 y) = true := hs
    rw [Bool.and_eq_true] at hs
    cases r with
    | @tup a vs _ q rs =>
      obtain rfl := (show _ = Value.ref a from rv)
      obtain ⟨its, r2, ⟨o, ho, hc, n, hd⟩, _⟩ := I.tuple (by rw [hK]; exact SqT.le l q)
      cases rs with
      | cons h1 t1 =>
        cases t1 with
        | cons h2 t2 =>
          cases t2
          obtain ⟨u1, u2, rfl, ra, rb⟩ := vals2 r2
          exact .P ho hc hd rfl (tv_of I l hK s1 h1 ra hs.1) (tv_of I l hK s2 h2 rb hs.2)
end
end Gx
end T_GxT8
section T_GxT9
set_option Elab.async false
set_option linter.all false
set_option maxRecDepth 100000
set_option maxHeartbeats 4000000
namespace Gx
open PySem PySem.Spec PyProof.Rows L2
section
variable {α : Type} {lt : α → α → Bool}
/-- before all that are not less -/
def insB (lt : α → α → Bool) (x : α) : List α → List α
  | [] => [x]
  | y :: l => if lt y x = true then y :: insB lt x l else x :: y :: l
def srt (lt : α → α → Bool) : List α → List α
  | [] => []
  | x :: l => insB lt x (srt lt l)
theorem insB_perm (x : α) : ∀ l : List α, (insB lt x l).Perm (x :: l)
  | [] => .refl _
  | y :: l => by
    unfold insB
    by_cases c : lt y x = true
    · rw [if_pos c]
      exact ((insB_perm x l).cons y).trans (List.Perm.swap x y l)
    · rw [if_neg c]
theorem insB_srtd (O : SrtO.Swo lt) (x : α) : ∀ l : List α, SrtO.Srtd lt l → SrtO.Srtd lt (insB lt x l)
  | [], _ => SrtO.srtd_one x
  | y :: l, h => by
    unfold insB
    by_cases c : lt y x = true
    · rw [if_pos c]
      refine List.pairwise_cons.mpr ⟨fun z hz => ?_, insB_srtd O x l (List.pairwise_cons.mp h).2⟩
      rcases List.mem_cons.mp ((insB_perm x l).mem_iff.mp hz) with e | hz
      · rw [e]; exact O.asym _ _ c
      · exact SrtO.srtd_head h z hz
    · rw [if_neg c]
      have c : lt y x = false := by simpa using c
      refine List.pairwise_cons.mpr ⟨fun z hz => ?_, h⟩
      rcases List.mem_cons.mp hz with e | hz
      · rw [e]; exact c
      · exact O.tr _ _ _ c (SrtO.srtd_head h z hz)
theorem insB_stb (O : SrtO.Swo lt) (x : α) : ∀ l : List α, SrtO.Stb lt (insB lt x l) (x :: l)
  | [] => SrtO.Stb.refl _
  | y :: l => by
    unfold insB
    by_cases c : lt y x = true
    · rw [if_pos c]
      have ih := insB_stb O x l
      refine SrtO.Stb.trans (SrtO.Stb.app (SrtO.Stb.refl [y]) ih) ?_
      exact SrtO.Stb.app (a := [y] ++ [x]) (b := [x] ++ [y]) (c := l) (d := l) (SrtO.Stb.swap O (A := [y]) (B := [x]) (fun a ha b hb => by rw [List.mem_singleton.mp ha, List.mem_singleton.mp hb]; exact c)) (SrtO.Stb.refl l)
    · rw [if_neg c]
      exact SrtO.Stb.refl _
theorem srt_srtd (O : SrtO.Swo lt) : ∀ l : List α, SrtO.Srtd lt (srt lt l)
  | [] => List.Pairwise.nil
  | x :: l => insB_srtd O x _ (srt_srtd O l)
theorem srt_stb (O : SrtO.Swo lt) : ∀ l : List α, SrtO.Stb lt (srt lt l) l
  | [] => SrtO.Stb.refl _
  | x :: l => SrtO.Stb.trans (insB_stb O x _) (SrtO.Stb.app (SrtO.Stb.refl [x]) (srt_stb O l))
/-- a list that rises already -/
theorem srt_id : ∀ l : List α, SrtO.Srtd lt l → srt lt l = l
  | [], _ => rfl
  | [x], _ => rfl
  | x :: y :: l, h => by
    show insB lt x (srt lt (y :: l)) = _
    rw [srt_id (y :: l) (List.pairwise_cons.mp h).2]
    have c : lt y x = false := SrtO.srtd_head h y (List.mem_cons_self ..)
    unfold insB
    rw [if_neg (by rw [c]; exact Bool.false_ne_true)]
end
section
variable {α β : Type}
theorem insB_map {lt : β → β → Bool} (f : α → β) (x : α) : ∀ l : List α, (insB (fun a b => lt (f a) (f b)) x l).map f = insB lt (f x) (l.map f)
  | [] => rfl
  | y :: l => by
    have e1 : insB (fun a b => lt (f a) (f b)) x (y :: l) = if lt (f y) (f x) = true then y :: insB (fun a b => lt (f a) (f b)) x l else x :: y :: l := rfl
    have e2 : insB lt (f x) ((y :: l).map f) = if lt (f y) (f x) = true then f y :: insB lt (f x) (l.map f) else f x :: f y :: l.map f := rfl
    rw [e1, e2]
    by_cases c : lt (f y) (f x) = true
    · rw [if_pos c, if_pos c, List.map_cons, insB_map f x l]
    · rw [if_neg c, if_neg c, List.map_cons, List.map_cons]
theorem srt_map {lt : β → β → Bool} (f : α → β) : ∀ l : List α, (srt (fun a b => lt (f a) (f b)) l).map f = srt lt (l.map f)
  | [] => rfl
  | x :: l => by
    show (insB _ x (srt _ l)).map f = insB lt (f x) (srt lt (l.map f))
    rw [insB_map, srt_map f l]
end
end Gx
end T_GxT9
section T_GxT10
set_option Elab.async false
set_option linter.all false
set_option maxRecDepth 100000
set_option maxHeartbeats 4000000
namespace Gx
open PySem PySem.Spec PyProof.Rows L2
mutual
theorem TV.uniq {h : Heap} : ∀ {s : Sh} {v : Value} {d d' : D}, TV h s v d → TV h s v d' → d = d'
  | _, _, _, _, .I i t, q => by cases q; rfl
  | _, _, _, _, .U h1 h2 h3 r, q => by
    cases q with
    | U k1 k2 k3 r' =>
      rw [h1] at k1; cases k1
      rw [h3] at k3; cases k3
      rw [TVs.uniq r r']
  | _, _, _, _, .P h1 h2 h3 h4 r1 r2, q => by
    cases q with
    | P k1 k2 k3 k4 p1 p2 =>
      rw [h1] at k1; cases k1
      rw [h3] at k3; cases k3
      rw [h4] at k4; cases k4
      rw [TV.uniq r1 p1, TV.uniq r2 p2]
theorem TVs.uniq {h : Heap} : ∀ {s : Sh} {v : List Value} {d d' : List D}, TVs h s v d → TVs h s v d' → d = d'
  | _, _, _, _, .nil, q => by cases q; rfl
  | _, _, _, _, .cons a r, q => by
    cases q with
    | cons a' r' => rw [TV.uniq a a', TVs.uniq r r']
end
end Gx
end T_GxT10
section T_GxT11
set_option Elab.async false
set_option linter.all false
set_option maxRecDepth 100000
set_option maxHeartbeats 4000000
namespace Gx
open PySem PySem.Spec PyProof.Rows L2
open Classical in
noncomputable def cod (h : Heap) (s : Sh) (v : Value) : List Int := if q : ∃ d, TV h s v d then encS s (Classical.choose q) else []
theorem cod_of {h : Heap} {s : Sh} {v : Value} {d : D} (t : TV h s v d) : cod h s v = encS s d := by
  have q : ∃ d, TV h s v d := ⟨d, t⟩
  unfold cod
  rw [dif_pos q, TV.uniq (Classical.choose_spec q) t]
/-- data, its V, its value -/
structure Tri where
  d : D
  v : V
  u : Value
theorem tris_of {h : Heap} {T : Tb} {F : Hp} {s : Sh} : ∀ {ds : List D} {vs : List V} {us : List Value}, Reps T F ds vs → Vals vs us → TVs h s us ds → ∃ l : List Tri, l.map Tri.d = ds ∧ l.map Tri.v = vs ∧ l.map Tri.u = us ∧ ∀ x ∈ l, Rep T F x.d x.v ∧ RelV x.v x.u ∧ TV h s x.u x.d
  | _, _, _, .nil, r, t => by cases r; exact ⟨[], rfl, rfl, rfl, fun _ h => by cases h⟩
  | _, _, _, .cons (d := d) (v := v) a r, rv, t => by
    cases rv with
    | @cons _ u _ _ r1 r2 =>
      cases t with
      | cons t1 t2 =>
        obtain ⟨l, e1, e2, e3, e4⟩ := tris_of r r2 t2
        refine ⟨⟨d, v, u⟩ :: l, by rw [List.map_cons, e1], by rw [List.map_cons, e2], by rw [List.map_cons, e3], fun x hx => ?_⟩
        rcases List.mem_cons.mp hx with rfl | hx
        · exact ⟨a, r1, t1⟩
        · exact e4 x hx
theorem reps_map {T : Tb} {F : Hp} : ∀ (l : List Tri), (∀ x ∈ l, Rep T F x.d x.v) → Reps T F (l.map Tri.d) (l.map Tri.v)
  | [], _ => .nil
  | x :: l, h => .cons (h x (List.mem_cons_self ..)) (reps_map l fun y hy => h y (List.mem_cons_of_mem _ hy))
theorem vals_map : ∀ (l : List Tri), (∀ x ∈ l, RelV x.v x.u) → Vals (l.map Tri.v) (l.map Tri.u)
  | [], _ => .nil
  | x :: l, h => .cons (h x (List.mem_cons_self ..)) (vals_map l fun y hy => h y (List.mem_cons_of_mem _ hy))
end Gx
end T_GxT11
section T_GxT12
set_option Elab.async false
set_option linter.all false
set_option maxRecDepth 100000
set_option maxHeartbeats 4000000
namespace Gx
open PySem PySem.Spec PyProof.Rows L2
/-- sorted(xs), xs a list of data of one shape -/
def rSortD (T : Tb) (s : Sh) : List V → Hp → VK → Prop := fun vs H Q => ∃ (a : Addr) (xs : List V) (ds : List D) (F : Hp), vs = [V.ref a] ∧ SqL T.K H a xs ∧ Le F H ∧ Reps T F ds xs ∧ ds.all (shp s) = true ∧ ds.all full = true ∧
  ∀ ys p, Reps T F (srt (ltS s) ds) ys → H p = none → Q (.ref p) (upd H p (.lst ys))
theorem insB_congr {α : Type} {lt lt' : α → α → Bool} (x : α) : ∀ l : List α, (∀ y ∈ l, lt y x = lt' y x) → insB lt x l = insB lt' x l
  | [], _ => rfl
  | y :: l, h => by
    unfold insB
    rw [h y (List.mem_cons_self ..), insB_congr x l fun z hz => h z (List.mem_cons_of_mem _ hz)]
theorem srt_congr {α : Type} {lt lt' : α → α → Bool} (O : SrtO.Swo lt') : ∀ l : List α, (∀ x ∈ l, ∀ y ∈ l, lt x y = lt' x y) → srt lt l = srt lt' l
  | [], _ => rfl
  | x :: l, h => by
    show insB lt x (srt lt l) = insB lt' x (srt lt' l)
    rw [srt_congr O l fun y hy z hz => h y (List.mem_cons_of_mem _ hy) z (List.mem_cons_of_mem _ hz)]
    exact insB_congr x _ fun y hy => h y (List.mem_cons_of_mem _ ((srt_stb O l).perm.mem_iff.mp hy)) x (List.mem_cons_self ..)
section
variable {X : Cx} {T : Tb}
theorem cr_sortD {s : Sh} {b : Bool} (k : SKind s b) (hK : X.K = T.K) (hu : X.A.units + s.dep + 8 < cLine) : CallR X (.builtin "sorted") (rSortD T s) := by
  intro pins st σ H vs us Q I r h
  obtain ⟨a, xs, ds, F, rfl, hs, le, rs, h1, h2, q⟩ := h
  obtain ⟨its, rv, hl, hz⟩ := I.list (by rw [hK]; exact hs)
  obtain ⟨u, rfl, ru⟩ := vals1 r
  obtain rfl : u = Value.ref a := ru
  have tv : TVs st.heap s its ds := tvs_of (fun a b c => tv_of I le hK s a b c) rs rv h1
  obtain ⟨l, e1, e2, e3, e4⟩ := tris_of rs rv tv
  have O := swo_lexI (cod st.heap s)
  have hcod : ∀ x ∈ l, cod st.heap s x.u = encS s x.d := fun x hx => cod_of (e4 x hx).2.2
  have hit : ∀ v ∈ its, ∃ x ∈ l, v = x.u := fun v hv => by
    rw [← e3] at hv
    obtain ⟨x, hx, e⟩ := List.mem_map.mp hv
    exact ⟨x, hx, e.symm⟩
  refine SrtO.sorted_ord O hl.isList (by rw [← rv.length]; exact hz) (fun g2 h₁ a1 ha kk => ?_) fun out hs1 hb => ?_
  · have kp : ∀ c o, st.heap.get? c = some o → o.cls = .type "tuple" → h₁.get? c = some o := fun c o e _ => (kk c o e).2
    refine sortable_T (st := { st with heap := h₁ }) k (by omega) (tv.keeps kp) h2 (by show X.A.units + 1 + 1 + s.dep < cLine; omega) (fun v hv u hu' => ?_) fun o e => ?_
    · obtain ⟨x, hx, rfl⟩ := hit v hv
      obtain ⟨y, hy, rfl⟩ := hit u hu'
      refine ⟨x.d, y.d, (e4 x hx).2.2.keeps kp, (e4 y hy).2.2.keeps kp, ?_⟩
      show lexI _ _ = lexI _ _
      rw [hcod x hx, hcod y hy]
    · have e' : some o = some (seqObj "list" its.toArray 0) := e.symm.trans ha
      cases e'
      intro c
      exact absurd (Value.type.inj c) (by decide)
  · have Ot := swo_lexI (fun x : Tri => cod st.heap s x.u)
    have f1 : (srt (fun x y : Tri => lexI (cod st.heap s x.u) (cod st.heap s y.u)) l).map Tri.u = srt (fun v u => lexI (cod st.heap s v) (cod st.heap s u)) its := by
      rw [← e3]
      exact srt_map (lt := fun v u => lexI (cod st.heap s v) (cod st.heap s u)) Tri.u l
    have f2 : out = (srt (fun x y : Tri => lexI (cod st.heap s x.u) (cod st.heap s y.u)) l).map Tri.u := by
      rw [f1]
      exact SrtO.stb_uniq O hs1 (srt_srtd O its) (SrtO.Stb.trans hb ⟨(srt_stb O its).perm.symm, fun x => ((srt_stb O its).cls x).symm⟩)
    generalize hm : srt (fun x y : Tri => lexI (cod st.heap s x.u) (cod st.heap s y.u)) l = m at f2
    have hp : m.Perm l := by rw [← hm]; exact (srt_stb Ot l).perm
    have e4' : ∀ x ∈ m, Rep T F x.d x.v ∧ RelV x.v x.u ∧ TV st.heap s x.u x.d := fun x hx => e4 x (hp.mem_iff.mp hx)
    have f3 : m.map Tri.d = srt (ltS s) ds := by
      rw [← hm, ← e1, ← srt_map (lt := ltS s) Tri.d l]
      congr 1
      refine srt_congr (swo_lexI fun x : Tri => encS s x.d) l fun x hx y hy => ?_
      show lexI _ _ = lexI _ _
      rw [hcod x hx, hcod y hy]
    have rv' : Vals (m.map Tri.v) out := by rw [f2]; exact vals_map m fun x hx => (e4' x hx).2.1
    have rs' : Reps T F (srt (ltS s) ds) (m.map Tri.v) := by rw [← f3]; exact reps_map m fun x hx => (e4' x hx).1
    obtain ⟨n, hn⟩ := PyProof.Rows.sortedAll_at st.heap its out.toArray
    have hd : st.heap.objs.size ≤ st.heap.objs.size + 1 := Nat.le_succ _
    refine ⟨.ref _, upd H (st.heap.objs.size + 1) (.lst (m.map Tri.v)), I.laid (t' := st.toks) (fun b o e => PyProof.Rows.sortedAll_old e) hd ⟨?_, out, n, rv', hn⟩, rfl, q _ _ rs' (I.hok.fresh hd)⟩
    have hl : (m.map Tri.v).length = xs.length := by rw [List.length_map, hp.length_eq, ← e2, List.length_map]
    rw [hl]
    exact hz
end
end Gx
end T_GxT12
section T_GxD1
set_option Elab.async false
set_option linter.all false
set_option maxRecDepth 100000
set_option maxHeartbeats 4000000
namespace Gx
open PySem PySem.Spec PyProof.Rows L2

/-! ## a written dict -/
/-- a key among others -/
def hasK (k : Key) : List D → Bool
  | [] => false
  | c :: ks => decide (keyOf c = some k) || hasK k ks
def setK (k : Key) (d : D) : List D → List D → List D
  | c :: ks, x :: xs => (if keyOf c = some k then d else x) :: setK k d ks xs
  | _, xs => xs
/-- k: d, in its place or at the end -/
def putKD (k : Key) (d : D) (ks xs : List D) : List D × List D := if hasK k ks = true then (ks, setK k d ks xs) else (ks ++ [keyD k], xs ++ [d])
theorem keyOf_keyD (k : Key) : keyOf (keyD k) = some k := by cases k <;> rfl
section
variable {T : Tb} {F : Hp}
theorem hasK_any {k : Key} : ∀ {kvs : List (Key × V)}, hasK k (kvs.map fun p => keyD p.1) = kvs.any fun kv => decide (kv.1 = k)
  | [] => rfl
  | p :: r => by
    show (decide (keyOf (keyD p.1) = some k) || hasK k (r.map fun p => keyD p.1)) = (decide (p.1 = k) || r.any fun kv => decide (kv.1 = k))
    rw [hasK_any, keyOf_keyD]
    congr 1
    by_cases e : p.1 = k
    · rw [e]; simp
    · rw [decide_eq_false e, decide_eq_false (fun z => e (Option.some.inj z))]
theorem setK_rel {k : Key} {d : D} {v : V} (h : Rep T F d v) : ∀ {kvs : List (Key × V)} {xs : List D}, Reps T F xs (kvs.map (·.2)) →
    Reps T F (setK k d (kvs.map fun p => keyD p.1) xs) ((kvs.map fun kv => if kv.1 = k then (kv.1, v) else kv).map (·.2))
  | [], _, r => r
  | p :: kvs, _, .cons (d := x) (ds := xs) hx t => by
    have ih := setK_rel (k := k) h t
    have e : setK k d ((p :: kvs).map fun p => keyD p.1) (x :: xs) = (if keyOf (keyD p.1) = some k then d else x) :: setK k d (kvs.map fun p => keyD p.1) xs := rfl
    rw [e, keyOf_keyD]
    refine .cons ?_ ih
    show Rep T F _ (if p.1 = k then (p.1, v) else p).2
    by_cases q : p.1 = k
    · rw [if_pos (by rw [q]), if_pos q]; exact h
    · rw [if_neg (fun z => q (Option.some.inj z)), if_neg q]; exact hx
theorem putKD_rel {k : Key} {d : D} {v : V} (h : Rep T F d v) {kvs : List (Key × V)} {xs : List D} (r : Reps T F xs (kvs.map (·.2))) :
    (putKD k d (kvs.map fun p => keyD p.1) xs).1 = (putK kvs k v).map (fun p => keyD p.1) ∧ Reps T F (putKD k d (kvs.map fun p => keyD p.1) xs).2 ((putK kvs k v).map (·.2)) := by
  unfold putKD putK
  rw [hasK_any]
  by_cases c : (kvs.any fun kv => decide (kv.1 = k)) = true
  · rw [if_pos c, if_pos c]
    refine ⟨?_, setK_rel h r⟩
    rw [List.map_map]
    refine List.map_congr_left fun p _ => ?_
    show keyD p.1 = keyD (if p.1 = k then (p.1, v) else p).1
    by_cases q : p.1 = k
    · rw [if_pos q]
    · rw [if_neg q]
  · rw [if_neg c, if_neg c]
    exact ⟨by simp, by rw [List.map_append]; exact r.snoc h⟩
end
/-- keys and values, one pair after the other -/
def mergeD : List (Key × D) → List D × List D → List D × List D
  | [], a => a
  | p :: r, a => mergeD r (putKD p.1 p.2 a.1 a.2)
theorem mergeD_rel {T : Tb} {F : Hp} : ∀ {ps : List (Key × D)} {qs : List (Key × V)} {kvs : List (Key × V)} {xs : List D}, qs.map (·.1) = ps.map (·.1) → Reps T F (ps.map (·.2)) (qs.map (·.2)) → Reps T F xs (kvs.map (·.2)) →
    (mergeD ps (kvs.map (fun p => keyD p.1), xs)).1 = (mergeK kvs qs).map (fun p => keyD p.1) ∧ Reps T F (mergeD ps (kvs.map (fun p => keyD p.1), xs)).2 ((mergeK kvs qs).map (·.2))
  | [], [], kvs, xs, _, _, r => ⟨rfl, r⟩
  | [], _ :: _, _, _, e, _, _ => by cases e
  | _ :: _, [], _, _, e, _, _ => by cases e
  | (k, d) :: ps, (k2, v) :: qs, kvs, xs, e, rs, r => by
    have e : k2 :: qs.map (·.1) = k :: ps.map (·.1) := e
    obtain ⟨e1, e2⟩ := List.cons.inj e
    subst e1
    cases rs with
    | cons h t =>
      obtain ⟨a1, a2⟩ := putKD_rel (k := k2) h r
      have ih := mergeD_rel (ps := ps) (qs := qs) (kvs := putK kvs k2 v) (xs := (putKD k2 d (kvs.map fun p => keyD p.1) xs).2) e2 t a2
      have : mergeD ((k2, d) :: ps) (kvs.map (fun p => keyD p.1), xs) = mergeD ps ((putK kvs k2 v).map (fun p => keyD p.1), (putKD k2 d (kvs.map fun p => keyD p.1) xs).2) := by
        show mergeD ps (putKD k2 d (kvs.map fun p => keyD p.1) xs) = _
        rw [← a1]
      rw [this]
      exact ih
/-- the pairs of a written dict, from the left -/
def prs : List (EM × EM) → M (List (Key × D))
  | [] => M.ret []
  | (f, g) :: r => f.bind fun x => g.bind fun y => match x, y with
    | .d a, .d b => (match keyOf a with
      | some k => (prs r).bind fun l => M.ret ((k, b) :: l)
      | none => M.fail)
    | _, _ => M.fail
def eDisp (l : List (EM × EM)) : EM := (prs l).bind fun ps => M.ask fun _ => if ps.length ≤ 15 then some (.d (.dic (mergeD ps ([], [])).1 (mergeD ps ([], [])).2)) else none
section
variable {α β γ δ : Type} {Y : Cy} {relA : Gh → Nat → α → β → Prop} {relC : Gh → Nat → γ → δ → Prop} {g : Gh} {σ : L2.St} {own : Own} {sd : Sl} {H : Hp} {p : Addr} {u : HO}
/-- a step while an object that is not yet ours stands by -/
theorem guard_bind {f : M α} {k : α → M γ} {Q : δ → Hp → Prop} {Q1 : β → Hp → Prop} (hB : Y.B p = none) (hF : g.F p = none) (R1 : HRel Y.T (upd Y.B p u) g own H) (S1 : SRel Y.T g own.length sd σ) (h : At Y relC g sd own σ Q (f.bind k))
    (c : ∀ g1 o1 x v H1, HRel Y.T (upd Y.B p u) g1 o1 H1 → SRel Y.T g1 o1.length sd σ → GExt Y.B g own.length g1 o1.length → g1.F p = none → relA g1 o1.length x v → At Y relC g1 sd o1 σ Q (k x) → Q1 v H1) : trM ⟨Y.T, upd Y.B p u, Y.Ek⟩ relA f σ H Q1 := by
  obtain ⟨r, own', e, q⟩ := h
  refine ⟨g, sd, own, R1, S1, ?_⟩
  unfold M.bind at e
  cases ef : f sd own with
  | none => rw [ef] at e; cases e
  | some pr =>
    obtain ⟨r0, o1⟩ := pr
    rw [ef] at e
    cases r0 with
    | ok x => exact ⟨.ok x, o1, ef, fun g' v H' R' x' rx => c g' o1 x v H' R' (S1.ext (x'.less (Le.upd hB))) (x'.less (Le.upd hB)) (guard_none x' hF) rx ⟨r, own', e, q.shift (x'.less (Le.upd hB))⟩⟩
    | ex k fs =>
      cases e
      exact ⟨.ex k fs, _, ef, fun g' d H' R' e' x => q g' d H' (R'.less (Le.upd hB)) (e'.less (Le.upd hB)) x⟩
end
theorem cxB {X : Cx} {Y : Cy} {B : Hp} (c : CxOk X Y) : CxOk X ⟨Y.T, B, Y.Ek⟩ := ⟨c.K, c.pass⟩
section
variable {X : Cx} {Y : Cy} {pos : Pos}
/-- pairs, whatever is to stay -/
inductive RPs (X : Cx) (Y : Cy) : List (Option Expr) → List Expr → List (EM × EM) → Prop
  | nil : RPs X Y [] [] []
  | cons {k v : Expr} {ks : List (Option Expr)} {vs : List Expr} {f g : EM} {l : List (EM × EM)} : (∀ B, PE X k (trE ⟨Y.T, B, Y.Ek⟩ f)) → (∀ B, PE X v (trE ⟨Y.T, B, Y.Ek⟩ g)) → RPs X Y ks vs l → RPs X Y (some k :: ks) (v :: vs) ((f, g) :: l)
def anyP (Y : Cy) (f : EM) : TE := fun σ H Q => ∃ B, trE ⟨Y.T, B, Y.Ek⟩ f σ H Q
theorem pe_anyP {e : Expr} {f : EM} (h : ∀ B, PE X e (trE ⟨Y.T, B, Y.Ek⟩ f)) : PE X e (anyP Y f) := ⟨fun pins s σ H Q I q => q.elim fun B q => (h B).run pins s σ H Q I q⟩
theorem rps_pps {ks : List (Option Expr)} {vs : List Expr} {l : List (EM × EM)} (h : RPs X Y ks vs l) : PPs X pos ks vs (l.map fun p => (anyP Y p.1, anyP Y p.2)) := by
  induction h with
  | nil => exact pps_nil
  | cons hk hv _ ih => exact pps_cons (pe_anyP hk) (pe_anyP hv) ih
theorem prs_at {p : Addr} {u : HO} (hB : Y.B p = none) {γ δ : Type} {relC : Gh → Nat → γ → δ → Prop} {σ : L2.St} {sd : Sl} {Q : δ → Hp → Prop} : ∀ (l : List (EM × EM)) {g : Gh} {own : Own} {H : Hp} {k : List (Key × D) → M γ} {Qd : List (V × V) → Hp → Prop}, g.F p = none → HRel Y.T (upd Y.B p u) g own H → SRel Y.T g own.length sd σ → At Y relC g sd own σ Q ((prs l).bind k) →
    (∀ g1 o1 (ps : List (Key × D)) (qs : List (Key × V)) H1, HRel Y.T (upd Y.B p u) g1 o1 H1 → GExt Y.B g own.length g1 o1.length → g1.F p = none → qs.map (·.1) = ps.map (·.1) → Reps Y.T g1.F (ps.map (·.2)) (qs.map (·.2)) → At Y relC g1 sd o1 σ Q (k ps) → Qd (qs.map fun q => (kV q.1, q.2)) H1) →
    tPairs (l.map fun p => (anyP Y p.1, anyP Y p.2)) σ H Qd
  | [], g, own, H, k, Qd, hF, R, S, h, c => by
    have h : At Y relC g sd own σ Q (k []) := by
      obtain ⟨r, own', e, q⟩ := h
      exact ⟨r, own', e, q⟩
    exact c g own [] [] H R .rfl' hF rfl .nil h
  | (f, g0) :: l, g, own, H, k, Qd, hF, R, S, h, c => by
    have h : At Y relC g sd own σ Q (f.bind fun x => (g0.bind fun y => match x, y with
      | .d a, .d b => (match keyOf a with
        | some k => (prs l).bind fun l => M.ret ((k, b) :: l)
        | none => M.fail)
      | _, _ => M.fail).bind k) := by
      obtain ⟨r, own', e, q⟩ := h
      refine ⟨r, own', ?_, q⟩
      rw [← e]
      show M.bind f _ sd own = M.bind (M.bind f _) k sd own
      unfold M.bind
      cases f sd own with
      | none => rfl
      | some z => obtain ⟨z1, z2⟩ := z; cases z1 <;> rfl
    refine ⟨_, guard_bind hB hF R S h fun g1 o1 x v H1 R1 S1 e1 F1 rx q1 => ?_⟩
    have q1 : At Y relC g1 sd o1 σ Q (g0.bind fun y => (match x, y with
      | .d a, .d b => (match keyOf a with
        | some k => (prs l).bind fun l => M.ret ((k, b) :: l)
        | none => M.fail)
      | _, _ => M.fail).bind k) := by
      obtain ⟨r, own', e, q⟩ := q1
      refine ⟨r, own', ?_, q⟩
      rw [← e]
      show M.bind g0 _ sd o1 = M.bind (M.bind g0 _) k sd o1
      unfold M.bind
      cases g0 sd o1 with
      | none => rfl
      | some z => obtain ⟨z1, z2⟩ := z; cases z1 <;> rfl
    refine ⟨_, guard_bind hB F1 R1 S1 q1 fun g2 o2 y w H2 R2 S2 e2 F2 ry q2 => ?_⟩
    have nof : ∀ {f : M γ}, (∀ sd own, f sd own = none) → At Y relC g2 sd o2 σ Q f → False := fun {f} z ⟨r, own', e, _⟩ => by rw [z] at e; cases e
    cases x with
    | h kk => exact (nof (fun _ _ => rfl) q2).elim
    | d a =>
      cases y with
      | h kk => exact (nof (fun _ _ => rfl) q2).elim
      | d b =>
        cases ea : keyOf a with
        | none =>
          have q2 : At Y relC g2 sd o2 σ Q ((match keyOf a with | some k => (prs l).bind fun l => M.ret ((k, b) :: l) | none => M.fail).bind k) := q2
          rw [ea] at q2
          exact (nof (fun _ _ => rfl) q2).elim
        | some kk =>
          have q2 : At Y relC g2 sd o2 σ Q ((match keyOf a with | some k => (prs l).bind fun l => M.ret ((k, b) :: l) | none => M.fail).bind k) := q2
          rw [ea] at q2
          have q3 : At Y relC g2 sd o2 σ Q ((prs l).bind fun l => k ((kk, b) :: l)) := by
            obtain ⟨r, own', e, q⟩ := q2
            refine ⟨r, own', ?_, q⟩
            rw [← e]
            show M.bind (prs l) _ sd o2 = M.bind (M.bind (prs l) _) k sd o2
            unfold M.bind
            cases prs l sd o2 with
            | none => rfl
            | some z => obtain ⟨z1, z2⟩ := z; cases z1 <;> rfl
          have ev := keyOf_rel ea (show Rep Y.T g2.F a v from (rx.ext e2))
          refine prs_at hB l F2 R2 S2 q3 fun g3 o3 ps qs H3 R3 e3 F3 k3 r3 q4 => ?_
          have := c g3 o3 ((kk, b) :: ps) ((kk, w) :: qs) H3 R3 ((e1.trans e2).trans e3) F3 (by rw [List.map_cons, List.map_cons, k3]) (.cons (Rep.le e3.F ry) r3) q4
          rw [ev]
          exact this
theorem r_disp {ks : List (Option Expr)} {vs : List Expr} {l : List (EM × EM)} (h : RPs X Y ks vs l) (hall : ks.all (·.isSome) = true := by rfl) (hl : ks.length = vs.length := by rfl) (h0 : ks ≠ [] := by exact List.cons_ne_nil _ _) (h15 : ks.length ≤ 15 := by decide) : PE X (.Dict ks vs pos) (trE Y (eDisp l)) := by
  refine PE.imp (pe_disp (rps_pps h) hall hl h0 h15) fun σ H Q q => ?_
  obtain ⟨gh, sd, own, R, S, q⟩ := q
  intro p hp
  obtain ⟨hB, hF⟩ := R.free hp
  refine prs_at hB l hF (R.guard hp) S q fun g1 o1 ps qs H1 R1 e1 F1 k1 r1 q1 => ?_
  obtain ⟨s, es, q2⟩ := at_ask q1
  by_cases hz : ps.length ≤ 15
  case neg => rw [if_neg hz] at es; cases es
  rw [if_pos hz] at es
  cases es
  have hz2 : qs.length ≤ 15 := by
    have := congrArg List.length k1
    rw [List.length_map, List.length_map] at this
    omega
  refine ⟨R1.b _ _ upd_same, qs, rfl, hz2, ?_⟩
  have R2 := R1.reb (u' := .dK (mergeK [] qs)) F1
  obtain ⟨R3, e3⟩ := R2.unguard F1 hB
  obtain ⟨m1, m2⟩ := mergeD_rel (T := Y.T) (F := g1.F) (ps := ps) (qs := qs) (kvs := []) (xs := []) k1 r1 .nil
  exact q2 _ _ _ R3 e3 (Rep.dic (.inl upd_same) m1 (m2.le e3.F))
end
end Gx
end T_GxD1
section T_GxD2
set_option Elab.async false
set_option linter.all false
set_option maxRecDepth 100000
set_option maxHeartbeats 4000000
namespace Gx
open PySem PySem.Spec PyProof.Rows L2

/-! ## comprehensions of two clauses -/
/-- one outer item's items -/
def lc2I (tg1 : GM) (t1 : TM) (f : EM) (sd1 : Sl) : List D → Own → Option (List D × Own) := lcL tg1 t1 f sd1
def lc2L (tg : GM) (t : TM) (src1 : IM) (vs1 : List Nat) (tg1 : GM) (t1 : TM) (f : EM) (sd0 : Sl) : List D → Own → Option (List D × Own)
  | [], own => some ([], own)
  | x :: xs, own => match tg x sd0 with
    | none => none
    | some sd1 => match t sd1 own with
      | some (.ok true, o1) => (match src1 sd1 o1 with
        | some (.ok ys, o2) => (match lcL tg1 t1 f (wipeD sd1 vs1) ys o2 with
          | some (ds, o3) => (match lc2L tg t src1 vs1 tg1 t1 f sd0 xs o3 with
            | some (es, o4) => some (ds ++ es, o4)
            | none => none)
          | none => none)
        | _ => none)
      | some (.ok false, o1) => lc2L tg t src1 vs1 tg1 t1 f sd0 xs o1
      | _ => none
def eLC2 (src : IM) (vs : List Nat) (tg : GM) (t : TM) (src1 : IM) (vs1 : List Nat) (tg1 : GM) (t1 : TM) (f : EM) : EM := src.bind fun xs => fun sd own => match lc2L tg t src1 vs1 tg1 t1 f (wipeD sd vs) xs own with
  | some (ds, o) => if ds.length < sizeLine then some (.ok (.d (.lst ds)), o) else none
  | none => none
section
variable {X : Cx} {Y : Cy} {tgx iter elt tgx1 iter1 : Expr} {ifs ifs1 : List Expr} {scope : Scope} {own : List (Str × Nat)} {pos : Pos} {src src1 : IM} {tg tg1 : GM} {gg gg1 : TG} {is is1 vs1 : List Nat} {t t1 : TM} {f : EM}
def anyI (T : Tb) (f : IM) : TI := fun σ H Q => ∃ B, trI ⟨T, B, E00⟩ f σ H Q
theorem pi_any {tg e : Expr} {T : Tb} {f : IM} (h : ∀ B, PI X tg e (trI ⟨T, B, E00⟩ f)) : PI X tg e (anyI T f) := ⟨fun pins s σ H Q I q => q.elim fun B q => (h B).run pins s σ H Q I q⟩
/-- the slots at vs1 alone may differ; the rest of wipe -/
theorem lc2_at (og : OG Y.T gg tg is) (hv : ∀ i ∈ is, i ∈ own.map (·.2)) (og1 : OG Y.T gg1 tg1 is1) (hv1 : ∀ i ∈ is1, i ∈ vs1) {σ : L2.St} {H : Hp} {Q : VK} (q : trE Y (eLC2 src (own.map (·.2)) tg t src1 vs1 tg1 t1 f) σ H Q) :
    tLc2 (trI Y src) gg (anyT Y.T t) (anyI Y.T src1) gg1 (anyT Y.T t1) (anyB Y.T f) (own.map (·.2)) vs1 σ H Q := by
  obtain ⟨gh, sd, own0, R, S, q⟩ := q
  refine at_bind R S q fun g1 o1 xs J H1 R1 S1 e1 wk q1 => ?_
  obtain ⟨r, own', e, k⟩ := q1
  cases el : lc2L tg t src1 vs1 tg1 t1 f (wipeD sd (own.map (·.2))) xs o1 with
  | none => simp only [el] at e; cases e
  | some p =>
    obtain ⟨ds, oF⟩ := p
    simp only [el] at e
    by_cases hz : ds.length < sizeLine
    case neg => rw [if_neg hz] at e; cases e
    rw [if_pos hz] at e
    cases e
    intro Dn hD
    obtain ⟨hB, hF⟩ := R1.free hD
    refine ⟨fun i m H => m = xs.length - i ∧ i ≤ xs.length ∧ ∃ (acc : List D) (accV : List V) (rest : List D) (g2 : Gh) (o2 : Own), HRel Y.T (upd Y.B Dn (.lst accV)) g2 o2 H ∧ g2.F Dn = none ∧ Reps Y.T g2.F acc accV ∧
      GExt Y.B g1 o1.length g2 o2.length ∧ lc2L tg t src1 vs1 tg1 t1 f (wipeD sd (own.map (·.2))) (xs.drop i) o2 = some (rest, own') ∧ acc ++ rest = ds,
      ⟨xs.length, by omega, Nat.zero_le _, [], [], ds, g1, o1, R1.guard hD, hF, .nil, .rfl', by rw [List.drop_zero]; exact el, rfl⟩, ?_⟩
    rintro i m H2 ⟨rfl, hi, acc, accV, rest, g2, o2, R2, F2, r2, e2, l2, ea⟩
    by_cases c : i < xs.length
    · refine .inr ⟨wk.go _ i g2 o2 H2 R2 e2.F c, fun H' => i + 1 ≤ xs.length ∧ ∃ (acc : List D) (accV : List V) (rest : List D) (g2 : Gh) (o2 : Own), HRel Y.T (upd Y.B Dn (.lst accV)) g2 o2 H' ∧ g2.F Dn = none ∧ Reps Y.T g2.F acc accV ∧
        GExt Y.B g1 o1.length g2 o2.length ∧ lc2L tg t src1 vs1 tg1 t1 f (wipeD sd (own.map (·.2))) (xs.drop (i + 1)) o2 = some (rest, own') ∧ acc ++ rest = ds,
        fun H' w => ⟨xs.length - (i + 1), by omega, rfl, w⟩, fun x H' y => ?_⟩
      have hx : xs[i]? = some xs[i] := by simp [c]
      obtain ⟨g3, R3, e3, r3⟩ := wk.yld _ i g2 o2 H2 x H' xs[i] R2 e2.F y hx
      have F3 : g3.F Dn = none := guard_none e3 F2
      rw [List.drop_eq_getElem_cons c] at l2
      unfold lc2L at l2
      have S3 : SRel Y.T g3 o2.length sd σ := (S1.ext e2).ext e3
      cases et : tg xs[i] (wipeD sd (own.map (·.2))) with
      | none => simp only [et] at l2; cases l2
      | some sd3 =>
        simp only [et] at l2
        refine og _ g3 o2 H' xs[i] x _ sd3 _ _ R3 r3 (srel_wipe S3 _) et fun σ3 S4 u => ⟨wipe_eq u hv, ?_⟩
        cases ec : t sd3 o2 with
        | none => simp only [ec] at l2; cases l2
        | some pc =>
          obtain ⟨rc, o3⟩ := pc
          cases rc with
          | ex cc fs => simp only [ec] at l2; cases l2
          | ok bb =>
            simp only [ec] at l2
            refine ⟨upd Y.B Dn (.lst accV), g3, sd3, o2, R3, S4, .ok bb, o3, ec, fun g4 b' H4 R4 e4 eb => ?_⟩
            obtain rfl : bb = b' := eb
            have F4 : g4.F Dn = none := guard_none e4 F3
            have e34 := (e3.trans e4).less (B := Y.B) (Le.upd hB)
            cases bb with
            | false =>
              rw [if_neg (by decide)]
              simp only at l2
              exact ⟨c, acc, accV, rest, g4, o3, R4, F4, r2.le (e3.F.trans e4.F), e2.trans e34, l2, ea⟩
            | true =>
              rw [if_pos rfl]
              simp only at l2
              cases es : src1 sd3 o3 with
              | none => simp only [es] at l2; cases l2
              | some ps =>
                obtain ⟨rs, o4⟩ := ps
                cases rs with
                | ex cc fs => simp only [es] at l2; cases l2
                | ok ys =>
                  simp only [es] at l2
                  cases ei : lcL tg1 t1 f (wipeD sd3 vs1) ys o4 with
                  | none => simp only [ei] at l2; cases l2
                  | some pi =>
                    obtain ⟨ds1, o5⟩ := pi
                    simp only [ei] at l2
                    cases er : lc2L tg t src1 vs1 tg1 t1 f (wipeD sd (own.map (·.2))) (xs.drop (i + 1)) o5 with
                    | none => simp only [er] at l2; cases l2
                    | some pr =>
                      obtain ⟨es1, o6⟩ := pr
                      simp only [er] at l2
                      cases l2
                      refine ⟨upd Y.B Dn (.lst accV), g4, sd3, o3, R4, S4.ext e4, .ok ys, o4, es, fun g5 J1 H5 R5 e5 wk1 => ?_⟩
                      have F5 : g5.F Dn = none := guard_none e5 F4
                      have e15 := (e2.trans e34).trans (e5.less (B := Y.B) (Le.upd hB))
                      have S5 : SRel Y.T g5 o4.length sd3 σ3 := (S4.ext e4).ext e5
                      have r5 := r2.le ((e3.F.trans e4.F).trans e5.F)
                      refine ⟨fun j m H => m = ys.length - j ∧ j ≤ ys.length ∧ ∃ (acc1 : List D) (accV1 : List V) (rest1 : List D) (g2 : Gh) (o2 : Own), HRel Y.T (upd Y.B Dn (.lst accV1)) g2 o2 H ∧ g2.F Dn = none ∧ Reps Y.T g2.F acc1 accV1 ∧
                        GExt Y.B g5 o4.length g2 o2.length ∧ lcL tg1 t1 f (wipeD sd3 vs1) (ys.drop j) o2 = some (rest1, o5) ∧ acc1 ++ rest1 = acc ++ ds1,
                        ⟨ys.length, by omega, Nat.zero_le _, acc, accV, ds1, g5, o4, R5, F5, r5, .rfl', by rw [List.drop_zero]; exact ei, rfl⟩, ?_⟩
                      rintro j m H6 ⟨rfl, hj, acc1, accV1, rest1, g6, o6', R6, F6, r6, e6, l6, ea6⟩
                      by_cases c1 : j < ys.length
                      · refine .inr ⟨wk1.go _ j g6 o6' H6 R6 e6.F c1, fun H' => j + 1 ≤ ys.length ∧ ∃ (acc1 : List D) (accV1 : List V) (rest1 : List D) (g2 : Gh) (o2 : Own), HRel Y.T (upd Y.B Dn (.lst accV1)) g2 o2 H' ∧ g2.F Dn = none ∧ Reps Y.T g2.F acc1 accV1 ∧
                          GExt Y.B g5 o4.length g2 o2.length ∧ lcL tg1 t1 f (wipeD sd3 vs1) (ys.drop (j + 1)) o2 = some (rest1, o5) ∧ acc1 ++ rest1 = acc ++ ds1,
                          fun H' w => ⟨ys.length - (j + 1), by omega, rfl, w⟩, fun x1 H7 y1 => ?_⟩
                        have hy : ys[j]? = some ys[j] := by simp [c1]
                        obtain ⟨g7, R7, e7, r7⟩ := wk1.yld _ j g6 o6' H6 x1 H7 ys[j] R6 e6.F y1 hy
                        have F7 : g7.F Dn = none := guard_none e7 F6
                        rw [List.drop_eq_getElem_cons c1] at l6
                        unfold lcL at l6
                        have S7 : SRel Y.T g7 o6'.length sd3 σ3 := (S5.ext e6).ext e7
                        cases et1 : tg1 ys[j] (wipeD sd3 vs1) with
                        | none => simp only [et1] at l6; cases l6
                        | some sd8 =>
                          simp only [et1] at l6
                          refine og1 _ g7 o6' H7 ys[j] x1 _ sd8 _ _ R7 r7 (srel_wipe S7 _) et1 fun σ8 S8 u1 => ⟨wipe_eq u1 hv1, ?_⟩
                          cases ec1 : t1 sd8 o6' with
                          | none => simp only [ec1] at l6; cases l6
                          | some pc1 =>
                            obtain ⟨rc1, o8⟩ := pc1
                            cases rc1 with
                            | ex cc fs => simp only [ec1] at l6; cases l6
                            | ok b1 =>
                              simp only [ec1] at l6
                              refine ⟨upd Y.B Dn (.lst accV1), g7, sd8, o6', R7, S8, .ok b1, o8, ec1, fun g9 b' H9 R9 e9 eb => ?_⟩
                              obtain rfl : b1 = b' := eb
                              have F9 : g9.F Dn = none := guard_none e9 F7
                              have e79 := (e7.trans e9).less (B := Y.B) (Le.upd hB)
                              cases b1 with
                              | false =>
                                rw [if_neg (by decide)]
                                simp only at l6
                                exact ⟨c1, acc1, accV1, rest1, g9, o8, R9, F9, r6.le (e7.F.trans e9.F), e6.trans e79, l6, ea6⟩
                              | true =>
                                rw [if_pos rfl]
                                simp only at l6
                                cases ef : f sd8 o8 with
                                | none => simp only [ef] at l6; cases l6
                                | some pf =>
                                  obtain ⟨rf, o9⟩ := pf
                                  cases rf with
                                  | ex cc fs => simp only [ef] at l6; cases l6
                                  | ok s =>
                                    cases s with
                                    | h kk => simp only [ef] at l6; cases l6
                                    | d d =>
                                      simp only [ef] at l6
                                      cases er1 : lcL tg1 t1 f (wipeD sd3 vs1) (ys.drop (j + 1)) o9 with
                                      | none => simp only [er1] at l6; cases l6
                                      | some pr =>
                                        obtain ⟨rs1, o10⟩ := pr
                                        simp only [er1] at l6
                                        cases l6
                                        refine ⟨upd Y.B Dn (.lst accV1), g9, sd8, o8, R9, S8.ext e9, .ok (.d d), o9, ef, fun g10 v H10 R10 e10 rv => ?_⟩
                                        have F10 : g10.F Dn = none := guard_none e10 F9
                                        have e710 := ((e7.trans e9).trans e10).less (B := Y.B) (Le.upd hB)
                                        have r10 := r6.le ((e7.F.trans e9.F).trans e10.F)
                                        have hlen : acc1.length < ds.length := by
                                          rw [← ea]
                                          have := congrArg List.length ea6
                                          simp only [List.length_append, List.length_cons] at this ⊢
                                          omega
                                        exact ⟨accV1, R10.b _ _ upd_same, by rw [← r6.length]; omega, c1, acc1 ++ [d], accV1 ++ [v], rs1, g10, o9, R10.reb F10, F10, r10.snoc rv, e6.trans e710, er1, by rw [← ea6]; simp⟩
                      · have ej : j = ys.length := by omega
                        subst ej
                        rw [List.drop_length] at l6
                        cases l6
                        rw [List.append_nil] at ea6
                        subst ea6
                        exact .inl ⟨wk1.stop _ _ g6 _ H6 R6 e6.F (Nat.le_refl _), c, acc ++ ds1, accV1, es1, g6, _, R6, F6, r6, e15.trans e6, er, by rw [← ea, List.append_assoc]⟩
    · have e : i = xs.length := by omega
      subst e
      rw [List.drop_length] at l2
      cases l2
      rw [List.append_nil] at ea
      subst ea
      obtain ⟨R3, e3⟩ := R2.unguard F2 hB
      exact .inl ⟨wk.stop _ _ g2 _ H2 R2 e2.F (Nat.le_refl _), k _ _ H2 R3 (e2.trans e3) (Rep.lst upd_same (r2.le e3.F))⟩
theorem r_lc2 (hN : X.N.Nodup) (hi : PI X tgx iter (trI Y src)) (ok : BlkOk X.N X.env.scope scope own)
    (hg : ∀ (s : Shared) (H : Hp) (C : Addr) (cl : List (Str × Addr)) (fp : List Addr), PG (X.blk s H scope (compEnvC scope cl C X.env) fp) tgx gg) (og : OG Y.T gg tg is) (hv : ∀ i ∈ is, i ∈ own.map (·.2))
    (ht : ∀ (B : Hp) (s : Shared) (H : Hp) (C : Addr) (cl : List (Str × Addr)) (fp : List Addr), PTs (X.blk s H scope (compEnvC scope cl C X.env) fp) ifs (trT ⟨Y.T, B, E00⟩ t))
    (hi1 : ∀ (B : Hp) (s : Shared) (H : Hp) (C : Addr) (cl : List (Str × Addr)) (fp : List Addr), PI (X.blk s H scope (compEnvC scope cl C X.env) fp) tgx1 iter1 (trI ⟨Y.T, B, E00⟩ src1)) (hw : ∀ i ∈ vs1, i ∈ own.map (·.2))
    (hg1 : ∀ (s : Shared) (H : Hp) (C : Addr) (cl : List (Str × Addr)) (fp : List Addr), PG (X.blk s H scope (compEnvC scope cl C X.env) fp) tgx1 gg1) (og1 : OG Y.T gg1 tg1 is1) (hv1 : ∀ i ∈ is1, i ∈ vs1)
    (ht1 : ∀ (B : Hp) (s : Shared) (H : Hp) (C : Addr) (cl : List (Str × Addr)) (fp : List Addr), PTs (X.blk s H scope (compEnvC scope cl C X.env) fp) ifs1 (trT ⟨Y.T, B, E00⟩ t1))
    (he : ∀ (B : Hp) (s : Shared) (H : Hp) (C : Addr) (cl : List (Str × Addr)) (fp : List Addr), PE (X.blk s H scope (compEnvC scope cl C X.env) fp) elt (trE ⟨Y.T, B, E00⟩ f)) (hc : X.calm = true := by rfl) (hs : ∀ x, foldedSetIterable iter X.env x = pure x := by intro _; rfl) (hs1 : ∀ env x, foldedSetIterable iter1 env x = pure x := by intro _ _; rfl) :
    PE X (.ListComp elt [⟨tgx, iter, ifs, 0⟩, ⟨tgx1, iter1, ifs1, 0⟩] scope pos) (trE Y (eLC2 src (own.map (·.2)) tg t src1 vs1 tg1 t1 f)) :=
  PE.imp (pe_lc2 hc hN hi ok hw hg (fun s H C cl fp => pt_any fun B => ht B s H C cl fp) (fun s H C cl fp => pi_any fun B => hi1 B s H C cl fp) hg1 (fun s H C cl fp => pt_any fun B => ht1 B s H C cl fp) (fun s H C cl fp => pe_any fun B => he B s H C cl fp) hs hs1) fun _ _ _ q => lc2_at og hv og1 hv1 q
end
end Gx
end T_GxD2
section T_GxD3
set_option Elab.async false
set_option linter.all false
set_option maxRecDepth 100000
set_option maxHeartbeats 4000000
namespace Gx
open PySem PySem.Spec PyProof.Rows L2

/-! ## dict comprehensions -/
def dcL (tg : GM) (t : TM) (fk fv : EM) (sd0 : Sl) : List D → List D × List D → Own → Option ((List D × List D) × Own)
  | [], a, own => some (a, own)
  | x :: xs, a, own => match tg x sd0 with
    | none => none
    | some sd1 => match t sd1 own with
      | some (.ok true, o1) => (match fk sd1 o1 with
        | some (.ok (.d c), o2) => (match keyOf c with
          | some k => (match fv sd1 o2 with
            | some (.ok (.d d), o3) => dcL tg t fk fv sd0 xs (putKD k d a.1 a.2) o3
            | _ => none)
          | none => none)
        | _ => none)
      | some (.ok false, o1) => dcL tg t fk fv sd0 xs a o1
      | _ => none
def dcM (src : IM) (vs : List Nat) (tg : GM) (t : TM) (fk fv : EM) : M (List D × List D) := src.bind fun xs => fun sd own => if xs.length < sizeLine then (match dcL tg t fk fv (wipeD sd vs) xs ([], []) own with
  | some (a, o) => some (.ok a, o)
  | none => none) else none
/-- data -/
def eDC (src : IM) (vs : List Nat) (tg : GM) (t : TM) (fk fv : EM) : EM := (dcM src vs tg t fk fv).bind fun a => M.ret (.d (.dic a.1 a.2))
/-- .. of one's own -/
def eDCH (src : IM) (vs : List Nat) (tg : GM) (t : TM) (fk fv : EM) : EM := (dcM src vs tg t fk fv).bind fun a => fun _ own => some (.ok (.h own.length), own ++ [.dic a.1 a.2])
theorem putK_len {kvs : List (Key × V)} {k : Key} {v : V} : (putK kvs k v).length ≤ kvs.length + 1 := length_putK kvs k v
section
variable {X : Cx} {Y : Cy} {tgx iter kx vx : Expr} {ifs : List Expr} {scope : Scope} {own : List (Str × Nat)} {pos : Pos} {src : IM} {tg : GM} {gg : TG} {is : List Nat} {t : TM} {fk fv : EM}
/-- the guarded dict becomes one of ours -/
theorem HRel.unguardH {T : Tb} {B : Hp} {g : Gh} {own : Own} {H : Hp} {p : Addr} {u : HO} {o : O} (R : HRel T (upd B p u) g own H) (hF : g.F p = none) (hB : B p = none)
    (at_ : OAt T ⟨g.F, fun k => if k = own.length then p else g.ρ k⟩ (own.length + 1) H p o) :
    HRel T B ⟨g.F, fun k => if k = own.length then p else g.ρ k⟩ (own ++ [o]) H ∧ GExt B g own.length ⟨g.F, fun k => if k = own.length then p else g.ρ k⟩ (own ++ [o]).length := by
  have ext : GExt B g own.length ⟨g.F, fun k => if k = own.length then p else g.ρ k⟩ (own ++ [o]).length :=
    ⟨by simp, Le.rfl', fun k hk => by show (if k = own.length then p else g.ρ k) = g.ρ k; rw [if_neg (by omega)], fun _ _ e => .inl e⟩
  have R1 := R.less (B := B) (Le.upd hB)
  have ne : ∀ (k : Nat) (q : O), own[k]? = some q → q.live = true → g.ρ k ≠ p := fun k q hk hl z => by
    have := (R.nb k q hk hl).1
    rw [z, upd_same] at this; cases this
  have look : ∀ (k : Nat) (q : O), (own ++ [o])[k]? = some q → (k < own.length ∧ own[k]? = some q) ∨ (k = own.length ∧ q = o) := fun k q e => by
    by_cases hk : k < own.length
    · exact .inl ⟨hk, by rw [List.getElem?_append_left hk] at e; exact e⟩
    · have hk2 : k < (own ++ [o]).length := (List.getElem?_eq_some_iff.mp e).1
      have : k = own.length := by simp at hk2; omega
      subst this
      refine .inr ⟨rfl, ?_⟩
      simp at e
      exact e.symm
  have hl0 : (own ++ [o]).length = own.length + 1 := by simp
  refine ⟨⟨R1.b, R1.f, fun k q e => ?_, fun k q e hl => ?_, fun j k q r ej ek hq hr e => ?_⟩, ext⟩
  · rw [hl0]
    rcases look k q e with ⟨hk, e'⟩ | ⟨rfl, rfl⟩
    · show OAt T _ _ _ (if k = own.length then p else g.ρ k) q
      rw [if_neg (by omega), ← hl0]
      exact (R1.o k q e').ext ext
    · show OAt T _ _ _ (if own.length = own.length then p else g.ρ _) q
      rw [if_pos rfl]
      exact at_
  · show B (if k = own.length then p else g.ρ k) = none ∧ g.F (if k = own.length then p else g.ρ k) = none
    rcases look k q e with ⟨hk, e'⟩ | ⟨rfl, rfl⟩
    · rw [if_neg (by omega)]; exact R1.nb k q e' hl
    · rw [if_pos rfl]; exact ⟨hB, hF⟩
  · have e : (if j = own.length then p else g.ρ j) = (if k = own.length then p else g.ρ k) := e
    rcases look j q ej with ⟨hj, ej'⟩ | ⟨rfl, rfl⟩
    · rcases look k r ek with ⟨hk, ek'⟩ | ⟨rfl, rfl⟩
      · rw [if_neg (by omega), if_neg (by omega)] at e
        exact R1.inj j k q r ej' ek' hq hr e
      · rw [if_neg (by omega), if_pos rfl] at e
        exact absurd e (ne j q ej' hq)
    · rcases look k r ek with ⟨hk, ek'⟩ | ⟨rfl, rfl⟩
      · rw [if_pos rfl, if_neg (by omega)] at e
        exact absurd e.symm (ne k r ek' hr)
      · rfl
theorem dc_at (og : OG Y.T gg tg is) (hv : ∀ i ∈ is, i ∈ own.map (·.2)) {γ : Type} {σ : L2.St} {H : Hp} {Q : VK} {relC : Gh → Nat → γ → V → Prop} {k : List D × List D → M γ} (q : trM Y relC ((dcM src (own.map (·.2)) tg t fk fv).bind k) σ H Q)
    (hk : ∀ (a : List D × List D) (kvs : List (Key × V)) (g1 : Gh) (o1 : Own) (sd : Sl) (D : Addr) (H1 : Hp), HRel Y.T (upd Y.B D (.dK kvs)) g1 o1 H1 → g1.F D = none → Y.B D = none → a.1 = kvs.map (fun p => keyD p.1) → Reps Y.T g1.F a.2 (kvs.map (·.2)) → H1 D = some (.dK kvs) → At Y relC g1 sd o1 σ Q (k a) → Q (.ref D) H1) :
    tDc (trI Y src) gg (anyT Y.T t) (anyB Y.T fk) (anyB Y.T fv) (own.map (·.2)) σ H Q := by
  obtain ⟨gh, sd, own0, R, S, q⟩ := q
  have q : At Y relC gh sd own0 σ Q (src.bind fun xs => (fun sd own1 => if xs.length < sizeLine then (match dcL tg t fk fv (wipeD sd (own.map (·.2))) xs ([], []) own1 with
    | some (a, o) => k a sd o
    | none => none) else none)) := by
    obtain ⟨r, own', e, q⟩ := q
    refine ⟨r, own', ?_, q⟩
    rw [← e]
    unfold dcM M.bind
    cases src sd own0 with
    | none => rfl
    | some z =>
      obtain ⟨z1, z2⟩ := z
      cases z1 with
      | ex _ _ => rfl
      | ok xs =>
        simp only
        by_cases hz : xs.length < sizeLine
        · rw [if_pos hz, if_pos hz]
          cases dcL tg t fk fv (wipeD sd (own.map (·.2))) xs ([], []) z2 <;> rfl
        · rw [if_neg hz, if_neg hz]
  refine at_bind R S q fun g1 o1 xs J H1 R1 S1 e1 wk q1 => ?_
  obtain ⟨r, own', e, kq⟩ := q1
  by_cases hz : xs.length < sizeLine
  case neg => simp only [if_neg hz] at e; cases e
  simp only [if_pos hz] at e
  cases el : dcL tg t fk fv (wipeD sd (own.map (·.2))) xs ([], []) o1 with
  | none => simp only [el] at e; cases e
  | some p =>
    obtain ⟨fin, oF⟩ := p
    simp only [el] at e
    intro Dn hD
    obtain ⟨hB, hF⟩ := R1.free hD
    refine ⟨fun i m H => m = xs.length - i ∧ i ≤ xs.length ∧ ∃ (a : List D × List D) (kvs : List (Key × V)) (g2 : Gh) (o2 : Own), HRel Y.T (upd Y.B Dn (.dK kvs)) g2 o2 H ∧ g2.F Dn = none ∧ a.1 = kvs.map (fun p => keyD p.1) ∧ Reps Y.T g2.F a.2 (kvs.map (·.2)) ∧
      GExt Y.B g1 o1.length g2 o2.length ∧ dcL tg t fk fv (wipeD sd (own.map (·.2))) (xs.drop i) a o2 = some (fin, oF) ∧ kvs.length ≤ i,
      ⟨xs.length, by omega, Nat.zero_le _, ([], []), [], g1, o1, R1.guard hD, hF, rfl, .nil, .rfl', by rw [List.drop_zero]; exact el, Nat.le_refl _⟩, ?_⟩
    rintro i m H2 ⟨rfl, hi, a, kvs, g2, o2, R2, F2, k2, r2, e2, l2, hl⟩
    by_cases c : i < xs.length
    · refine .inr ⟨wk.go _ i g2 o2 H2 R2 e2.F c, fun H' => i + 1 ≤ xs.length ∧ ∃ (a : List D × List D) (kvs : List (Key × V)) (g2 : Gh) (o2 : Own), HRel Y.T (upd Y.B Dn (.dK kvs)) g2 o2 H' ∧ g2.F Dn = none ∧ a.1 = kvs.map (fun p => keyD p.1) ∧ Reps Y.T g2.F a.2 (kvs.map (·.2)) ∧
        GExt Y.B g1 o1.length g2 o2.length ∧ dcL tg t fk fv (wipeD sd (own.map (·.2))) (xs.drop (i + 1)) a o2 = some (fin, oF) ∧ kvs.length ≤ i + 1,
        fun H' w => ⟨xs.length - (i + 1), by omega, rfl, w⟩, fun x H' y => ?_⟩
      have hx : xs[i]? = some xs[i] := by simp [c]
      obtain ⟨g3, R3, e3, r3⟩ := wk.yld _ i g2 o2 H2 x H' xs[i] R2 e2.F y hx
      have F3 : g3.F Dn = none := guard_none e3 F2
      rw [List.drop_eq_getElem_cons c] at l2
      unfold dcL at l2
      have S3 : SRel Y.T g3 o2.length sd σ := (S1.ext e2).ext e3
      cases et : tg xs[i] (wipeD sd (own.map (·.2))) with
      | none => simp only [et] at l2; cases l2
      | some sd3 =>
        simp only [et] at l2
        refine og _ g3 o2 H' xs[i] x _ sd3 _ _ R3 r3 (srel_wipe S3 _) et fun σ3 S4 u => ⟨wipe_eq u hv, ?_⟩
        cases ec : t sd3 o2 with
        | none => simp only [ec] at l2; cases l2
        | some pc =>
          obtain ⟨rc, o3⟩ := pc
          cases rc with
          | ex cc fs => simp only [ec] at l2; cases l2
          | ok bb =>
            simp only [ec] at l2
            refine ⟨upd Y.B Dn (.dK kvs), g3, sd3, o2, R3, S4, .ok bb, o3, ec, fun g4 b' H4 R4 e4 eb => ?_⟩
            obtain rfl : bb = b' := eb
            have F4 : g4.F Dn = none := guard_none e4 F3
            have e34 := (e3.trans e4).less (B := Y.B) (Le.upd hB)
            cases bb with
            | false =>
              rw [if_neg (by decide)]
              simp only at l2
              exact ⟨c, a, kvs, g4, o3, R4, F4, k2, r2.le (e3.F.trans e4.F), e2.trans e34, l2, Nat.le_succ_of_le hl⟩
            | true =>
              rw [if_pos rfl]
              simp only at l2
              cases ef : fk sd3 o3 with
              | none => simp only [ef] at l2; cases l2
              | some pf =>
                obtain ⟨rf, o4⟩ := pf
                cases rf with
                | ex cc fs => simp only [ef] at l2; cases l2
                | ok s =>
                  cases s with
                  | h kk => simp only [ef] at l2; cases l2
                  | d d =>
                    simp only [ef] at l2
                    cases ek : keyOf d with
                    | none => simp only [ek] at l2; cases l2
                    | some kd =>
                      simp only [ek] at l2
                      cases eg : fv sd3 o4 with
                      | none => simp only [eg] at l2; cases l2
                      | some pg =>
                        obtain ⟨rg, o5⟩ := pg
                        cases rg with
                        | ex cc fs => simp only [eg] at l2; cases l2
                        | ok s2 =>
                          cases s2 with
                          | h kk => simp only [eg] at l2; cases l2
                          | d d2 =>
                            simp only [eg] at l2
                            refine ⟨upd Y.B Dn (.dK kvs), g4, sd3, o3, R4, S4.ext e4, .ok (.d d), o4, ef, fun g5 v H5 R5 e5 rv => ?_⟩
                            have F5 : g5.F Dn = none := guard_none e5 F4
                            refine ⟨upd Y.B Dn (.dK kvs), g5, sd3, o4, R5, (S4.ext e4).ext e5, .ok (.d d2), o5, eg, fun g6 w H6 R6 e6 rw6 => ?_⟩
                            have F6 : g6.F Dn = none := guard_none e6 F5
                            have ev := keyOf_rel ek (show Rep Y.T g5.F d v from rv)
                            have e36 := (((e3.trans e4).trans e5).trans e6).less (B := Y.B) (Le.upd hB)
                            have r6 := r2.le (((e3.F.trans e4.F).trans e5.F).trans e6.F)
                            obtain ⟨p1, p2⟩ := putKD_rel (k := kd) (show Rep Y.T g6.F d2 w from rw6) r6
                            rw [← k2] at p1 p2
                            exact ⟨kvs, kd, ev, R6.b _ _ upd_same, by omega, c, putKD kd d2 a.1 a.2, putK kvs kd w, g6, o5, R6.reb F6, F6, p1, p2, e2.trans e36, l2, by have := length_putK kvs kd w; omega⟩
    · have e9 : i = xs.length := by omega
      subst e9
      rw [List.drop_length] at l2
      cases l2
      refine .inl ⟨wk.stop _ _ g2 _ H2 R2 e2.F (Nat.le_refl _), ?_⟩
      exact hk fin kvs g2 oF sd Dn H2 R2 F2 hB k2 r2 (R2.b _ _ upd_same) ⟨r, own', e, kq.shift e2⟩
theorem r_dc (hN : X.N.Nodup) (hi : PI X tgx iter (trI Y src)) (ok : BlkOk X.N X.env.scope scope own)
    (hg : ∀ (s : Shared) (H : Hp) (C : Addr) (cl : List (Str × Addr)) (fp : List Addr), PG (X.blk s H scope (compEnvC scope cl C X.env) fp) tgx gg) (og : OG Y.T gg tg is) (hv : ∀ i ∈ is, i ∈ own.map (·.2))
    (ht : ∀ (B : Hp) (s : Shared) (H : Hp) (C : Addr) (cl : List (Str × Addr)) (fp : List Addr), PTs (X.blk s H scope (compEnvC scope cl C X.env) fp) ifs (trT ⟨Y.T, B, E00⟩ t))
    (hk : ∀ (B : Hp) (s : Shared) (H : Hp) (C : Addr) (cl : List (Str × Addr)) (fp : List Addr), PE (X.blk s H scope (compEnvC scope cl C X.env) fp) kx (trE ⟨Y.T, B, E00⟩ fk))
    (he : ∀ (B : Hp) (s : Shared) (H : Hp) (C : Addr) (cl : List (Str × Addr)) (fp : List Addr), PE (X.blk s H scope (compEnvC scope cl C X.env) fp) vx (trE ⟨Y.T, B, E00⟩ fv)) (hc : X.calm = true := by rfl) (hs : ∀ x, foldedSetIterable iter X.env x = pure x := by intro _; rfl) :
    PE X (.DictComp kx vx [⟨tgx, iter, ifs, 0⟩] scope pos) (trE Y (eDC src (own.map (·.2)) tg t fk fv)) :=
  PE.imp (pe_dc hc hN hi ok hg (fun s H C cl fp => pt_any fun B => ht B s H C cl fp) (fun s H C cl fp => pe_any fun B => hk B s H C cl fp) (fun s H C cl fp => pe_any fun B => he B s H C cl fp) hs) fun _ _ _ q =>
    dc_at og hv q fun a kvs g1 o1 sd D H1 R1 F1 hB k1 r1 hD q1 => by
      obtain ⟨R3, e3⟩ := R1.unguard F1 hB
      exact at_ret q1 _ _ H1 R3 e3 (Rep.dic (.inl upd_same) k1 (r1.le e3.F))
theorem r_dcH (hN : X.N.Nodup) (hi : PI X tgx iter (trI Y src)) (ok : BlkOk X.N X.env.scope scope own)
    (hg : ∀ (s : Shared) (H : Hp) (C : Addr) (cl : List (Str × Addr)) (fp : List Addr), PG (X.blk s H scope (compEnvC scope cl C X.env) fp) tgx gg) (og : OG Y.T gg tg is) (hv : ∀ i ∈ is, i ∈ own.map (·.2))
    (ht : ∀ (B : Hp) (s : Shared) (H : Hp) (C : Addr) (cl : List (Str × Addr)) (fp : List Addr), PTs (X.blk s H scope (compEnvC scope cl C X.env) fp) ifs (trT ⟨Y.T, B, E00⟩ t))
    (hk : ∀ (B : Hp) (s : Shared) (H : Hp) (C : Addr) (cl : List (Str × Addr)) (fp : List Addr), PE (X.blk s H scope (compEnvC scope cl C X.env) fp) kx (trE ⟨Y.T, B, E00⟩ fk))
    (he : ∀ (B : Hp) (s : Shared) (H : Hp) (C : Addr) (cl : List (Str × Addr)) (fp : List Addr), PE (X.blk s H scope (compEnvC scope cl C X.env) fp) vx (trE ⟨Y.T, B, E00⟩ fv)) (hc : X.calm = true := by rfl) (hs : ∀ x, foldedSetIterable iter X.env x = pure x := by intro _; rfl) :
    PE X (.DictComp kx vx [⟨tgx, iter, ifs, 0⟩] scope pos) (trE Y (eDCH src (own.map (·.2)) tg t fk fv)) :=
  PE.imp (pe_dc hc hN hi ok hg (fun s H C cl fp => pt_any fun B => ht B s H C cl fp) (fun s H C cl fp => pe_any fun B => hk B s H C cl fp) (fun s H C cl fp => pe_any fun B => he B s H C cl fp) hs) fun _ _ _ q =>
    dc_at og hv q fun (ka, xa) kvs g1 o1 sd D H1 R1 F1 hB k1 r1 hD q1 => by
      obtain ⟨r, own', e, kq⟩ := q1
      cases e
      obtain ⟨R3, e3⟩ := R1.unguardH (o := .dic ka xa) F1 hB ⟨kvs, hD, k1, r1⟩
      exact kq _ _ H1 R3 e3 ⟨by simp, by simp⟩
end
end Gx
end T_GxD3
section T_GxD4
set_option Elab.async false
set_option linter.all false
set_option maxRecDepth 100000
set_option maxHeartbeats 4000000
namespace Gx
open PySem PySem.Spec PyProof.Rows L2

/-! ## dicts of one's own, changed -/
/-- o[i] = v, o a dict of one's own -/
def putDK (own : Own) (o i : SV) (v : D) : Option Own := match o, i with
  | .h k, .d c => match own[k]? with
    | some (.dic ks xs) => (keyOf c).bind fun kk => if ks.length < sizeLine then some (own.set k (.dic (putKD kk v ks xs).1 (putKD kk v ks xs).2)) else none
    | _ => none
  | _, _ => none
def sPutD (o i v : EM) : SM := SM.bind v fun x => SM.bind o fun a => SM.bind i fun b => fun sd own => match x with
  | .d d => (putDK own a b d).map fun own' => .nx sd own'
  | _ => none
/-- o[i] op= v, ints -/
def sAugD (gg : Int → Int → Int) (o i v : EM) : SM := SM.bind o fun a => SM.bind i fun b => fun sd own => match a, b with
  | .h k, .d c => (match own[k]? with
    | some (.dic ks xs) => (match (keyOf c).bind fun kk => getK kk ks xs with
      | some (.int n) => SM.bind v (fun y => fun sd own => match y with
        | .d (.int m) => (putDK own a b (.int (gg n m))).map fun own' => .nx sd own'
        | _ => none) sd own
      | _ => none)
    | _ => none)
  | _, _ => none
section
variable {X : Cx} {Y : Cy} {pos po : Pos} {o i a : Expr} {fo fi f : EM}
theorem putDK_inv {own own' : Own} {o i : SV} {v : D} (h : putDK own o i v = some own') : ∃ k c kk ks xs, o = .h k ∧ i = .d c ∧ own[k]? = some (.dic ks xs) ∧ keyOf c = some kk ∧ ks.length < sizeLine ∧ own' = own.set k (.dic (putKD kk v ks xs).1 (putKD kk v ks xs).2) := by
  cases o with
  | d d => cases h
  | h k =>
    cases i with
    | h j => cases h
    | d c =>
      have h : (match own[k]? with | some (.dic ks xs) => (keyOf c).bind fun kk => if ks.length < sizeLine then some (own.set k (.dic (putKD kk v ks xs).1 (putKD kk v ks xs).2)) else none | _ => none) = some own' := h
      cases eo : own[k]? with
      | none => rw [eo] at h; cases h
      | some ob =>
        rw [eo] at h
        cases ob with
        | dic ks xs =>
          obtain ⟨kk, e1, e2⟩ := Option.bind_eq_some_iff.mp h
          by_cases c2 : ks.length < sizeLine
          · rw [if_pos c2] at e2
            cases e2
            exact ⟨k, c, kk, ks, xs, rfl, rfl, eo, e1, c2, rfl⟩
          · rw [if_neg c2] at e2; cases e2
        | _ => cases h
/-- the store -/
theorem putDK_at {gh : Gh} {own own' : Own} {H : Hp} {o i : SV} {v : D} {vo vi vv : V} (R : HRel Y.T Y.B gh own H) (ro : RS Y.T gh own.length o vo) (ri : RS Y.T gh own.length i vi) (rv : Rep Y.T gh.F v vv) (h : putDK own o i v = some own') :
    ∃ a H', vo = .ref a ∧ DPut H a vi vv H' ∧ HRel Y.T Y.B gh own' H' ∧ own'.length = own.length := by
  obtain ⟨k, c, kk, ks, xs, rfl, rfl, eo, ek, hl, rfl⟩ := putDK_inv h
  obtain ⟨kvs, h1, h2, h3⟩ := R.o k _ eo
  have ho := ro.2
  subst ho
  have ev := keyOf_rel ek (show Rep Y.T gh.F c vi from ri)
  subst ev
  subst h2
  obtain ⟨p1, p2⟩ := putKD_rel (k := kk) rv h3
  exact ⟨_, _, rfl, .k h1 (by rw [List.length_map] at hl; exact hl), R.put (ho := .dK (putK kvs kk vv)) (o' := .dic (putKD kk v (kvs.map fun p => keyD p.1) xs).1 (putKD kk v (kvs.map fun p => keyD p.1) xs).2) eo rfl ⟨_, upd_same, p1, p2⟩, by simp⟩
theorem rs_putD (hu : X.A.units + 1 < cLine) (ho : PE X o (trE Y fo)) (hi : PE X i (trE Y fi)) (hv : PE X a (trE Y f)) (hs : swapsWith a (some (.Subscript o i po)) pos.line X.env = pure false := by rfl) : PS X (.Assign [.Subscript o i po] a pos) (trS Y (sPutD fo fi f)) := PS.imp (ps_dput hu ho hi hv hs) fun D σ H q => by
  obtain ⟨gh, sd, own, R, S, q⟩ := q
  refine s_bind R S q fun g1 o1 x v H1 R1 S1 e1 rx q1 => ?_
  refine s_bind R1 S1 q1 fun g2 o2 y w H2 R2 S2 e2 ry q2 => ?_
  refine s_bind R2 S2 q2 fun g3 o3 z u H3 R3 S3 e3 rz q3 => ?_
  have rx3 := (rx.ext e2).ext e3
  have ry3 := ry.ext e3
  obtain ⟨r, e, k⟩ := q3
  cases x with
  | h kk => cases e
  | d d =>
    obtain ⟨own', e4, e5⟩ := Option.map_eq_some_iff.mp e
    subst e5
    obtain ⟨p, H4, rfl, dp, R4, l4⟩ := putDK_at R3 ry3 rz rx3 e4
    exact ⟨p, H4, rfl, dp, k g3 σ H4 R4 (by rw [l4]; exact S3) (by rw [l4]; exact .rfl')⟩
theorem rs_augD {op : Operator} {gg : Int → Int → Int} (hu : X.A.units + 1 < cLine) (hop : InOp X op (fun x y H Q => ∃ i j, x = .int i ∧ y = .int j ∧ Q (.int (gg i j)) H)) (ho : PE X o (trE Y fo)) (hi : PE X i (trE Y fi)) (hv : PE X a (trE Y f))
    (ha : ∀ ov iv new, augStore i ov iv new = (do holding [new, ov, iv] (setItem ov iv new); release [new, ov, iv] []; pure .next) := by intro _ _ _; rfl) : PS X (.AugAssign (.Subscript o i po) op a pos) (trS Y (sAugD gg fo fi f)) := PS.imp (ps_daug hu ho hi hv hop ha) fun D σ H q => by
  obtain ⟨gh, sd, own, R, S, q⟩ := q
  refine s_bind R S q fun g1 o1 x v H1 R1 S1 e1 rx q1 => ?_
  refine s_bind R1 S1 q1 fun g2 o2 y w H2 R2 S2 e2 ry q2 => ?_
  have rx2 := rx.ext e2
  obtain ⟨r, e, k⟩ := q2
  cases x with
  | d d => cases e
  | h kh =>
    cases y with
    | h j => cases e
    | d c =>
      simp only at e
      cases eo : o2[kh]? with
      | none => simp only [eo] at e; cases e
      | some ob =>
        cases ob with
        | dic ks xs =>
          simp only [eo] at e
          cases eg : (keyOf c).bind fun kk => getK kk ks xs with
          | none => simp only [eg] at e; cases e
          | some z =>
            cases z with
            | int n =>
              simp only [eg] at e
              obtain ⟨kk, ek, eg2⟩ := Option.bind_eq_some_iff.mp eg
              have ed : dicV o2 (.h kh) = some (ks, xs) := by
                show (match o2[kh]? with | some (.dic ks xs) => some (ks, xs) | _ => none) = _
                rw [eo]
              obtain ⟨p, ov, rfl, dg, g1', _⟩ := dget_of (k := kk) R2 rx2 ed
              obtain ⟨vi, rfl, rvi⟩ := g1' _ eg2
              obtain rfl := rep_int rvi
              have ew := keyOf_rel ek (show Rep Y.T g2.F c w from ry)
              subst ew
              refine ⟨p, .int n, rfl, dg, ?_⟩
              refine s_bind R2 S2 ⟨r, e, k⟩ fun g3 o3 y2 w2 H3 R3 S3 e3 ry2 q3 => ?_
              obtain ⟨r2, e4, k2⟩ := q3
              cases y2 with
              | h j => cases e4
              | d y2 =>
                cases y2 with
                | int m =>
                  obtain ⟨own', e5, e6⟩ := Option.map_eq_some_iff.mp e4
                  subst e6
                  refine ⟨n, m, rfl, sv_int ry2, ?_⟩
                  obtain ⟨p2, H4, e7, dp, R4, l4⟩ := putDK_at R3 (rx2.ext e3) (RS.ext e3 ry) (Rep.int (T := Y.T) (F := g3.F) (gg n m)) e5
                  cases e7
                  exact ⟨H4, dp, k2 g3 σ H4 R4 (by rw [l4]; exact S3) (by rw [l4]; exact .rfl')⟩
                | _ => cases e4
            | _ => simp only [eg] at e; cases e
        | _ => simp only [eo] at e; cases e

/-! ## places and numbers of items -/
/-- the first place -/
def ixD (x : D) : Nat → List D → Option Nat
  | _, [] => none
  | n, y :: ys => if eqN 60 y x = true then some n else ixD x (n + 1) ys
def mIndex : Own → SV → List SV → Option D := fun own x ys => match ys with
  | [y] => (lstV own x).bind fun xs => (datV own y).bind fun a => if (okN 60 a && xs.all (okN 59)) = true then (ixD a 0 xs).map (fun n : Nat => D.int (n : Int)) else none
  | _ => none
def mCount : Own → SV → List SV → Option D := fun own x ys => match ys with
  | [y] => (lstV own x).bind fun xs => (datV own y).bind fun a => if (okN 60 a && xs.all (okN 59)) = true then some (.int (xs.countP fun z => eqN 60 z a)) else none
  | _ => none
end
/-! ### list methods that only look -/
abbrev LM := Own → SV → List SV → Option D
def eLm (m : LM) (f : EM) (a : AM) : EM := f.bind fun x => (M.ask fun own => lstV own x).bind fun _ => a.bind fun ys => M.ask fun own => (m own x ys).map SV.d
def OLm (Y : Cy) (r : V → List V → Hp → VK → Prop) (m : LM) : Prop := ∀ (gh : Gh) (own : Own) (H : Hp) (x : SV) (v : V) (ys : List SV) (ws : List V) (z : D) (Q : VK),
  HRel Y.T Y.B gh own H → RS Y.T gh own.length x v → RSs Y.T gh own.length ys ws → m own x ys = some z →
  (∀ g' u H', HRel Y.T Y.B g' own H' → GExt Y.B gh own.length g' own.length → Rep Y.T g'.F z u → Q u H') → r v ws H Q
theorem at_lm {Y : Cy} {K : PySem.W.Frag} {r : V → List V → Hp → VK → Prop} {m : LM} {f : EM} {al : AM} (om : OLm Y r m) {σ : L2.St} {H : Hp} {Q : VK} (q : trE Y (eLm m f al) σ H Q) : tBM K "list" r (trE Y f) (trA Y al) σ H Q := by
  obtain ⟨gh, sd, own, R, S, q⟩ := q
  refine at_bind R S q fun g1 o1 x v H1 R1 S1 e1 rx q1 => ?_
  obtain ⟨xs0, ex0, q1⟩ := ask_at q1
  obtain ⟨a0, vs0, rfl, h0, _⟩ := lst_of R1 rx ex0
  refine ⟨.inl ⟨rfl, _, SqL.of h0⟩, ?_⟩
  refine at_bind R1 S1 q1 fun g2 o2 ys ws H2 R2 S2 e2 rs q2 => ?_
  obtain ⟨s, es, k⟩ := at_ask q2
  obtain ⟨z, ez, e4⟩ := Option.map_eq_some_iff.mp es
  subst e4
  exact om g2 o2 H2 x _ ys ws z Q R2 (rx.ext e2) rs ez k
section
variable {X : Cx} {Y : Cy} {apos cpos : Pos} {o e : Expr} {es : List Expr} {name : Str} {id : String} {r : V → List V → Hp → VK → Prop} {m : LM} {f : EM} {al : AM}
theorem r_lm (slot : Slot "list" name id) (hty : typeOf (.builtin id) = pure (.type "method_descriptor")) (hm : MtR X id r) (om : OLm Y r m) (ho : PE X o (trE Y f)) (ha : PA X (e :: es) (trA Y al))
    (hbase : attributeBase o name X.env (eval o X.env) = eval o X.env := by rfl)
    (hfew : ((backTo cpos (starEach (e :: es) X.env)).all (fun x => !x.1) && (backToKw cpos (keywordEach [] X.env)).all (fun x => x.1.isSome) && decide ((e :: es).length + ([] : List Keyword).length + (if ([] : List Keyword).isEmpty then 0 else 1) < 30)) = true := by rfl)
    (hline : (apos.endLine == cpos.line) = true := by rfl) (hs : starEach (e :: es) X.env = (false, eval e X.env) :: starEach es X.env := by rfl) (hplain : (backTo cpos (starEach es X.env)).any (·.1) = false := by rfl) :
    PE X (.Call (.Attribute o name apos) (e :: es) [] cpos) (trE Y (eLm m f al)) :=
  PE.imp (pe_bm PySem.F.plainAttrs_list slot hty hm ho ha hbase hfew hline hs hplain) fun _ _ _ q => at_lm om q
end
theorem ixD_of {x : D} : ∀ {xs : List D} {n j : Nat}, ixD x n xs = some j → ∃ i z, j = n + i ∧ xs[i]? = some z ∧ eqN 60 z x = true ∧ ∀ m z', m < i → xs[m]? = some z' → eqN 60 z' x = false
  | [], _, _, h => by cases h
  | y :: ys, n, j, h => by
    unfold ixD at h
    by_cases c : eqN 60 y x = true
    · rw [if_pos c] at h
      cases h
      exact ⟨0, y, rfl, rfl, c, fun m z' hm _ => absurd hm (Nat.not_lt_zero _)⟩
    · rw [if_neg c] at h
      obtain ⟨i, z, e1, e2, e3, e4⟩ := ixD_of h
      refine ⟨i + 1, z, by omega, by simpa using e2, e3, fun m z' hm hz => ?_⟩
      cases m with
      | zero => simp at hz; subst hz; simpa using c
      | succ m => exact e4 m z' (by omega) (by simpa using hz)
section
variable {Y : Cy}
theorem lst_core {gh : Gh} {own : Own} {H : Hp} {x y : SV} {v w : V} {ys : List D} {a : D} (R : HRel Y.T Y.B gh own H) (rx : RS Y.T gh own.length x v) (ry : RS Y.T gh own.length y w) (hy : lstV own x = some ys) (hx : datV own y = some a)
    (c1 : okN 60 a = true) (c2 : ys.all (okN 59) = true) : ∃ p, v = .ref p ∧ Dp Y.T.K H (.ref p) (.list (ys.map (pyN 59))) ∧ Dp Y.T.K H w (pyN 60 a) ∧ SeqAt.shaped (.list (ys.map (pyN 59))) = true ∧ SeqAt.shaped (pyN 60 a) = true := by
  obtain ⟨p, vs, rfl, hs, hr⟩ := lst_of R rx hy
  exact ⟨p, rfl, .lst (SqL.of hs) (dpAll_of R.f 59 hr c2), dat_of R ry hx c1, shaped_of (x := .lst ys) c2, shaped_of c1⟩
theorem eqv_at {z a : D} (hz : okN 59 z = true) (ha : okN 60 a = true) : PyData.eqv (pyN 59 z) (pyN 60 a) = eqN 60 z a := by
  rw [← pyN_mono 59 z hz, py_eq 60 z a (okN_mono 59 z hz) ha]
theorem ol_index : OLm Y (rIndexD Y.T.K) mIndex := by
  intro gh own H x v ys ws z Q R rx rs h k
  match ys, rs, h with
  | [y], rs, h =>
    obtain ⟨w, rfl, ry⟩ := rss1 rs
    obtain ⟨xs, e1, h⟩ := Option.bind_eq_some_iff.mp h
    obtain ⟨a, e2, h⟩ := Option.bind_eq_some_iff.mp h
    by_cases c : (okN 60 a && xs.all (okN 59)) = true
    · rw [if_pos c] at h
      obtain ⟨c1, c2⟩ := Bool.and_eq_true_iff.mp c
      obtain ⟨j, e3, e4⟩ := Option.map_eq_some_iff.mp h
      subst e4
      obtain ⟨i, zz, e5, e6, e7, e8⟩ := ixD_of e3
      have e5 : j = i := by omega
      subst e5
      obtain ⟨p, rfl, d1, d2, s1, s2⟩ := lst_core R rx ry e1 e2 c1 c2
      have okz : ∀ {q : D} {m : Nat}, xs[m]? = some q → okN 59 q = true := fun hq => (List.all_eq_true.mp c2) _ (List.mem_of_getElem? hq)
      refine ⟨p, w, pyN 60 a, xs.map (pyN 59), j, pyN 59 zz, rfl, rfl, d1, d2, s1, s2, by rw [List.getElem?_map, e6]; rfl, by rw [eqv_at (okz e6) c1]; exact e7, fun m z' hm hz => ?_, k gh _ H R .rfl' (.int _)⟩
      rw [List.getElem?_map] at hz
      obtain ⟨q, hq, e9⟩ := Option.map_eq_some_iff.mp hz
      subst e9
      rw [eqv_at (okz hq) c1]
      exact e8 m q hm hq
    · rw [if_neg c] at h; cases h
end
/-- xs.count(y) -/
def rCountD (K : PySem.W.Frag) : V → List V → Hp → VK → Prop := fun x xs H Q => ∃ (a : Addr) (y : V) (d : PyData) (ds : List PyData), x = V.ref a ∧ xs = [y] ∧ Dp K H (V.ref a) (.list ds) ∧ Dp K H y d ∧
  SeqAt.shaped (.list ds) = true ∧ SeqAt.shaped d = true ∧ Q (.int (ds.countP fun z => PyData.eqv z d : Nat)) H
theorem mt_countD {X : Cx} (hu : X.A.units + 65 < cLine) : MtR X "list.count" (rCountD X.K) := by
  intro pins st σ H x xs v us Q I rx rxs wish
  obtain ⟨a, y, d, ds, rfl, rfl, hl, hy, sl, sd, fin⟩ := wish
  cases rx
  obtain ⟨uy, rfl, ry⟩ := rxs.one
  obtain ⟨bs, ready⟩ := Dp.reads I d y uy hy ry
  have lay : PyData.canLayAll0 ds = true := SeqAt.canLay_of_shaped sl
  cases hl with
  | lst hs ha =>
    obtain ⟨its, rel, ⟨⟨c0, c1, c2, c3⟩, n, look, q1, q2, q3⟩, _⟩ := I.list hs
    simp only at q1 q3
    subst q1 q3
    obtain ⟨as, all⟩ := Dp.readsAll I ds _ its ha rel
    have mp : its.map (SeqAt.readOf st.heap) = ds := SeqAt.readsAll_map ds its as lay all
    have num : its.countP (fun u => PyData.eqv (SeqAt.readOf st.heap u) d) = ds.countP fun z => PyData.eqv z d := by
      rw [← mp, List.countP_map]; rfl
    refine call_meets PySem.F.slot_list_count ⟨_, look, rfl⟩ PySem.F.entry_list_count (PySem.F.args_list_count_2 _ _) (SeqAt.list_countAt a its.toArray n c1 c3 uy fun u => PyData.eqv (SeqAt.readOf st.heap u) d) ?_
    refine ⟨look, SeqAt.items_eqAt (vs := its.toArray) (show ReadsAll st.heap its.toArray.toList ds as from all) ready lay (SeqAt.canLay_of_shaped sd) (room_in_shaped sd hu), ?_⟩
    refine ⟨.int (ds.countP fun z => PyData.eqv z d : Nat), H, I.tok _, ⟨st.toks, ?_⟩, fin⟩
    show Value.int ((its.countP _ : Nat) : Int) st.toks = _
    rw [num]
section
variable {Y : Cy}
theorem ol_count : OLm Y (rCountD Y.T.K) mCount := by
  intro gh own H x v ys ws z Q R rx rs h k
  match ys, rs, h with
  | [y], rs, h =>
    obtain ⟨w, rfl, ry⟩ := rss1 rs
    obtain ⟨xs, e1, h⟩ := Option.bind_eq_some_iff.mp h
    obtain ⟨a, e2, h⟩ := Option.bind_eq_some_iff.mp h
    by_cases c : (okN 60 a && xs.all (okN 59)) = true
    · rw [if_pos c] at h
      cases h
      obtain ⟨c1, c2⟩ := Bool.and_eq_true_iff.mp c
      obtain ⟨p, rfl, d1, d2, s1, s2⟩ := lst_core R rx ry e1 e2 c1 c2
      refine ⟨p, w, pyN 60 a, xs.map (pyN 59), rfl, rfl, d1, d2, s1, s2, ?_⟩
      have e : (xs.map (pyN 59)).countP (fun z => PyData.eqv z (pyN 60 a)) = xs.countP fun z => eqN 60 z a := by
        rw [List.countP_map]
        refine List.countP_congr fun q hq => ?_
        show PyData.eqv (pyN 59 q) (pyN 60 a) = true ↔ _
        rw [eqv_at ((List.all_eq_true.mp c2) q hq) c1]
      rw [e]
      exact k gh _ H R .rfl' (.int _)
    · rw [if_neg c] at h; cases h
end
end Gx
end T_GxD4
section T_GxD5
set_option Elab.async false
set_option linter.all false
set_option maxRecDepth 100000
set_option maxHeartbeats 4000000
namespace Gx
open PySem PySem.Spec PyProof.Rows L2

/-! ## sorted, < of tuples -/
def mSortT (s : Sh) : Own → SV → Option D := fun own x => (lstV own x).bind fun ds => if (ds.all (shp s) && ds.all full) = true then some (.lst (srt (ltS s) ds)) else none
theorem ob_sortT {Y : Cy} {s : Sh} : OB Y (rSortD Y.T s) (m1 (mSortT s)) := by
  refine ob_1 (r := fun v H Q => rSortD Y.T s [v] H Q) (fun gh own H x v z Q R rx h k => ?_) fun _ _ _ h => h
  obtain ⟨ds, e1, h⟩ := Option.bind_eq_some_iff.mp h
  by_cases c : (ds.all (shp s) && ds.all full) = true
  · rw [if_pos c] at h
    cases h
    obtain ⟨c1, c2⟩ := Bool.and_eq_true_iff.mp c
    obtain ⟨a, vs, rfl, h1, h2⟩ := lst_of R rx e1
    refine ⟨a, vs, ds, gh.F, rfl, SqL.of h1, R.f, h2, c1, c2, fun ys p r2 hp => ?_⟩
    obtain ⟨R2, e2⟩ := R.new hp (.lst ys)
    exact k _ _ _ R2 e2 (.lst upd_same (r2.le e2.F))
  · rw [if_neg c] at h; cases h
def ltI (i j : Int) : Bool := decide (i < j)
def isort : List Int → List Int := srt ltI
theorem swo_ltI : SrtO.Swo ltI := ⟨fun x y h => by have := of_decide_eq_true h; exact decide_eq_false (by omega), fun x y z h1 h2 => by
  have := of_decide_eq_false h1
  have := of_decide_eq_false h2
  exact decide_eq_false (by omega)⟩
theorem isort_le (l : List Int) : (isort l).Pairwise (· ≤ ·) := (srt_srtd swo_ltI l).imp fun h => by
  have := of_decide_eq_false h
  omega
theorem isort_perm (l : List Int) : (isort l).Perm l := (srt_stb swo_ltI l).perm
theorem rise_uniq : ∀ {a b : List Int}, a.Perm b → a.Pairwise (· ≤ ·) → b.Pairwise (· ≤ ·) → a = b
  | [], b, p, _, _ => (List.Perm.nil_eq p)
  | x :: a, [], p, _, _ => by have := p.length_eq; simp at this
  | x :: a, y :: b, p, ha, hb => by
    have h1 := List.pairwise_cons.mp ha
    have h2 := List.pairwise_cons.mp hb
    have e : x = y := by
      have m1 : x ∈ y :: b := p.mem_iff.mp List.mem_cons_self
      have m2 : y ∈ x :: a := p.mem_iff.mpr List.mem_cons_self
      rcases List.mem_cons.mp m1 with e | m1
      · exact e
      · rcases List.mem_cons.mp m2 with e | m2
        · exact e.symm
        · have := h1.1 y m2
          have := h2.1 x m1
          omega
    subst e
    rw [rise_uniq (List.Perm.cons_inv p) h1.2 h2.2]
def mSortI : Own → SV → Option D := fun own x => (lstV own x).bind fun ds => (intsD ds).map fun is => .lst ((isort is).map D.int)
theorem ob_sortI {Y : Cy} : OB Y (rSortedI Y.T.K) (m1 mSortI) := by
  refine ob_1 (r := fun v H Q => rSortedI Y.T.K [v] H Q) (fun gh own H x v z Q R rx h k => ?_) fun _ _ _ h => h
  obtain ⟨ds, e1, h⟩ := Option.bind_eq_some_iff.mp h
  obtain ⟨is, e2, e3⟩ := Option.map_eq_some_iff.mp h
  subst e3
  obtain ⟨a, rfl, hs⟩ := ints_of R rx e1 e2
  refine ⟨a, is, rfl, hs, fun ns p hp hr hn => ?_⟩
  have e : ns = isort is := rise_uniq (hp.trans (isort_perm is).symm) hr (isort_le is)
  subst e
  obtain ⟨R2, e2⟩ := R.new hn (.lst ((isort is).map V.int))
  exact k _ _ _ R2 e2 (.lst upd_same (reps_int _))
/-- < of two of one shape -/
def mLtT (s : Sh) : Own → SV → SV → Option D := fun _ x y => match x, y with
  | .d a, .d b => if (shp s a && shp s b) = true then some (.bl (ltS s a b)) else none
  | _, _ => none
def rLtT (T : Tb) (s : Sh) : R2 := fun x y H Q => ∃ (d e : D) (F : Hp), Le F H ∧ Rep T F d x ∧ Rep T F e y ∧ shp s d = true ∧ shp s e = true ∧ Q (.bl (ltS s d e)) H
theorem op_ltS {X : Cx} {T : Tb} {s : Sh} (hu : X.A.units + 64 < cLine) (hd : s.dep ≤ 60 := by decide) (hK : X.K = T.K := by rfl) : OpR X (compareOp .Lt) (rLtT T s) := by
  intro pins st σ H x y v u Q I rx ry h
  obtain ⟨d, e, F, le, r1, r2, h1, h2, q⟩ := h
  exact TV.lt s (tv_of I le hK s r1 rx h1) (tv_of I le hK s r2 ry h2) (by omega) X.prog X.w _ _ ⟨.bl _, H, I, rfl, q⟩
theorem o2_ltS {Y : Cy} {s : Sh} : O2 Y (rLtT Y.T s) (mLtT s) := by
  intro gh own H x y v w z Q R rx ry h k
  cases x with
  | h j => cases h
  | d a =>
    cases y with
    | h j => cases h
    | d b =>
      have h : (if (shp s a && shp s b) = true then some (D.bl (ltS s a b)) else none) = some z := h
      by_cases c : (shp s a && shp s b) = true
      · rw [if_pos c] at h
        cases h
        obtain ⟨c1, c2⟩ := Bool.and_eq_true_iff.mp c
        exact ⟨a, b, gh.F, R.f, rx, ry, c1, c2, k gh _ H R .rfl' (.bl _)⟩
      · rw [if_neg c] at h; cases h
theorem _root_.L2.Room.u80 {k : Nat} {A : Around} (r : Room k A) : A.units + 80 < cLine := by have := r.un; omega
theorem call_sortT {X : Cx} {T : Tb} {s : Sh} {b : Bool} (k : SKind s b) (hu : X.A.units + 80 < cLine) (hd : s.dep ≤ 60 := by decide) (hK : X.K = T.K := by rfl) : CallR X (.builtin "sorted") (rSortD T s) := cr_sortD k hK (by omega)
end Gx
end T_GxD5
section T_GxD6
set_option Elab.async false
set_option linter.all false
set_option maxRecDepth 100000
set_option maxHeartbeats 4000000
namespace Gx
open PySem PySem.Spec PyProof.Rows L2

/-! ## list(range(..)), tuple(range(..)) -/
abbrev RM := M (Int × Int)
def relR : Gh → Nat → Int × Int → Int × Int → Prop := fun _ _ a b => a = b
def rg1 (f : EM) : RM := f.bind fun x => match x with
  | .d (.int n) => M.ret (0, n)
  | _ => M.fail
def rg2 (f g : EM) : RM := f.bind fun x => g.bind fun y => match x, y with
  | .d (.int i), .d (.int j) => M.ret (i, j)
  | _, _ => M.fail
def trR (Y : Cy) (f : RM) : L2.St → Hp → (Int → Int → Hp → Prop) → Prop := fun σ H Q => trM Y relR f σ H fun p H' => Q p.1 p.2 H'
def rgS (a b : Int) : Bool := decide (-(2 ^ 62) ≤ a ∧ a < 2 ^ 62 ∧ -(2 ^ 62) ≤ b ∧ b < 2 ^ 62 ∧ (b - a).toNat ≤ 2 ^ 24)
def eTupR (f : RM) : EM := f.bind fun p => M.ask fun _ => if rgS p.1 p.2 = true then some (.d (.tup (rgD p.1 (p.2 - p.1).toNat))) else none
def eLstR (f : RM) : EM := f.bind fun p => M.ask fun _ => if rgS p.1 p.2 = true then some (.d (.lst (rgD p.1 (p.2 - p.1).toNat))) else none
def eLstRH (f : RM) : EM := f.bind fun p => fun _ own => if rgS p.1 p.2 = true then some (.ok (.h own.length), own ++ [.lst (rgD p.1 (p.2 - p.1).toNat)]) else none
theorem rgD_eq (a : Int) (n : Nat) : rgD a n = ((List.range n).map fun i => a + (i : Nat)).map D.int := by
  unfold rgD
  rw [List.map_map]
  rfl
theorem rgV_eq (a b : Int) : rgV a b = ((List.range (b - a).toNat).map fun i => a + (i : Nat)).map V.int := by
  unfold rgV
  rw [List.map_map]
  rfl
theorem reps_rg {T : Tb} {F : Hp} (a b : Int) : Reps T F (rgD a (b - a).toNat) (rgV a b) := by
  rw [rgD_eq, rgV_eq]
  exact reps_int _
section
variable {X : Cx} {Y : Cy} {a b e : Expr} {f g : EM} {p pos : Pos} {m : RM}
theorem rr_1 (hm : X.mg "range" = none) (ha : PE X a (trE Y f)) (hg : Gl X "range" := by rfl) (na : starEach [a] X.env = (false, eval a X.env) :: starEach [] X.env := by rfl) : PRg X (.Call (.Name "range" p) [a] [] pos) (trR Y (rg1 f)) := by
  intro pins s σ H Q I q
  refine prg_1 hg hm ha na pins s σ H Q I ?_
  obtain ⟨gh, sd, own, R, S, q⟩ := q
  refine at_bind R S q fun g1 o1 x v H1 R1 S1 e1 rx q1 => ?_
  match x, rx, q1 with
  | .d (.int n), rx, q1 => exact ⟨n, sv_int rx, at_ret q1 g1 (0, n) H1 R1 .rfl' rfl⟩
theorem rr_2 (hm : X.mg "range" = none) (ha : PE X a (trE Y f)) (hb : PE X b (trE Y g)) (hg : Gl X "range" := by rfl) (na : starEach [a, b] X.env = (false, eval a X.env) :: starEach [b] X.env := by rfl)
    (nb : starEach [b] X.env = (false, eval b X.env) :: starEach [] X.env := by rfl) (hp : (backTo pos (starEach [b] X.env)).any (·.1) = false := by rfl) : PRg X (.Call (.Name "range" p) [a, b] [] pos) (trR Y (rg2 f g)) := by
  intro pins s σ H Q I q
  refine prg_2 hg hm ha hb na nb hp pins s σ H Q I ?_
  obtain ⟨gh, sd, own, R, S, q⟩ := q
  refine at_bind R S q fun g1 o1 x v H1 R1 S1 e1 rx q1 => ?_
  refine at_bind R1 S1 q1 fun g2 o2 y w H2 R2 S2 e2 ry q2 => ?_
  match x, y, rx, ry, q2 with
  | .d (.int i), .d (.int j), rx, ry, q2 => exact ⟨i, j, sv_int rx, sv_int ry, at_ret q2 g2 (i, j) H2 R2 .rfl' rfl⟩
theorem rgS_ok {a b : Int} (h : rgS a b = true) : RgOk a b := by
  unfold rgS at h
  have h := of_decide_eq_true h
  exact h
theorem r_tupR (hm : X.mg "tuple" = none) (he : PRg X e (trR Y m)) (hc : X.calm = true := by rfl) (hg : Gl X "tuple" := by rfl) (na : starEach [e] X.env = (false, eval e X.env) :: starEach [] X.env := by rfl) : PE X (.Call (.Name "tuple" p) [e] [] pos) (trE Y (eTupR m)) := by
  refine PE.imp (pe_tupRg hc hg hm he na) fun σ H Q q => ?_
  obtain ⟨gh, sd, own, R, S, q⟩ := q
  refine at_bind R S q fun g1 o1 x v H1 R1 S1 e1 rx q1 => ?_
  obtain rfl : x = v := rx
  obtain ⟨s, es, k⟩ := at_ask q1
  by_cases c : rgS x.1 x.2 = true
  · rw [if_pos c] at es
    cases es
    refine ⟨rgS_ok c, fun q hq => ?_⟩
    obtain ⟨R2, e2⟩ := R1.new hq (.tup (rgV x.1 x.2))
    exact k _ _ _ R2 e2 (Rep.tup (SqT.of upd_same) (reps_rg _ _))
  · rw [if_neg c] at es; cases es
theorem r_lstR (hm : X.mg "list" = none) (he : PRg X e (trR Y m)) (hc : X.calm = true := by rfl) (hg : Gl X "list" := by rfl) (na : starEach [e] X.env = (false, eval e X.env) :: starEach [] X.env := by rfl) : PE X (.Call (.Name "list" p) [e] [] pos) (trE Y (eLstR m)) := by
  refine PE.imp (pe_listRg hc hg hm he na) fun σ H Q q => ?_
  obtain ⟨gh, sd, own, R, S, q⟩ := q
  refine at_bind R S q fun g1 o1 x v H1 R1 S1 e1 rx q1 => ?_
  obtain rfl : x = v := rx
  obtain ⟨s, es, k⟩ := at_ask q1
  by_cases c : rgS x.1 x.2 = true
  · rw [if_pos c] at es
    cases es
    refine ⟨rgS_ok c, fun q hq => ?_⟩
    obtain ⟨R2, e2⟩ := R1.new hq (.lst (rgV x.1 x.2))
    exact k _ _ _ R2 e2 (Rep.lst upd_same (reps_rg _ _))
  · rw [if_neg c] at es; cases es
theorem r_lstRH (hm : X.mg "list" = none) (he : PRg X e (trR Y m)) (hc : X.calm = true := by rfl) (hg : Gl X "list" := by rfl) (na : starEach [e] X.env = (false, eval e X.env) :: starEach [] X.env := by rfl) : PE X (.Call (.Name "list" p) [e] [] pos) (trE Y (eLstRH m)) := by
  refine PE.imp (pe_listRg hc hg hm he na) fun σ H Q q => ?_
  obtain ⟨gh, sd, own, R, S, q⟩ := q
  refine at_bind R S q fun g1 o1 x v H1 R1 S1 e1 rx q1 => ?_
  obtain rfl : x = v := rx
  obtain ⟨r, own', es, k⟩ := q1
  by_cases c : rgS x.1 x.2 = true
  · simp only [if_pos c] at es
    cases es
    refine ⟨rgS_ok c, fun q hq => ?_⟩
    obtain ⟨R2, e2⟩ := R1.made (ho := .lst (rgV x.1 x.2)) (o := .lst (rgD x.1 (x.2 - x.1).toNat)) hq ⟨_, upd_same, reps_rg _ _⟩
    exact k _ _ _ R2 e2 ⟨by simp, by simp⟩
  · simp only [if_neg c] at es; cases es
end
end Gx
end T_GxD6
section T_GxD7
set_option Elab.async false
set_option linter.all false
set_option maxRecDepth 100000
set_option maxHeartbeats 4000000
namespace Gx
open PySem PySem.Spec PyProof.Rows L2
section
variable {X : Cx} {Y : Cy} {pos : Pos}
theorem rss_len {T : Tb} {g : Gh} {n : Nat} : ∀ {s : List SV} {v : List V}, RSs T g n s v → s.length = v.length := RSs.length
/-- (a, b, ..) = (e, f, ..) by way of a tuple -/
theorem rs_parT {is : List Nat} {es vs : List Expr} {al : AM} {n k k2 : Nat} {pt pt2 : Pos} (ha : PA X vs (trA Y al)) (hg : PGs X es (gSets is)) (hn : is.length = n) (hz : n ≤ 100 := by decide) (hc : X.calm = true := by rfl) (hn2 : (assignEach es X.env).length = n := by rfl) (hst : (assignEach es X.env).findIdx? (·.1) = none := by rfl)
    (hs : swapsWithSole [.Tuple es k pt] (.Tuple vs k2 pt2) pos.line X.env = pure false := by rfl) (hw : swappedStores [.Tuple es k pt] (.Tuple vs k2 pt2) X.env = pure none := by rfl) (h1 : (assignEach [.Tuple es k pt] X.env).map (·.2) = [assign (.Tuple es k pt) X.env] := by rfl) (hK : X.K = Y.T.K := by rfl) :
    PS X (.Assign [.Tuple es k pt] (.Tuple vs k2 pt2) pos) (trS Y (sPar is al)) := PS.imp (ps_asg (pe_tup ha) (pg_tup hc hg hn2 hst) hs hw h1) fun D σ H q => by
  obtain ⟨gh, sd, own, R, S, q⟩ := q
  refine s_bind R S q fun g1 o1 xs us H1 R1 S1 e1 rs q1 => ?_
  obtain ⟨r, e, kk⟩ := q1
  obtain ⟨sd', e2, e3⟩ := Option.map_eq_some_iff.mp e
  subst e3
  have hl := setL_len e2
  have hl2 := rs.length
  have hlen : us.length = n := by omega
  refine ⟨by rw [hlen, sizeLine_eq]; omega, fun p hp => ?_⟩
  obtain ⟨R2, x2⟩ := R1.new hp (.tup us)
  exact ⟨p, us, rfl, SqT.of upd_same, hlen, setL_rel (rs.ext x2) (S1.ext x2) e2 fun σ' S' => kk _ σ' _ R2 S' x2⟩
end
end Gx
end T_GxD7
section T_GxM1
set_option Elab.async false
set_option linter.all false
set_option maxRecDepth 100000
set_option maxHeartbeats 4000000
namespace Gx
open PySem

/-! ## loops and comprehensions, by typed items -/
section
variable {α : Type} {enc : α → D} {tg : GM} {t : TM} {f : EM} {p : SM} {sd sd0 : Sl} {own : Own}
theorem lc_all (pr : α → Bool) (g : α → D) : ∀ (xs : List α), (∀ x ∈ xs, ∃ sd1, tg (enc x) sd0 = some sd1 ∧ t sd1 own = some (.ok (pr x), own) ∧ (pr x = true → f sd1 own = some (.ok (.d (g x)), own))) →
    lcL tg t f sd0 (xs.map enc) own = some ((xs.filter pr).map g, own)
  | [], _ => rfl
  | x :: xs, h => by
    obtain ⟨sd1, h1, h2, h3⟩ := h x List.mem_cons_self
    have ih := lc_all pr g xs fun y hy => h y (List.mem_cons_of_mem _ hy)
    rw [List.map_cons]
    unfold lcL
    simp only [h1, h2]
    cases c : pr x with
    | true =>
      simp only [h3 c, ih, List.filter_cons, c, if_true, List.map_cons]
    | false =>
      simp only [ih, List.filter_cons, c]
      rfl
theorem e_LC {src : IM} {vs : List Nat} {xs : List α} (pr : α → Bool) (g : α → D) (hs : src sd own = some (.ok (xs.map enc), own)) (hz : xs.length < sizeLine)
    (h : ∀ x ∈ xs, ∃ sd1, tg (enc x) (wipeD sd vs) = some sd1 ∧ t sd1 own = some (.ok (pr x), own) ∧ (pr x = true → f sd1 own = some (.ok (.d (g x)), own))) :
    eLC src vs tg t f sd own = some (.ok (.d (.lst ((xs.filter pr).map g))), own) := by
  unfold eLC
  rw [s_bind_ok hs, List.length_map, if_pos hz, lc_all pr g xs h]
/-- no test -/
theorem e_LC0 {src : IM} {vs : List Nat} {xs : List α} (g : α → D) (hs : src sd own = some (.ok (xs.map enc), own)) (hz : xs.length < sizeLine)
    (h : ∀ x ∈ xs, ∃ sd1, tg (enc x) (wipeD sd vs) = some sd1 ∧ f sd1 own = some (.ok (.d (g x)), own)) :
    eLC src vs tg tTrue f sd own = some (.ok (.d (.lst (xs.map g))), own) := by
  have := e_LC (t := tTrue) (vs := vs) (f := f) (tg := tg) (fun _ => true) g hs hz fun x hx => by
    obtain ⟨sd1, h1, h2⟩ := h x hx
    exact ⟨sd1, h1, rfl, fun _ => h2⟩
  rw [List.filter_eq_self.mpr (fun _ _ => rfl)] at this
  exact this
theorem e_LCm {β : Type} {enc1 : β → D} {src : IM} {vs : List Nat} {xs : List α} (g : α → β) (hs : src sd own = some (.ok (xs.map enc), own)) (hz : xs.length < sizeLine)
    (h : ∀ x ∈ xs, ∃ sd1, tg (enc x) (wipeD sd vs) = some sd1 ∧ f sd1 own = some (.ok (.d (enc1 (g x))), own)) :
    eLC src vs tg tTrue f sd own = some (.ok (.d (.lst ((xs.map g).map enc1))), own) := by
  rw [List.map_map]
  exact e_LC0 (fun x => enc1 (g x)) hs hz h
theorem e_LCf {β : Type} {enc1 : β → D} {src : IM} {vs : List Nat} {xs : List α} (pr : α → Bool) (g : α → β) (hs : src sd own = some (.ok (xs.map enc), own)) (hz : xs.length < sizeLine)
    (h : ∀ x ∈ xs, ∃ sd1, tg (enc x) (wipeD sd vs) = some sd1 ∧ t sd1 own = some (.ok (pr x), own) ∧ (pr x = true → f sd1 own = some (.ok (.d (enc1 (g x))), own))) :
    eLC src vs tg t f sd own = some (.ok (.d (.lst (((xs.filter pr).map g).map enc1))), own) := by
  rw [List.map_map]
  exact e_LC pr (fun x => enc1 (g x)) hs hz h
theorem lc2_all {β : Type} {enc1 : β → D} {src1 : IM} {vs1 : List Nat} {tg1 : GM} {t1 : TM} (pr : α → Bool) (ys : α → List β) (pr1 : α → β → Bool) (g : α → β → D) : ∀ (xs : List α),
    (∀ x ∈ xs, ∃ sd1, tg (enc x) sd0 = some sd1 ∧ t sd1 own = some (.ok (pr x), own) ∧ (pr x = true → src1 sd1 own = some (.ok ((ys x).map enc1), own) ∧
      ∀ y ∈ ys x, ∃ sd2, tg1 (enc1 y) (wipeD sd1 vs1) = some sd2 ∧ t1 sd2 own = some (.ok (pr1 x y), own) ∧ (pr1 x y = true → f sd2 own = some (.ok (.d (g x y)), own)))) →
    lc2L tg t src1 vs1 tg1 t1 f sd0 (xs.map enc) own = some ((xs.filter pr).flatMap fun x => ((ys x).filter (pr1 x)).map (g x), own)
  | [], _ => rfl
  | x :: xs, h => by
    obtain ⟨sd1, h1, h2, h3⟩ := h x List.mem_cons_self
    have ih := lc2_all pr ys pr1 g xs fun y hy => h y (List.mem_cons_of_mem _ hy)
    rw [List.map_cons]
    unfold lc2L
    simp only [h1, h2]
    cases c : pr x with
    | true =>
      obtain ⟨h4, h5⟩ := h3 c
      simp only [h4, lc_all (pr1 x) (g x) (ys x) h5, ih, List.filter_cons, c, if_true, List.flatMap_cons]
    | false =>
      simp only [ih, List.filter_cons, c]
      rfl
theorem e_LC2 {β : Type} {enc1 : β → D} {src src1 : IM} {vs vs1 : List Nat} {tg1 : GM} {t1 : TM} {xs : List α} (pr : α → Bool) (ys : α → List β) (pr1 : α → β → Bool) (g : α → β → D) (hs : src sd own = some (.ok (xs.map enc), own))
    (h : ∀ x ∈ xs, ∃ sd1, tg (enc x) (wipeD sd vs) = some sd1 ∧ t sd1 own = some (.ok (pr x), own) ∧ (pr x = true → src1 sd1 own = some (.ok ((ys x).map enc1), own) ∧
      ∀ y ∈ ys x, ∃ sd2, tg1 (enc1 y) (wipeD sd1 vs1) = some sd2 ∧ t1 sd2 own = some (.ok (pr1 x y), own) ∧ (pr1 x y = true → f sd2 own = some (.ok (.d (g x y)), own))))
    (hz : ((xs.filter pr).flatMap fun x => ((ys x).filter (pr1 x)).map (g x)).length < sizeLine) :
    eLC2 src vs tg t src1 vs1 tg1 t1 f sd own = some (.ok (.d (.lst ((xs.filter pr).flatMap fun x => ((ys x).filter (pr1 x)).map (g x)))), own) := by
  unfold eLC2
  rw [s_bind_ok hs, lc2_all pr ys pr1 g xs h]
  simp only
  rw [if_pos hz]
/-- a loop whose turns go on -/
theorem for_fold {σ : Type} (J : σ → Sl → Own → Prop) (step : σ → α → σ) : ∀ (xs : List α) (s : σ) (sd : Sl) (own : Own), J s sd own →
    (∀ s x sd own, x ∈ xs → J s sd own → ∃ sd1, tg (enc x) sd = some sd1 ∧ ∃ sd2 own2, (p sd1 own = some (.nx sd2 own2) ∨ p sd1 own = some (.ct sd2 own2)) ∧ J (step s x) sd2 own2) →
    ∃ sd2 own2, forL tg p (xs.map enc) sd own = some (.nx sd2 own2) ∧ J (xs.foldl step s) sd2 own2
  | [], s, sd, own, h, _ => ⟨sd, own, rfl, h⟩
  | x :: xs, s, sd, own, h, st => by
    obtain ⟨sd1, e1, sd2, own2, e2, h2⟩ := st s x sd own List.mem_cons_self h
    obtain ⟨sd3, own3, e3, h3⟩ := for_fold J step xs (step s x) sd2 own2 h2 fun s y sd own hy => st s y sd own (List.mem_cons_of_mem _ hy)
    refine ⟨sd3, own3, ?_, h3⟩
    rw [List.map_cons, forL_1, e1]
    rcases e2 with e2 | e2 <;> simp only [e2] <;> exact e3
theorem for_pre' (J : List α → Sl → Own → Prop) : ∀ (xs : List α) (pre0 : List α) (sd : Sl) (own : Own), J pre0 sd own →
    (∀ pre x post sd own, pre0 ++ xs = pre ++ x :: post → J pre sd own → ∃ sd1, tg (enc x) sd = some sd1 ∧ ∃ sd2 own2, (p sd1 own = some (.nx sd2 own2) ∨ p sd1 own = some (.ct sd2 own2)) ∧ J (pre ++ [x]) sd2 own2) →
    ∃ sd2 own2, forL tg p (xs.map enc) sd own = some (.nx sd2 own2) ∧ J (pre0 ++ xs) sd2 own2
  | [], pre0, sd, own, h, _ => ⟨sd, own, rfl, by rw [List.append_nil]; exact h⟩
  | x :: xs, pre0, sd, own, h, st => by
    obtain ⟨sd1, e1, sd2, own2, e2, h2⟩ := st pre0 x xs sd own rfl h
    obtain ⟨sd3, own3, e3, h3⟩ := for_pre' J xs (pre0 ++ [x]) sd2 own2 h2 fun pre y post sd own e => st pre y post sd own (by rw [← e]; simp)
    refine ⟨sd3, own3, ?_, by rw [List.append_assoc] at h3; exact h3⟩
    rw [List.map_cons, forL_1, e1]
    rcases e2 with e2 | e2 <;> simp only [e2] <;> exact e3
/-- a loop, by what it has walked -/
theorem for_pre (J : List α → Sl → Own → Prop) (xs : List α) (sd : Sl) (own : Own) (h : J [] sd own)
    (st : ∀ pre x post sd own, xs = pre ++ x :: post → J pre sd own → ∃ sd1, tg (enc x) sd = some sd1 ∧ ∃ sd2 own2, (p sd1 own = some (.nx sd2 own2) ∨ p sd1 own = some (.ct sd2 own2)) ∧ J (pre ++ [x]) sd2 own2) :
    ∃ sd2 own2, forL tg p (xs.map enc) sd own = some (.nx sd2 own2) ∧ J xs sd2 own2 := for_pre' J xs [] sd own h st
def isEnd : Fl → Bool
  | .rt _ _ => true
  | .ex _ _ _ _ => true
  | _ => false
theorem for_exit' (J : List α → Sl → Own → Prop) (K : List α → α → Fl → Prop) : ∀ (xs : List α) (pre0 : List α) (sd : Sl) (own : Own), J pre0 sd own →
    (∀ pre x post sd own, pre0 ++ xs = pre ++ x :: post → J pre sd own → ∃ sd1, tg (enc x) sd = some sd1 ∧ ((∃ sd2 own2, (p sd1 own = some (.nx sd2 own2) ∨ p sd1 own = some (.ct sd2 own2)) ∧ J (pre ++ [x]) sd2 own2) ∨ ∃ r, p sd1 own = some r ∧ isEnd r = true ∧ K pre x r)) →
    (∃ sd2 own2, forL tg p (xs.map enc) sd own = some (.nx sd2 own2) ∧ J (pre0 ++ xs) sd2 own2) ∨ ∃ pre x post r, pre0 ++ xs = pre ++ x :: post ∧ forL tg p (xs.map enc) sd own = some r ∧ K pre x r
  | [], pre0, sd, own, h, _ => .inl ⟨sd, own, rfl, by rw [List.append_nil]; exact h⟩
  | x :: xs, pre0, sd, own, h, st => by
    obtain ⟨sd1, e1, e2⟩ := st pre0 x xs sd own rfl h
    rcases e2 with ⟨sd2, own2, e2, h2⟩ | ⟨r, e2, en, k⟩
    · have e : forL tg p ((x :: xs).map enc) sd own = forL tg p (xs.map enc) sd2 own2 := by
        rw [List.map_cons, forL_1, e1]
        rcases e2 with e2 | e2 <;> simp only [e2]
      rw [e]
      rcases for_exit' J K xs (pre0 ++ [x]) sd2 own2 h2 fun pre y post sd own e => st pre y post sd own (by rw [← e]; simp) with ⟨sd3, own3, e3, h3⟩ | ⟨pre, y, post, r, e3, e4, k⟩
      · exact .inl ⟨sd3, own3, e3, by rw [List.append_assoc] at h3; exact h3⟩
      · exact .inr ⟨pre, y, post, r, by rw [← e3]; simp, e4, k⟩
    · refine .inr ⟨pre0, x, xs, r, rfl, ?_, k⟩
      rw [List.map_cons, forL_1, e1]
      cases r with
      | rt s o => simp only [e2]
      | ex k fs sd o => simp only [e2]
      | nx sd o => cases en
      | bk sd o => cases en
      | ct sd o => cases en
/-- a loop that may be left, by what it has walked -/
theorem for_exit (J : List α → Sl → Own → Prop) (K : List α → α → Fl → Prop) (xs : List α) (sd : Sl) (own : Own) (h : J [] sd own)
    (st : ∀ pre x post sd own, xs = pre ++ x :: post → J pre sd own → ∃ sd1, tg (enc x) sd = some sd1 ∧ ((∃ sd2 own2, (p sd1 own = some (.nx sd2 own2) ∨ p sd1 own = some (.ct sd2 own2)) ∧ J (pre ++ [x]) sd2 own2) ∨ ∃ r, p sd1 own = some r ∧ isEnd r = true ∧ K pre x r)) :
    (∃ sd2 own2, forL tg p (xs.map enc) sd own = some (.nx sd2 own2) ∧ J xs sd2 own2) ∨ ∃ pre x post r, xs = pre ++ x :: post ∧ forL tg p (xs.map enc) sd own = some r ∧ K pre x r := for_exit' J K xs [] sd own h st
/-- a loop that may be left: by a result or an exception -/
def runE {σ ρ : Type} (step : σ → α → σ ⊕ ρ) : List α → σ → σ ⊕ ρ
  | [], s => .inl s
  | x :: xs, s => match step s x with
    | .inl s' => runE step xs s'
    | .inr r => .inr r
theorem for_run {σ ρ : Type} (J : σ → Sl → Own → Prop) (K : ρ → Fl → Prop) (step : σ → α → σ ⊕ ρ) (hK : ∀ v r, K v r → (∃ s o, r = .rt s o) ∨ (∃ k fs sd o, r = .ex k fs sd o)) : ∀ (xs : List α) (s : σ) (sd : Sl) (own : Own), J s sd own →
    (∀ s x sd own, x ∈ xs → J s sd own → ∃ sd1, tg (enc x) sd = some sd1 ∧ match step s x with
      | .inl s' => ∃ sd2 own2, (p sd1 own = some (.nx sd2 own2) ∨ p sd1 own = some (.ct sd2 own2)) ∧ J s' sd2 own2
      | .inr v => ∃ r, p sd1 own = some r ∧ K v r) →
    match runE step xs s with
    | .inl s' => ∃ sd2 own2, forL tg p (xs.map enc) sd own = some (.nx sd2 own2) ∧ J s' sd2 own2
    | .inr v => ∃ r, forL tg p (xs.map enc) sd own = some r ∧ K v r
  | [], s, sd, own, h, _ => ⟨sd, own, rfl, h⟩
  | x :: xs, s, sd, own, h, st => by
    obtain ⟨sd1, e1, e2⟩ := st s x sd own List.mem_cons_self h
    unfold runE
    cases c : step s x with
    | inl s' =>
      rw [c] at e2
      obtain ⟨sd2, own2, e2, h2⟩ := e2
      have ih := for_run J K step hK xs s' sd2 own2 h2 fun s y sd own hy => st s y sd own (List.mem_cons_of_mem _ hy)
      simp only
      have e : forL tg p ((x :: xs).map enc) sd own = forL tg p (xs.map enc) sd2 own2 := by
        rw [List.map_cons, forL_1, e1]
        rcases e2 with e2 | e2 <;> simp only [e2]
      rw [e]
      exact ih
    | inr v =>
      rw [c] at e2
      obtain ⟨r, e2, k⟩ := e2
      simp only
      refine ⟨r, ?_, k⟩
      rw [List.map_cons, forL_1, e1]
      rcases hK v r k with ⟨s, o, rfl⟩ | ⟨k, fs, sd, o, rfl⟩ <;> simp only [e2]
end
theorem wh_stop {c : TM} {b : SM} {n : Nat} {sd : Sl} {own o1 : Own} (h : c sd own = some (.ok false, o1)) : whL c b (n + 1) sd own = some (.nx sd o1) := by
  unfold whL
  rw [s_Sbind, h]
  rfl
theorem wh_step {c : TM} {b : SM} {n : Nat} {sd sd2 : Sl} {own o1 o2 : Own} (h : c sd own = some (.ok true, o1)) (h2 : b sd o1 = some (.nx sd2 o2)) : whL c b (n + 1) sd own = whL c b n sd2 o2 := by
  have e : whL c b (n + 1) sd own = (match b sd o1 with
      | some (.nx sd2 own2) => whL c b n sd2 own2
      | some (.ct sd2 own2) => whL c b n sd2 own2
      | some (.bk sd2 own2) => some (.nx sd2 own2)
      | r => r) := by
    show SM.bind c _ sd own = _
    rw [s_Sbind, h]
    try rfl
  rw [e, h2]
/-! ## defs -/
section
variable {N n : Nat} {b : SM} {xs : List SV} {own o1 : Own} {s : SV} {Ff : FM} {ds : List D} {z : D}
theorem run_rt (h : b (startD N xs) own = some (.rt s o1)) : runDef N b xs own = some (.ok s, o1) := by unfold runDef; rw [h]
theorem run_nx {sd : Sl} (h : b (startD N xs) own = some (.nx sd o1)) : runDef N b xs own = some (.ok (.d .non), o1) := by unfold runDef; rw [h]
theorem run_ex {k : Nat} {fs : List D} {sd : Sl} (h : b (startD N xs) own = some (.ex k fs sd o1)) : runDef N b xs own = some (.ex k fs, o1) := by unfold runDef; rw [h]
theorem cD (hd : dats xs = some ds) (hl : xs.length = n) (h : Ff xs [] = some (.ok (.d z), o1)) (sd : Sl) (own : Own) : callD n Ff xs sd own = some (.ok (.d z), own) := by
  unfold callD
  rw [if_neg (fun z => z hl)]
  simp [hd, h, resD]
theorem cDh (hd : dats xs = some ds) (hl : xs.length = n) {k : Nat} {o : O} (h : Ff xs [] = some (.ok (.h k), o1)) (hk : o1[k]? = some o) (hz : frzO o = some z) (sd : Sl) (own : Own) : callD n Ff xs sd own = some (.ok (.d z), own) := by
  unfold callD
  rw [if_neg (fun z => z hl)]
  simp [hd, h, resD, hk, hz]
theorem cDx (hd : dats xs = some ds) (hl : xs.length = n) {c : Nat} {fs : List D} (h : Ff xs [] = some (.ex c fs, o1)) (sd : Sl) (own : Own) : callD n Ff xs sd own = some (.ex c fs, own) := by
  unfold callD
  rw [if_neg (fun z => z hl)]
  simp [hd, h]
end
/-! ## data made of ints -/
def tI (l : List Int) : D := .tup (l.map D.int)
def lI (l : List Int) : D := .lst (l.map D.int)
def tT (l : List (List Int)) : D := .tup (l.map tI)
theorem ok_ints (n : Nat) : ∀ l : List Int, (l.map D.int).all (okN n) = true
  | [] => rfl
  | i :: l => by rw [List.map_cons, List.all_cons, ok_ints n l]; cases n <;> rfl
theorem ok_tI (n : Nat) (l : List Int) : okN (n + 1) (tI l) = true := ok_ints n l
theorem ok_map {α : Type} {n : Nat} {enc : α → D} (h : ∀ x, okN n (enc x) = true) : ∀ l : List α, (l.map enc).all (okN n) = true
  | [] => rfl
  | x :: l => by rw [List.map_cons, List.all_cons, ok_map h l, h x]; rfl
theorem ok_tT (n : Nat) (l : List (List Int)) : okN (n + 2) (tT l) = true := ok_map (ok_tI n) l
theorem eq_all {α : Type} [DecidableEq α] {n : Nat} {enc : α → D} (h : ∀ x y, eqN n (enc x) (enc y) = decide (x = y)) : ∀ l m : List α, eqAll (eqN n) (l.map enc) (m.map enc) = decide (l = m)
  | [], [] => rfl
  | [], _ :: _ => rfl
  | _ :: _, [] => rfl
  | x :: l, y :: m => by
    show (eqN n (enc x) (enc y) && eqAll (eqN n) (l.map enc) (m.map enc)) = _
    rw [h, eq_all h l m, ← Bool.decide_and]
    simp
theorem eq_int (n : Nat) (i j : Int) : eqN n (.int i) (.int j) = decide (i = j) := by
  have : eqN n (.int i) (.int j) = (i == j) := by cases n <;> rfl
  rw [this]
  by_cases c : i = j
  · subst c; simp
  · simp [c]
theorem eq_tI (n : Nat) (l m : List Int) : eqN (n + 1) (tI l) (tI m) = decide (l = m) := eq_all (enc := D.int) (eq_int n) l m
theorem eq_lI (n : Nat) (l m : List Int) : eqN (n + 1) (lI l) (lI m) = decide (l = m) := eq_all (enc := D.int) (eq_int n) l m
theorem eq_tT (n : Nat) (l m : List (List Int)) : eqN (n + 2) (tT l) (tT m) = decide (l = m) := eq_all (enc := tI) (eq_tI n) l m
theorem any_eq {α : Type} [BEq α] [LawfulBEq α] {n : Nat} {enc : α → D} (h : ∀ x y, eqN n (enc x) (enc y) = true ↔ x = y) (x : α) : ∀ l : List α, ((l.map enc).any fun z => eqN n z (enc x)) = decide (x ∈ l)
  | [] => rfl
  | y :: l => by
    rw [List.map_cons, List.any_cons, any_eq h x l]
    by_cases c : y = x
    · rw [(h y x).mpr c]
      subst c
      simp
    · have c2 : ¬ x = y := fun z => c z.symm
      have : eqN n (enc y) (enc x) = false := by rw [← Bool.not_eq_true]; exact fun z => c ((h y x).mp z)
      rw [this]
      simp [c2]
theorem iff_of {a : Bool} {p : Prop} [Decidable p] (h : a = decide p) : a = true ↔ p := by rw [h]; exact decide_eq_true_iff
theorem qI (n : Nat) (x y : Int) : eqN n (.int x) (.int y) = true ↔ x = y := iff_of (eq_int n x y)
theorem qT (n : Nat) (x y : List Int) : eqN (n + 1) (tI x) (tI y) = true ↔ x = y := iff_of (eq_tI n x y)
theorem qTT (n : Nat) (x y : List (List Int)) : eqN (n + 2) (tT x) (tT y) = true ↔ x = y := iff_of (eq_tT n x y)
theorem in_tI {own : Own} {c : Int} {l : List Int} {neg : Bool} : mIn neg own (.d (.int c)) (.d (tI l)) = some (.bl (decide (c ∈ l) != neg)) := by
  have e := in_tup (own := own) (d := .int c) (xs := l.map D.int) (neg := neg) rfl (ok_ints 59 l)
  rw [any_eq (enc := D.int) (qI 60) c l] at e
  exact e
theorem in_lI {own : Own} {c : Int} {l : List Int} {neg : Bool} : mIn neg own (.d (.int c)) (.d (lI l)) = some (.bl (decide (c ∈ l) != neg)) := by
  have e := in_lst (own := own) (d := .int c) (xs := l.map D.int) (neg := neg) rfl (ok_ints 59 l)
  rw [any_eq (enc := D.int) (qI 60) c l] at e
  exact e
theorem ints_of_map (l : List Int) : intsD (l.map D.int) = some l := intsD_of l
/-! ### the order of lists of ints -/
theorem lex_U : ∀ a b : List Int, lexI ((a.flatMap fun i => [1, i]) ++ [0]) ((b.flatMap fun i => [1, i]) ++ [0]) = lexI a b
  | [], [] => rfl
  | [], j :: b => by
    show lexI [0] (1 :: j :: ((b.flatMap fun i => [1, i]) ++ [0])) = true
    rfl
  | i :: a, [] => by
    show lexI (1 :: i :: ((a.flatMap fun i => [1, i]) ++ [0])) [0] = false
    rfl
  | i :: a, j :: b => by
    show lexI (1 :: i :: ((a.flatMap fun i => [1, i]) ++ [0])) (1 :: j :: ((b.flatMap fun i => [1, i]) ++ [0])) = (if i = j then lexI a b else decide (i < j))
    have e : ∀ u v : List Int, lexI (1 :: i :: u) (1 :: j :: v) = (if i = j then lexI u v else decide (i < j)) := fun u v => by
      show (if (1 : Int) = 1 then (if i = j then lexI u v else decide (i < j)) else decide ((1 : Int) < 1)) = _
      rw [if_pos rfl]
    rw [e, lex_U a b]
theorem enc_tI (l : List Int) : encS (.U .I) (tI l) = (l.flatMap fun i => [1, i]) ++ [0] := by
  show ((l.map D.int).flatMap fun x => 1 :: encS .I x) ++ [0] = _
  rw [List.flatMap_map]
  rfl
theorem lt_tI (a b : List Int) : ltS (.U .I) (tI a) (tI b) = lexI a b := by
  unfold ltS
  rw [enc_tI, enc_tI, lex_U]
theorem shp_ints : ∀ l : List Int, (l.map D.int).all (shp .I) = true
  | [] => rfl
  | i :: l => by rw [List.map_cons, List.all_cons, shp_ints l]; rfl
theorem shp_tI (l : List Int) : shp (.U .I) (tI l) = true := shp_ints l
theorem shp_tIs (l : List (List Int)) : (l.map tI).all (shp (.U .I)) = true := by
  rw [List.all_map, List.all_eq_true]
  exact fun x _ => shp_tI x
theorem shp_tT (l : List (List Int)) : shp (.U (.U .I)) (tT l) = true := shp_tIs l
/-- sorted of tuples of ints -/
theorem sort_tI (l : List (List Int)) : srt (ltS (.U .I)) (l.map tI) = (srt lexI l).map tI := by
  have e : (fun a b : List Int => ltS (.U .I) (tI a) (tI b)) = lexI := by funext a b; exact lt_tI a b
  rw [← e, srt_map (lt := ltS (.U .I)) tI l]
theorem swo_lex : SrtO.Swo lexI := swo_lexI id
theorem full_tI {l : List Int} (h : l ≠ []) : full (tI l) = true := by
  cases l with
  | nil => exact absurd rfl h
  | cons => rfl
theorem o_sortI {own : Own} (l : List Int) : mSortI own (.d (lI l)) = some (lI (isort l)) := by
  show ((some (l.map D.int)).bind fun ds => (intsD ds).map fun is => D.lst ((isort is).map D.int)) = _
  rw [Option.bind_some, intsD_of]
  rfl
theorem o_sortUI {own : Own} {l : List (List Int)} (h : ∀ x ∈ l, x ≠ []) : mSortT (.U .I) own (.d (.lst (l.map tI))) = some (.lst ((srt lexI l).map tI)) := by
  show ((some (l.map tI)).bind fun ds => if (ds.all (shp (.U .I)) && ds.all full) = true then some (D.lst (srt (ltS (.U .I)) ds)) else none) = _
  have h2 : (l.map tI).all full = true := by
    rw [List.all_map, List.all_eq_true]
    exact fun x hx => full_tI (h x hx)
  rw [Option.bind_some, shp_tIs, h2, sort_tI]
  rfl
end Gx
end T_GxM1
section T_GxD8
set_option Elab.async false
set_option linter.all false
set_option maxRecDepth 100000
set_option maxHeartbeats 4000000
namespace Gx
open PySem PySem.Spec PyProof.Rows L2

/-! ## a dict of lists of one's own: d.setdefault(k, []).append(v) -/
def getKS (k : Key) : List D → List SV → Option SV
  | x :: ks, s :: ss => if keyOf x = some k then some s else getKS k ks ss
  | _, _ => none
theorem getKS_rel {T : Tb} {g : Gh} {n : Nat} {k : Key} : ∀ {kvs : List (Key × V)} {ss : List SV}, RSs T g n ss (kvs.map (·.2)) →
    (∀ s, getKS k (kvs.map fun p => keyD p.1) ss = some s → ∃ v, valV kvs k = some v ∧ RS T g n s v) ∧ (getKS k (kvs.map fun p => keyD p.1) ss = none → valV kvs k = none) := by
  intro kvs
  induction kvs with
  | nil => intro ss r; cases r; exact ⟨fun d h => (nomatch h), fun _ => rfl⟩
  | cons p r ih =>
    intro ss rr
    cases rr with
    | @cons s v ss vs h t =>
      obtain ⟨i1, i2⟩ := ih t
      have hd : getKS k (List.map (fun p => keyD p.1) (p :: r)) (s :: ss) = if p.1 = k then some s else getKS k (r.map fun p => keyD p.1) ss := by
        show (if keyOf (keyD p.1) = some k then some s else _) = _
        rw [keyOf_keyD]
        by_cases e : p.1 = k
        · rw [if_pos (by rw [e]), if_pos e]
        · rw [if_neg (fun z => e (Option.some.inj z)), if_neg e]
      rw [hd]
      by_cases e : p.1 = k
      · rw [if_pos e, valV_pos e]
        exact ⟨fun s' hs => ⟨p.2, rfl, by cases hs; exact h⟩, fun z => nomatch z⟩
      · rw [if_neg e, valV_neg e]
        exact ⟨i1, i2⟩
def dihV (own : Own) (k : Nat) : Option (List D × List SV) := match own[k]? with
  | some (.dih ks ss) => some (ks, ss)
  | some (.dic [] []) => some ([], [])
  | _ => none
theorem dih_of {T : Tb} {B : Hp} {g : Gh} {own : Own} {H : Hp} (R : HRel T B g own H) {k : Nat} {ks : List D} {ss : List SV} (h : dihV own k = some (ks, ss)) :
    ∃ kvs : List (Key × V), H (g.ρ k) = some (.dK kvs) ∧ ks = kvs.map (fun p => keyD p.1) ∧ RSs T g own.length ss (kvs.map (·.2)) ∧ ∃ o, own[k]? = some o ∧ o.live = true := by
  unfold dihV at h
  cases eo : own[k]? with
  | none => rw [eo] at h; cases h
  | some o =>
    rw [eo] at h
    cases o with
    | dih k1 s1 =>
      cases h
      obtain ⟨kvs, h1, h2, h3⟩ := R.o k _ eo
      exact ⟨kvs, h1, h2, h3, _, rfl, rfl⟩
    | dic k1 s1 =>
      cases k1 with
      | cons => cases h
      | nil =>
        cases s1 with
        | cons => cases h
        | nil =>
          cases h
          obtain ⟨kvs, h1, h2, h3⟩ := R.o k _ eo
          cases kvs with
          | cons => cases h2
          | nil => exact ⟨[], h1, rfl, .nil, _, rfl, rfl⟩
    | _ => cases h
def dihS (own : Own) : SV → Option (List D × List SV)
  | .h k => dihV own k
  | _ => none
def setdV (own : Own) (k : Nat) (c : D) (z : SV) : Option (SV × Own) := (dihV own k).bind fun p => (keyOf c).bind fun kk => if p.1.length < sizeLine then (match getKS kk p.1 p.2 with
  | some s => some (s, own)
  | none => some (z, own.set k (.dih (p.1 ++ [keyD kk]) (p.2 ++ [z])))) else none
def eSetd (fo fk fz : EM) : EM := fo.bind fun x => (M.ask fun own => dihS own x).bind fun _ => fk.bind fun y => fz.bind fun z => fun _ own => match x, y with
  | .h k, .d c => (setdV own k c z).map fun p => (.ok p.1, p.2)
  | _, _ => none
section
variable {X : Cx} {Y : Cy} {apos cpos pos : Pos} {o e a : Expr} {fo fk fz f : EM}
theorem r_setd (ho : PE X o (trE Y fo)) (hk : PE X e (trE Y fk)) (hz : PE X a (trE Y fz)) (m : M2 X o "setdefault" apos e a cpos := by exact ⟨rfl, rfl, rfl, rfl⟩) :
    PE X (.Call (.Attribute o "setdefault" apos) [e, a] [] cpos) (trE Y (eSetd fo fk fz)) := by
  refine PE.imp (pe_dsetd ho hk hz m) fun σ H Q q => ?_
  obtain ⟨gh, sd, own, R, S, q⟩ := q
  refine at_bind R S q fun g1 o1 x v H1 R1 S1 e1 rx q1 => ?_
  obtain ⟨p0, ep, q1⟩ := ask_at q1
  cases x with
  | d x => cases ep
  | h k =>
    obtain ⟨ks0, ss0⟩ := p0
    obtain ⟨kvs0, h0, _⟩ := dih_of R1 ep
    have hv := rx.2
    subst hv
    refine ⟨_, rfl, .inl ⟨kvs0, .inl h0⟩, ?_⟩
    refine at_bind R1 S1 q1 fun g2 o2 y w H2 R2 S2 e2 ry q2 => ?_
    refine at_bind R2 S2 q2 fun g3 o3 z u H3 R3 S3 e3 rz q3 => ?_
    obtain ⟨r, own', e4, kq⟩ := q3
    cases y with
    | h j => cases e4
    | d c =>
      obtain ⟨p, e5, e6⟩ := Option.map_eq_some_iff.mp e4
      cases e6
      obtain ⟨⟨ks, ss⟩, d1, d2⟩ := Option.bind_eq_some_iff.mp e5
      obtain ⟨kk, d3, d4⟩ := Option.bind_eq_some_iff.mp d2
      have ek : g3.ρ k = g1.ρ k := by rw [e3.ρ k (Nat.lt_of_lt_of_le rx.1 e2.le), e2.ρ k rx.1]
      have ew := keyOf_rel d3 (show Rep Y.T g2.F c w from ry)
      obtain ⟨kvs, h1, h2, h3, ob, eo, hl⟩ := dih_of R3 d1
      simp only at d4
      by_cases cz : ks.length < sizeLine
      case neg => rw [if_neg cz] at d4; cases d4
      rw [if_pos cz] at d4
      subst h2
      obtain ⟨i1, i2⟩ := getKS_rel (k := kk) h3
      rw [ek] at h1
      refine ⟨kvs, kk, h1, ew, by rw [List.length_map] at cz; exact cz, fun v' hv' => ?_, fun hn => ?_⟩
      · cases eg : getKS kk (kvs.map fun p => keyD p.1) ss with
        | none => rw [i2 eg] at hv'; cases hv'
        | some s =>
          simp only [eg] at d4
          cases d4
          obtain ⟨v2, hv2, rv2⟩ := i1 s eg
          rw [hv'] at hv2
          cases hv2
          exact kq g3 _ H3 R3 .rfl' rv2
      · cases eg : getKS kk (kvs.map fun p => keyD p.1) ss with
        | some s =>
          obtain ⟨v2, hv2, _⟩ := i1 s eg
          rw [hn] at hv2
          cases hv2
        | none =>
          simp only [eg] at d4
          cases d4
          have hput : putK kvs kk u = kvs ++ [(kk, u)] := by
            unfold putK
            rw [valV_any, hn]
            rfl
          have R4 := R3.put (ho := .dK (putK kvs kk u)) (o' := .dih ((kvs.map fun p => keyD p.1) ++ [keyD kk]) (ss ++ [z])) eo hl ⟨_, upd_same, by rw [hput]; simp, by rw [hput, List.map_append]; exact h3.snoc rz⟩
          rw [ek] at R4
          exact kq g3 u _ R4 (by rw [List.length_set]; exact .rfl') (by rw [List.length_set]; exact rz)
end
/-- all lists of a dict of lists are frozen -/
def frzAll : List SV → Own → Option (List D × Own)
  | [], own => some ([], own)
  | .d x :: r, own => (frzAll r own).map fun p => (x :: p.1, p.2)
  | .h j :: r, own => match own[j]? with
    | some (.lst xs) => (frzAll r (own.set j .dead)).map fun p => (.lst xs :: p.1, p.2)
    | _ => none
theorem frzAll_rel {T : Tb} {B : Hp} {H : Hp} : ∀ (ss : List SV) (ws : List V) (g : Gh) (own : Own) (ds : List D) (own2 : Own), HRel T B g own H → RSs T g own.length ss ws → frzAll ss own = some (ds, own2) →
    ∃ g2, HRel T B g2 own2 H ∧ GExt B g own.length g2 own2.length ∧ Reps T g2.F ds ws ∧ own2.length = own.length ∧ g2.ρ = g.ρ ∧ ∀ (k : Nat) (o : O), own[k]? = some o → (∀ xs, o ≠ .lst xs) → own2[k]? = some o := by
  intro ss
  induction ss with
  | nil =>
    intro ws g own ds own2 R r e
    cases r
    cases e
    exact ⟨g, R, .rfl', .nil, rfl, rfl, fun k o h _ => h⟩
  | cons s r ih =>
    intro ws g own ds own2 R rs e
    cases rs with
    | @cons _ v _ vs h t =>
      cases s with
      | d x =>
        obtain ⟨⟨es, o3⟩, e1, e2⟩ := Option.map_eq_some_iff.mp e
        cases e2
        obtain ⟨g2, R2, x2, r2, l2, p2, k2⟩ := ih vs g own es o3 R t e1
        exact ⟨g2, R2, x2, .cons (Rep.le x2.F h) r2, l2, p2, k2⟩
      | h j =>
        unfold frzAll at e
        cases eo : own[j]? with
        | none => simp only [eo] at e; cases e
        | some ob =>
          cases ob with
          | lst xs =>
            simp only [eo] at e
            obtain ⟨⟨es, o3⟩, e1, e2⟩ := Option.map_eq_some_iff.mp e
            cases e2
            obtain ⟨vs1, h1, h2⟩ := R.o j _ eo
            obtain ⟨R1, x1⟩ := R.freeze eo rfl h1
            have hl : (own.set j .dead).length = own.length := by simp
            have t1 : RSs T ⟨L2.upd g.F (g.ρ j) (.lst vs1), g.ρ⟩ (own.set j .dead).length r vs := t.ext x1
            obtain ⟨g2, R2, x2, r2, l2, p2, k2⟩ := ih vs _ _ es o3 R1 t1 e1
            have hv := h.2
            subst hv
            refine ⟨g2, R2, x1.trans x2, .cons (Rep.le x2.F (.lst upd_same (h2.le x1.F))) r2, by rw [l2, hl], p2, fun k o ho hne => k2 k o ?_ hne⟩
            by_cases c : j = k
            · subst c
              rw [eo] at ho
              cases ho
              exact absurd rfl (hne xs)
            · rw [List.getElem?_set_ne c]; exact ho
          | _ => simp only [eo] at e; cases e
/-- a ghost's step: the dict of lists in slot i is frozen, locked for good -/
def sFrzD (i : Nat) (p : SM) : SM := fun sd own => match sd[i]? with
  | some (some (.h k)) => match own[k]? with
    | some (.dih ks ss) => (frzAll ss own).bind fun q => p (sd.set i (some (.d (.dic (.ty 5 :: ks) q.1)))) (q.2.set k .dead)
    | some (.dic ks xs) => p (sd.set i (some (.d (.dic (.ty 5 :: ks) xs)))) (own.set k .dead)
    | _ => none
  | _ => none
section
variable {X : Cx} {Y : Cy} {l : List Stmt} {p : SM}
theorem rss_frzD (i : Nat) (h : PSs X l (trS Y p)) : PSs X l (trS Y (sFrzD i p)) := PSs.imp (pss_froz h) fun D σ H q => by
  obtain ⟨gh, sd, own, R, S, r, e, k⟩ := q
  unfold sFrzD at e
  cases e0 : sd[i]? with
  | none => rw [e0] at e; cases e
  | some o =>
    rw [e0] at e
    cases o with
    | none => cases e
    | some s =>
      cases s with
      | d x => cases e
      | h kk =>
        obtain ⟨v, ev, rv⟩ := S.2 i _ e0
        have hv := rv.2
        subst hv
        cases eo : own[kk]? with
        | none => simp only [eo] at e; cases e
        | some ob =>
          cases ob with
          | dih ks ss =>
            simp only [eo] at e
            obtain ⟨⟨ds, own2⟩, ef, e⟩ := Option.bind_eq_some_iff.mp e
            obtain ⟨kvs0, h1, h2, h3⟩ := R.o kk _ eo
            obtain ⟨g2, R2, x2, r2, l2, p2, k2⟩ := frzAll_rel ss _ gh own ds own2 R h3 ef
            have eo2 := k2 kk _ eo (fun xs z => nomatch z)
            have hk : g2.ρ kk = gh.ρ kk := by rw [p2]
            refine .inr ⟨gh.ρ kk, .dK kvs0, h1, trivial, fun od => ?_⟩
            obtain ⟨R3, e3⟩ := R2.freezeL eo2 rfl (.frz od (.dK kvs0))
            rw [hk] at R3 e3
            have S2 := ((S.ext x2).ext e3).set (i := i) (sv := .d (.dic (.ty 5 :: ks) ds)) (v := .ref (gh.ρ kk)) (Rep.ldic upd_same h2 (r2.le e3.F))
            rw [set_same ev] at S2
            exact ⟨_, _, _, R3, S2, r, e, k.shift (x2.trans e3)⟩
          | dic ks xs =>
            simp only [eo] at e
            obtain ⟨kvs, h1, h2, h3⟩ := R.o kk _ eo
            refine .inr ⟨gh.ρ kk, .dK kvs, h1, trivial, fun od => ?_⟩
            obtain ⟨R2, e2⟩ := R.freezeL eo rfl (.frz od (.dK kvs))
            have S2 := (S.ext e2).set (i := i) (sv := .d (.dic (.ty 5 :: ks) xs)) (v := .ref (gh.ρ kk)) (Rep.ldic upd_same h2 (h3.le e2.F))
            rw [set_same ev] at S2
            exact ⟨_, _, _, R2, S2, r, e, k.shift e2⟩
          | _ => simp only [eo] at e; cases e
end

/-! ## the walk of a locked dict -/
def iVal (f : EM) : IM := f.bind fun x => match x with
  | .d (.dic (.ty 5 :: _) xs) => M.ret xs
  | _ => M.fail
def pairD : List D → List D → List D
  | k :: ks, x :: xs => .tup [k, x] :: pairD ks xs
  | _, _ => []
def iItm (f : EM) : IM := f.bind fun x => match x with
  | .d (.dic (.ty 5 :: ks) xs) => M.ret (pairD ks xs)
  | _ => M.fail
section
variable {X : Cx} {Y : Cy} {apos cpos tpos : Pos} {tg e : Expr} {f : EM} {elts : List Expr} {kk : Nat}
theorem ldic_of {T : Tb} {F : Hp} {ks xs : List D} {v : V} (r : Rep T F (.dic (.ty 5 :: ks) xs) v) : ∃ (a : Addr) (od : Obj) (kvs : List (Key × V)), v = .ref a ∧ F a = some (.frz od (.dK kvs)) ∧ ks = kvs.map (fun p => keyD p.1) ∧ Reps T F xs (kvs.map (·.2)) := by
  cases r with
  | @dic a kvs _ _ h1 h2 h3 =>
    cases kvs with
    | nil => cases h2
    | cons p t =>
      obtain ⟨k, v⟩ := p
      cases k <;> cases h2
  | ldic h1 h2 h3 => exact ⟨_, _, _, rfl, h1, h2, h3⟩
theorem ri_values (h : PE X e (trE Y f)) (hbase : attributeBase e "values" X.env (eval e X.env) = eval e X.env := by rfl) (hline : (apos.endLine == cpos.line) = true := by rfl) : PI X tg (.Call (.Attribute e "values" apos) [] [] cpos) (trI Y (iVal f)) := by
  refine PI.imp (pi_values h hbase hline) fun σ H Q q => ?_
  obtain ⟨gh, sd, own, R, S, q⟩ := q
  refine at_bind R S q fun g1 o1 x v H1 R1 S1 e1 rx q1 => ?_
  match x, rx, q1 with
  | .d (.dic (.ty 5 :: ks) xs), rx, q1 =>
    have rx : Rep Y.T g1.F (.dic (.ty 5 :: ks) xs) v := rx
    have k := at_ret q1
    obtain ⟨a, od, kvs, rfl, h1, h2, h3⟩ := ldic_of rx
    have hl : xs.length = kvs.length := by rw [h3.length, List.length_map]
    refine ⟨a, od, kvs, rfl, R1.f _ _ h1, k g1 _ H1 R1 .rfl' ⟨fun _ i g own H R l hi => ⟨R.f _ _ (l _ _ h1), by omega⟩, fun _ i g own H R l hi => ⟨R.f _ _ (l _ _ h1), by omega⟩, fun _ i g own H x H2 d R l y hd => ?_⟩⟩
    obtain ⟨rfl, kx, hx⟩ := y
    obtain ⟨w, hw, rw'⟩ := h3.get hd
    rw [List.getElem?_map, hx] at hw
    cases hw
    exact ⟨g, R, .rfl', Rep.le l rw'⟩
theorem pairD_get : ∀ {ks xs : List D} {i : Nat} {d : D}, (pairD ks xs)[i]? = some d → ∃ k x, ks[i]? = some k ∧ xs[i]? = some x ∧ d = .tup [k, x]
  | [], _, _, _, h => by simp [pairD] at h
  | _ :: _, [], _, _, h => by simp [pairD] at h
  | k :: ks, x :: xs, 0, d, h => by simp [pairD] at h; exact ⟨k, x, rfl, rfl, h.symm⟩
  | k :: ks, x :: xs, i + 1, d, h => by
    have h : (pairD ks xs)[i]? = some d := by simpa [pairD] using h
    obtain ⟨k', x', h1, h2, h3⟩ := pairD_get h
    exact ⟨k', x', by simpa using h1, by simpa using h2, h3⟩
theorem pairD_len : ∀ {ks xs : List D}, ks.length = xs.length → (pairD ks xs).length = xs.length
  | [], [], _ => rfl
  | _ :: ks, _ :: xs, h => by simp [pairD, pairD_len (ks := ks) (xs := xs) (by simpa using h)]
theorem rep_key {T : Tb} {F : Hp} (k : Key) : Rep T F (keyD k) (kV k) := by
  cases k with
  | inl i => exact .int i
  | inr x => exact .str x
theorem ri_items (h : PE X e (trE Y f)) (hbase : attributeBase e "items" X.env (eval e X.env) = eval e X.env := by rfl) (hline : (apos.endLine == cpos.line) = true := by rfl) : PI X (.Tuple elts kk tpos) (.Call (.Attribute e "items" apos) [] [] cpos) (trI Y (iItm f)) := by
  refine PI.imp (pi_items h hbase hline) fun σ H Q q => ?_
  obtain ⟨gh, sd, own, R, S, q⟩ := q
  refine at_bind R S q fun g1 o1 x v H1 R1 S1 e1 rx q1 => ?_
  match x, rx, q1 with
  | .d (.dic (.ty 5 :: ks) xs), rx, q1 =>
    have rx : Rep Y.T g1.F (.dic (.ty 5 :: ks) xs) v := rx
    have k := at_ret q1
    obtain ⟨a, od, kvs, rfl, h1, h2, h3⟩ := ldic_of rx
    have hl : xs.length = kvs.length := by rw [h3.length, List.length_map]
    have hp : (pairD ks xs).length = xs.length := pairD_len (by rw [h2, List.length_map, hl])
    refine ⟨a, od, kvs, rfl, R1.f _ _ h1, k g1 _ H1 R1 .rfl' ⟨fun _ i g own H R l hi => ⟨R.f _ _ (l _ _ h1), by omega⟩, fun _ i g own H R l hi => ⟨R.f _ _ (l _ _ h1), by omega⟩, fun _ i g own H x H2 d R l y hd => ?_⟩⟩
    obtain ⟨T, kx, vx, hx, rfl, hT, rfl⟩ := y
    obtain ⟨kd, xd, hk, hxd, rfl⟩ := pairD_get hd
    obtain ⟨w, hw, rw'⟩ := h3.get hxd
    rw [List.getElem?_map, hx] at hw
    cases hw
    rw [h2, List.getElem?_map, hx] at hk
    cases hk
    obtain ⟨R2, e2⟩ := R.new hT (.tup [kV kx, vx])
    exact ⟨_, R2, e2, .tup (SqT.of upd_same) (.cons (rep_key kx) (.cons (Rep.le e2.F (Rep.le l rw')) .nil))⟩
end
end Gx
end T_GxD8
section T_GxD9
set_option Elab.async false
set_option linter.all false
set_option maxRecDepth 100000
set_option maxHeartbeats 4000000
namespace Gx
open PySem PySem.Spec PyProof.Rows L2
open PySem.W (iter_listW moved_old argBest_fold)

/-! ## min of a list of tuples -/
def minS (s : Sh) (d : D) (ds : List D) : D := ds.foldl (fun a y => if ltS s y a = true then y else a) d
def rMinT (T : Tb) (s : Sh) : List V → Hp → VK → Prop := fun vs H Q => ∃ (a : Addr) (xs : List V) (d : D) (ds : List D) (F : Hp), vs = [V.ref a] ∧ SqL T.K H a xs ∧ Le F H ∧ Reps T F (d :: ds) xs ∧ (d :: ds).all (shp s) = true ∧
  ∀ v, Rep T F (minS s d ds) v → Q v H
theorem tvs_get {h : Heap} {s : Sh} : ∀ {us : List Value} {ds : List D} {i : Nat} {u : Value}, TVs h s us ds → us[i]? = some u → ∃ d, ds[i]? = some d ∧ TV h s u d
  | _, _, _, _, .nil, e => by simp at e
  | _, _, 0, _, .cons a r, e => by simp at e; subst e; exact ⟨_, rfl, a⟩
  | _, _, i + 1, _, .cons a r, e => by
    obtain ⟨d, h1, h2⟩ := tvs_get (i := i) r (by simpa using e)
    exact ⟨d, by simpa using h1, h2⟩
theorem tvs_len {h : Heap} {s : Sh} : ∀ {us : List Value} {ds : List D}, TVs h s us ds → us.length = ds.length
  | _, _, .nil => rfl
  | _, _, .cons _ r => by rw [List.length_cons, List.length_cons, tvs_len r]
theorem vals_getR : ∀ {vs : List V} {us : List Value} {i : Nat} {u : Value}, Vals vs us → us[i]? = some u → ∃ v, vs[i]? = some v ∧ RelV v u
  | _, _, _, _, .nil, e => by simp at e
  | _, _, 0, _, .cons a r, e => by simp at e; subst e; exact ⟨_, rfl, a⟩
  | _, _, i + 1, _, .cons a r, e => by
    obtain ⟨d, h1, h2⟩ := vals_getR (i := i) r (by simpa using e)
    exact ⟨d, by simpa using h1, h2⟩
section
variable {X : Cx} {T : Tb}
theorem cr_minT {s : Sh} (hc : X.calm = true) (hK : X.K = T.K) (hu : X.A.units + s.dep + 8 < cLine) : CallR X (.builtin "min") (rMinT T s) := by
  intro pins st σ H vs us Q I r h
  obtain ⟨a, xs, d, ds, F, rfl, hs, le, rs, h1, q⟩ := h
  obtain ⟨its, rv, hl, hz⟩ := I.list (by rw [hK]; exact hs)
  obtain ⟨u, rfl, ru⟩ := vals1 r
  obtain rfl : u = Value.ref a := ru
  have tv : TVs st.heap s its (d :: ds) := tvs_of (fun a b c => tv_of I le hK s a b c) rs rv h1
  have hn : its.length = ds.length + 1 := tvs_len tv
  have hn2 : its.toArray.size = ds.length + 1 := by simpa using hn
  refine call_min_walkH (iter_listW (A := X.A.in1) (I.ok.hd hc) hl.isList fun s₂ e W st' hfp hw hk => ?_)
  refine ⟨_, _, _, _, _, _, _, st.heap, (fun i j => ltS s ((d :: ds).getD i .non) ((d :: ds).getD j .non)), rfl, W, st', hfp, by omega, hw, hk, ?_, fun v s' hP m => ?_⟩
  · intro i j vi vj s3 Q' E kp hi hj hq
    obtain ⟨di, g1, t1⟩ := tvs_get tv (show its[i]? = some vi by simpa using hi)
    obtain ⟨dj, g2, t2⟩ := tvs_get tv (show its[j]? = some vj by simpa using hj)
    have e1 : (d :: ds).getD i .non = di := by rw [List.getD_eq_getElem?_getD, g1]; rfl
    have e2 : (d :: ds).getD j .non = dj := by rw [List.getD_eq_getElem?_getD, g2]; rfl
    simp only [e1, e2] at hq
    exact TV.lt s (t1.keeps fun b o e _ => kp b o e) (t2.keeps fun b o e _ => kp b o e) (by show X.A.units + 1 + s.dep < cLine; omega) X.prog X.w _ _ hq
  · obtain ⟨h', tk, rfl, hk'⟩ := moved_old e rfl m
    have hP : its.toArray[argBest (fun i j => ltS s ((d :: ds).getD i .non) ((d :: ds).getD j .non)) (its.toArray.size - 1)]? = some v := hP
    rw [hn2] at hP
    have e1 : ds.length + 1 - 1 = ds.length := by omega
    rw [e1] at hP
    have e2 := (argBest_fold (ltS s) D.non d ds ds.length (Nat.le_refl _)).2
    rw [List.take_length] at e2
    generalize argBest (fun i j => ltS s ((d :: ds).getD i .non) ((d :: ds).getD j .non)) ds.length = k at hP e2
    have hP : its[k]? = some v := by simpa using hP
    obtain ⟨vx, g1, rx⟩ := vals_getR rv hP
    obtain ⟨dk, g2, rd⟩ := rs.getV g1
    have e3 : dk = minS s d ds := by
      have : (d :: ds).getD k .non = dk := by rw [List.getD_eq_getElem?_getD, g2]; rfl
      rw [← this, e2]
      rfl
    subst e3
    exact ⟨vx, H, I.kept hk', rx, q vx rd⟩
theorem call_minT {s : Sh} (hu : X.A.units + 80 < cLine) (hc : X.calm = true := by rfl) (hd : s.dep ≤ 60 := by decide) (hK : X.K = T.K := by rfl) : CallR X (.builtin "min") (rMinT T s) := cr_minT hc hK (by omega)
end
def mMinT (s : Sh) : Own → SV → Option D := fun own x => (lstV own x).bind fun ds => match ds with
  | [] => none
  | d :: r => if (d :: r).all (shp s) = true then some (minS s d r) else none
theorem ob_minT {Y : Cy} {s : Sh} : OB Y (rMinT Y.T s) (m1 (mMinT s)) := by
  refine ob_1 (r := fun v H Q => rMinT Y.T s [v] H Q) (fun gh own H x v z Q R rx h k => ?_) fun _ _ _ h => h
  obtain ⟨ds, e1, h⟩ := Option.bind_eq_some_iff.mp h
  cases ds with
  | nil => cases h
  | cons d r =>
    have h : (if (d :: r).all (shp s) = true then some (minS s d r) else none) = some z := h
    by_cases c : (d :: r).all (shp s) = true
    · rw [if_pos c] at h
      cases h
      obtain ⟨a, vs, rfl, h1, h2⟩ := lst_of R rx e1
      exact ⟨a, vs, d, r, gh.F, rfl, SqL.of h1, R.f, h2, c, fun v hv => k gh v H R .rfl' hv⟩
    · rw [if_neg c] at h; cases h
end Gx
end T_GxD9
section T_GxW1
set_option Elab.async false
set_option linter.all false
set_option maxRecDepth 100000
set_option maxHeartbeats 4000000
namespace Gx
open PySem PySem.Spec PyProof.Rows L2

/-! ## calls that take all objects of ours with them -/
def callW (n : Nat) (Ff : FM) (xs : List SV) : EM := fun _ own => if xs.length = n then Ff xs own else none
def eCallW (n : Nat) (Ff : FM) (a : AM) : EM := a.bind fun xs => callW n Ff xs
theorem call_W {T : Tb} {B : Hp} {Ek : L2.St → XK} {Ff : FM} {n : Nat} {g1 : Gh} {sd : Sl} {own : Own} {σ : L2.St} {H : Hp} {Q : VK} {xs : List SV} {vs : List V} (R : HRel T B g1 own H) (rs : RSs T g1 own.length xs vs)
    (q : At ⟨T, B, Ek⟩ (RS T) g1 sd own σ Q (callW n Ff xs)) : spF T n Ff vs H Q (Ek σ) := by
  obtain ⟨r, own', e, k⟩ := q
  unfold callW at e
  by_cases hl : xs.length = n
  · rw [if_pos hl] at e
    refine ⟨B, g1, own, xs, R, rs, hl, r, own', e, ?_⟩
    cases r with
    | ok s => exact k
    | ex c fs => exact k
  · rw [if_neg hl] at e; cases e
section
variable {X : Cx} {Y : Cy} {k j n : Nat} {x : Str} {Ff : FM} {p pos : Pos} {a : Expr} {es : List Expr} {al : AM}
theorem r_callW (c : Cal X.prog X.w X.K X.mg X.base Y.T k x n Ff) (hr : Room j X.A) (hk : k ≤ j) (cx : CxOk X Y) (ha : PA X (a :: es) (trA Y al)) (hg : Gl X x := by rfl) (hdb : (x == ("__debug__" : Str)) = false := by decide)
    (he : starEach (a :: es) X.env = (false, eval a X.env) :: starEach es X.env := by rfl) (hpl : (backTo pos (starEach es X.env)).any (·.1) = false := by rfl) : PE X (.Call (.Name x p) (a :: es) [] pos) (trE Y (eCallW n Ff al)) := by
  obtain ⟨f, fd, ps, hm, hkp, hb, F⟩ := c.ex
  refine PE.imp (pe_callSD (E := Y.Ek) F (hr.mono hk) hg hm hkp hb .nil cx.pass ha hdb he hpl) fun σ H Q q => ?_
  obtain ⟨gh, sd, own, R, S, q⟩ := q
  refine at_bind R S q fun g1 o1 xs vs H1 R1 S1 e1 rs q1 => ?_
  rw [List.append_nil]
  exact call_W R1 rs q1
end

/-! ### an instance of ours -/
def insV (c : Nat) (own : Own) : SV → Option Unit
  | .h k => match own[k]? with
    | some (.ins c' _) => if c' = c then some () else none
    | _ => none
  | _ => none
theorem ins_of {T : Tb} {B : Hp} {g : Gh} {own : Own} {H : Hp} {c : Nat} {s : SV} {v : V} (R : HRel T B g own H) (r : RS T g own.length s v) (h : insV c own s = some ()) : ∃ a dx ws, v = .ref a ∧ H a = some (.ins (T.ct c) dx ((flds c).zip ws)) := by
  cases s with
  | d x => cases h
  | h k =>
    have h : (match own[k]? with | some (.ins c' _) => if c' = c then some () else none | _ => none) = some () := h
    cases eo : own[k]? with
    | none => rw [eo] at h; cases h
    | some o =>
      rw [eo] at h
      cases o with
      | ins c' svs =>
        by_cases hc : c' = c
        · subst hc
          obtain ⟨dx, ws, h1, _⟩ := R.o k _ eo
          exact ⟨_, dx, ws, r.2, h1⟩
        · simp only [if_neg hc] at h; cases h
      | _ => cases h
/-- o.m(..), o an instance of ours -/
def eMethW (c n : Nat) (Ff : FM) (fo : EM) (a : AM) : EM := fo.bind fun x => (M.ask fun own => insV c own x).bind fun _ => a.bind fun ys => callW n Ff (x :: ys)
theorem zip_no {m : Str} : ∀ {ns : List Str} {ws : List V}, m ∉ ns → (ns.zip ws).lookup m = none
  | [], _, _ => rfl
  | _ :: _, [], _ => rfl
  | k :: ns, w :: ws, h => by
    have h1 : (m == k) = false := beq_eq_false_iff_ne.mpr fun z => h (by rw [z]; exact List.mem_cons_self)
    rw [List.zip_cons_cons, List.lookup_cons, h1]
    exact zip_no fun z => h (List.mem_cons_of_mem _ z)
structure Mw (P : Program) (w : World) (K : PySem.W.Frag) (mg : Str → Option Value) (base : Heap) (T : Tb) (k c : Nat) (nm : Str) (n : Nat) (Ff : FM) : Prop where
  cl : Cls K (T.ct c)
  ex : ∃ (f : Addr) (fd : FuncData) (ps : List Str), Meth K (T.ct c) nm f ∧ Binds K fd ps [] ∧ FnOk P w K mg base (L2.CX P w) k f fd ps (spF T n Ff)
section
variable {X : Cx} {Y : Cy} {k j n c : Nat} {m : Str} {Ff : FM} {apos pos : Pos} {o a : Expr} {es : List Expr} {fo : EM} {al : AM}
def tMethD (C : Addr) (m : Str) (sp : Sp) (E : L2.St → XK) (to : TE) (t : TA) : TE := fun σ H Q => to σ H fun x H1 => ∃ b dx fs, x = .ref b ∧ H1 b = some (.ins C dx fs) ∧ fs.lookup m = none ∧ t σ H1 fun vs H2 => sp (.ref b :: vs ++ []) H2 Q (E σ)
theorem pe_methD {C f : Addr} {fd : FuncData} {ps : List Str} {sp : Sp} {E : L2.St → XK} {to : TE} {t : TA} {pl : Sem Bool} (ho : PE X o to) (cl : Cls X.K C) (hm : Meth X.K C m f) (F : FnOk X.prog X.w X.K X.mg X.base (L2.CX X.prog X.w) k f fd ps sp) (hr : Room k X.A) (hb : Binds X.K fd ps []) (hx : ∀ σ, PassesAt (L2.CX X.prog X.w) X σ (E σ)) (ha : PA X (a :: es) t)
    (hst : starEach (a :: es) X.env = (false, eval a X.env) :: starEach es X.env) (hpl : (backTo pos (starEach es X.env)).any (·.1) = false)
    (ht : eval (.Call (.Attribute o m apos) (a :: es) [] pos) X.env = (do
      let ov ← eval o X.env
      standAt apos.atName
      let (f, first) ← holding [ov] (getMethod ov m pl)
      callWith pos f first (backTo pos (starEach (a :: es) X.env)) (backToKw pos (keywordEach [] X.env)))) : PE X (.Call (.Attribute o m apos) (a :: es) [] pos) (tMethD C m sp E to t) := by
  constructor
  intro pins s σ H Q I h
  apply PySem.W.methodCall_KW (pl := pl) _ ht
  apply thn (ho.run pins s σ H _ I h)
  rintro u s1 ⟨x, H1, I1, rx, b, dx, fs, rfl, eb, l, q⟩
  have eu : u = Value.ref b := rx
  subst eu
  apply getmeth_ok I1 eb cl hm l
  apply PySem.W.callWith_K (first := [.ref b]) (h₀ := X.base) I.ok.mod.kin hm.kp _ hst hpl
  apply thn (ha.run pos pins s1 σ H1 _ I1 q)
  rintro us s2 ⟨vs, H2, I2, r, q2⟩
  exact And.intro I2.kIn (run_fnSD (us := .ref b :: us) (vs := .ref b :: vs) F hr hb .nil (hx σ) I2 (.cons rfl r) q2)
theorem pe_methD0 {C f : Addr} {fd : FuncData} {ps : List Str} {sp : Sp} {E : L2.St → XK} {to : TE} {pl : Sem Bool} (ho : PE X o to) (cl : Cls X.K C) (hm : Meth X.K C m f) (F : FnOk X.prog X.w X.K X.mg X.base (L2.CX X.prog X.w) k f fd ps sp) (hr : Room k X.A) (hb : Binds X.K fd ps []) (hx : ∀ σ, PassesAt (L2.CX X.prog X.w) X σ (E σ))
    (ht : eval (.Call (.Attribute o m apos) [] [] pos) X.env = (do
      let ov ← eval o X.env
      standAt apos.atName
      let (f, first) ← holding [ov] (getMethod ov m pl)
      callWith pos f first (backTo pos (starEach [] X.env)) (backToKw pos (keywordEach [] X.env)))) : PE X (.Call (.Attribute o m apos) [] [] pos) (tMethD C m sp E to tNil) := by
  constructor
  intro pins s σ H Q I h
  apply PySem.W.methodCall_KW (pl := pl) _ ht
  apply thn (ho.run pins s σ H _ I h)
  rintro u s1 ⟨x, H1, I1, rx, b, dx, fs, rfl, eb, l, q⟩
  have eu : u = Value.ref b := rx
  subst eu
  apply getmeth_ok I1 eb cl hm l
  exact PySem.W.callWith_K0 (first := [.ref b]) I1.kIn hm.kp (run_fnSD (us := [.ref b]) (vs := [.ref b]) F hr hb .nil (hx σ) I1 (.cons rfl .nil) q)
theorem r_methW {pl : Sem Bool} (mw : Mw X.prog X.w X.K X.mg X.base Y.T k c m n Ff) (hr : Room j X.A) (hk : k ≤ j) (cx : CxOk X Y) (ho : PE X o (trE Y fo)) (ha : PA X (a :: es) (trA Y al)) (hno : m ∉ flds c := by decide)
    (hst : starEach (a :: es) X.env = (false, eval a X.env) :: starEach es X.env := by rfl) (hpl : (backTo pos (starEach es X.env)).any (·.1) = false := by rfl)
    (ht : eval (.Call (.Attribute o m apos) (a :: es) [] pos) X.env = (do
      let ov ← eval o X.env
      standAt apos.atName
      let (f, first) ← holding [ov] (getMethod ov m pl)
      callWith pos f first (backTo pos (starEach (a :: es) X.env)) (backToKw pos (keywordEach [] X.env))) := by rfl) : PE X (.Call (.Attribute o m apos) (a :: es) [] pos) (trE Y (eMethW c n Ff fo al)) := by
  obtain ⟨f, fd, ps, hm, hb, F⟩ := mw.ex
  refine PE.imp (pe_methD (E := Y.Ek) ho mw.cl hm F (hr.mono hk) hb cx.pass ha hst hpl ht) fun σ H Q q => ?_
  obtain ⟨gh, sd, own, R, S, q⟩ := q
  refine at_bind R S q fun g1 o1 x v H1 R1 S1 e1 rx q1 => ?_
  obtain ⟨_, ei, q1⟩ := ask_at q1
  obtain ⟨b, dx, ws, rfl, hb'⟩ := ins_of R1 rx ei
  refine ⟨b, dx, _, rfl, hb', zip_no hno, ?_⟩
  refine at_bind R1 S1 q1 fun g2 o2 ys us H2 R2 S2 e2 rs q2 => ?_
  rw [List.append_nil]
  exact call_W R2 (.cons (rx.ext e2) rs) q2
theorem r_methW0 {pl : Sem Bool} (mw : Mw X.prog X.w X.K X.mg X.base Y.T k c m n Ff) (hr : Room j X.A) (hk : k ≤ j) (cx : CxOk X Y) (ho : PE X o (trE Y fo)) (hno : m ∉ flds c := by decide)
    (ht : eval (.Call (.Attribute o m apos) [] [] pos) X.env = (do
      let ov ← eval o X.env
      standAt apos.atName
      let (f, first) ← holding [ov] (getMethod ov m pl)
      callWith pos f first (backTo pos (starEach [] X.env)) (backToKw pos (keywordEach [] X.env))) := by rfl) : PE X (.Call (.Attribute o m apos) [] [] pos) (trE Y (eMethW c n Ff fo aNil)) := by
  obtain ⟨f, fd, ps, hm, hb, F⟩ := mw.ex
  refine PE.imp (pe_methD0 (E := Y.Ek) ho mw.cl hm F (hr.mono hk) hb cx.pass ht) fun σ H Q q => ?_
  obtain ⟨gh, sd, own, R, S, q⟩ := q
  refine at_bind R S q fun g1 o1 x v H1 R1 S1 e1 rx q1 => ?_
  obtain ⟨_, ei, q1⟩ := ask_at q1
  obtain ⟨b, dx, ws, rfl, hb'⟩ := ins_of R1 rx ei
  refine ⟨b, dx, _, rfl, hb', zip_no hno, ?_⟩
  show spF _ _ _ _ _ _ _
  exact call_W (xs := [x]) R1 (.cons rx .nil) q1
/-! ### a property of an instance of ours -/
def propW (Ff : FM) (x : SV) : EM := fun _ own => match Ff [x] own with
  | some (.ok s, own') => some (.ok s, own')
  | _ => none
def ePropW (c : Nat) (Ff : FM) (f : EM) : EM := f.bind fun x => (M.ask fun own => insV c own x).bind fun _ => propW Ff x
theorem r_propW {nm : Str} {e : Expr} {f : EM} (pr : Prp X.prog X.w X.K X.mg X.base Y.T k c nm Ff) (hr : Room j X.A) (hj : k + 1 ≤ j) (he : PE X e (trE Y f)) (hab : attributeBase e nm X.env (eval e X.env) = eval e X.env := by rfl) : PE X (.Attribute e nm pos) (trE Y (ePropW c Ff f)) := by
  obtain ⟨p, fa, fd, ps, hp, hb, F⟩ := pr.ex
  refine PE.imp (pe_prop (E := fun _ _ _ => False) he pr.cl hp F (hr.mono hj) hb .nil passL hab) fun σ H Q q => ?_
  obtain ⟨gh, sd, own, R, S, q⟩ := q
  refine at_bind R S q fun g1 o1 x v H1 R1 S1 e1 rx q1 => ?_
  obtain ⟨_, ei, q1⟩ := ask_at q1
  obtain ⟨b, dx, ws, rfl, hb'⟩ := ins_of R1 rx ei
  obtain ⟨r, own', e2, kq⟩ := q1
  unfold propW at e2
  cases ef : Ff [x] o1 with
  | none => simp only [ef] at e2; cases e2
  | some pr2 =>
    obtain ⟨rf, of⟩ := pr2
    cases rf with
    | ok s =>
      simp only [ef] at e2
      cases e2
      exact ⟨b, dx, _, rfl, hb', Y.B, g1, o1, [x], R1, .cons rx .nil, rfl, _, _, ef, kq⟩
    | ex c2 fs => simp only [ef] at e2; cases e2
end
/-! ### a new instance among ours -/
def makeW (c n : Nat) (Ff : FM) (xs : List SV) : EM := fun _ own => if xs.length = n then (match Ff (.h own.length :: xs) (own ++ [.ins c []]) with
  | some (.ok (.d .non), own') => some (.ok (.h own.length), own')
  | some (.ex k fs, own') => some (.ex k fs, own')
  | _ => none) else none
def eMakeW (c n : Nat) (Ff : FM) (a : AM) : EM := a.bind fun xs => makeW c n Ff xs
/-- what is none of ours -/
theorem HRel.junk {T : Tb} {B : Hp} {g : Gh} {own : Own} {H : Hp} (R : HRel T B g own H) {p : Addr} (h : H p = none) (ho : HO) : HRel T B g own (L2.upd H p ho) :=
  ⟨R.b.trans (Le.upd h), R.f.trans (Le.upd h), fun k o hk => (R.o k o hk).heap fun hl => upd_ne (R.neOwn h hk hl), R.nb, R.inj⟩
section
variable {X : Cx} {Y : Cy} {k j n c : Nat} {x : Str} {Ff : FM} {p pos : Pos} {a : Expr} {es : List Expr} {al : AM}
theorem r_makeW (m : Ma X.prog X.w X.K X.mg X.base Y.T k x c n Ff) (hr : Room j X.A) (hk : k + 1 ≤ j) (cx : CxOk X Y) (ha : PA X (a :: es) (trA Y al)) (hg : Gl X x := by rfl) (hdb : (x == ("__debug__" : Str)) = false := by decide)
    (he : starEach (a :: es) X.env = (false, eval a X.env) :: starEach es X.env := by rfl) (hpl : (backTo pos (starEach es X.env)).any (·.1) = false := by rfl) : PE X (.Call (.Name x p) (a :: es) [] pos) (trE Y (eMakeW c n Ff al)) := by
  obtain ⟨f, fd, ps, hm, hM, hb, F⟩ := m.ex
  refine PE.imp (pe_makeS (E := Y.Ek) hM F (hr.mono hk) hg hm hb cx.pass ha hdb he hpl) fun σ H Q q => ?_
  obtain ⟨gh, sd, own, R, S, q⟩ := q
  refine at_bind R S q fun g1 o1 xs vs H1 R1 S1 e1 rs q1 => ?_
  obtain ⟨r, own2, e, kq⟩ := q1
  intro x dx hx hd hne
  unfold makeW at e
  by_cases hl : xs.length = n
  case neg => rw [if_neg hl] at e; cases e
  rw [if_pos hl] at e
  have Rj := R1.junk hd (.own x)
  have hx2 : (L2.upd H1 dx (.own x)) x = none := by rw [upd_ne (fun z => hne z.symm)]; exact hx
  obtain ⟨R2, e2⟩ := Rj.made (p := x) hx2 (ho := .ins (Y.T.ct c) dx []) (o := .ins c []) ⟨dx, [], by rw [List.zip_nil_right]; exact upd_same, Nat.zero_le _, .nil⟩
  have hρ : (if o1.length = o1.length then x else g1.ρ o1.length) = x := if_pos rfl
  have rs2 := rs.ext e2
  cases ef : Ff (.h o1.length :: xs) (o1 ++ [.ins c []]) with
  | none => simp only [ef] at e; cases e
  | some pr =>
    obtain ⟨rf, of⟩ := pr
    simp only [ef] at e
    refine ⟨Y.B, _, _, .h o1.length :: xs, R2, .cons ⟨by simp, by show V.ref x = V.ref (if o1.length = o1.length then x else g1.ρ o1.length); rw [hρ]⟩ rs2, by rw [List.length_cons, hl], rf, of, ef, ?_⟩
    cases rf with
    | ok s =>
      cases s with
      | h j => simp only at e; cases e
      | d z =>
        cases z with
        | non =>
          simp only at e
          cases e
          intro g' v H' R' e' rv
          refine ⟨rep_non rv, kq g' _ H' R' (e2.trans e') ?_⟩
          have hlt : o1.length < (o1 ++ [O.ins c []]).length := by simp
          refine ⟨Nat.lt_of_lt_of_le hlt e'.le, ?_⟩
          rw [e'.ρ o1.length hlt]
          show V.ref x = V.ref (if o1.length = o1.length then x else g1.ρ o1.length)
          rw [hρ]
        | _ => simp only at e; cases e
    | ex cc fs =>
      simp only at e
      cases e
      intro g' d H' R' e' xd
      exact kq g' d H' R' (e2.trans e') xd
end
end Gx
end T_GxW1
section T_GxW2
set_option Elab.async false
set_option linter.all false
set_option maxRecDepth 100000
set_option maxHeartbeats 4000000
namespace Gx
open PySem PySem.Spec PyProof.Rows L2

/-! ## len of an instance of ours -/
def eLenW (FL : Nat → Option FM) (f : EM) : EM := f.bind fun x => fun _ own => match x with
  | .h k => match own[k]? with
    | some (.ins c _) => (FL c).bind fun Ff => match Ff [.h k] own with
      | some (.ok (.d (.int n)), own') => if 0 ≤ n ∧ n < 2 ^ 63 then some (.ok (.d (.int n)), own') else none
      | _ => none
    | _ => none
  | _ => none
section
variable {X : Cx} {Y : Cy} {k j : Nat} {FL FE : Nat → Option FM} {L : List Nat} {x : Str} {p pos : Pos} {a : Expr} {f : EM}
theorem r_lenW (O : OwnM X.prog X.w X.K X.mg X.base Y.T k L FE FL) (hr : Room j X.A) (hj : k + 1 ≤ j) (hm : X.mg "len" = none) (h : PE X a (trE Y f)) (hg : Gl X "len" := by rfl)
    (he : starEach [a] X.env = [(false, eval a X.env)] := by rfl) : PE X (.Call (.Name "len" p) [a] [] pos) (trE Y (eLenW FL f)) := by
  refine PE.imp (pe_callB (call_lenO (FL := FL) (T := Y.T) (k := k) (hr.mono hj)) hg hm (by decide +kernel) (pa_cons h pa_nil he) (by decide) (by decide) he rfl) fun σ H Q q => ?_
  obtain ⟨gh, sd, own, R, S, q⟩ := q
  refine at_bind R S q fun g1 o1 x v H1 R1 S1 e1 rx q1 => ?_
  obtain ⟨r, own2, e, kq⟩ := q1
  cases x with
  | d x => cases e
  | h kk =>
    simp only at e
    cases eo : o1[kk]? with
    | none => simp only [eo] at e; cases e
    | some ob =>
      cases ob with
      | ins c svs =>
        simp only [eo] at e
        obtain ⟨Ff, ef, e⟩ := Option.bind_eq_some_iff.mp e
        obtain ⟨dx, ws, h1, _⟩ := R1.o kk _ eo
        have hv := rx.2
        subst hv
        cases er : Ff [.h kk] o1 with
        | none => simp only [er] at e; cases e
        | some pr =>
          obtain ⟨rf, of⟩ := pr
          cases rf with
          | ex c2 fs => simp only [er] at e; cases e
          | ok s =>
            cases s with
            | h j2 => simp only [er] at e; cases e
            | d z =>
              cases z with
              | int n =>
                simp only [er] at e
                by_cases hn : 0 ≤ n ∧ n < 2 ^ 63
                · rw [if_pos hn] at e
                  cases e
                  refine ⟨c, Ff, _, dx, _, ef, rfl, h1, O.len c Ff ef, Y.B, g1, o1, [.h kk], R1, .cons rx .nil, rfl, _, _, er, ?_⟩
                  intro g' v H' R' e' rv
                  obtain rfl := sv_int rv
                  exact ⟨n, rfl, hn.1, hn.2, kq g' _ H' R' e' (Rep.int _)⟩
                · rw [if_neg hn] at e; cases e
              | _ => simp only [er] at e; cases e
      | _ => simp only [eo] at e; cases e
end
/-! ## l.pop(), d.get(k, x) -/
section
variable {X : Cx} {Y : Cy} {apos cpos : Pos} {o e a : Expr} {name : Str} {id : String} {r : V → List V → Hp → VK → Prop} {mm : MM} {f fo fk fz : EM}
theorem nil_of {σ : L2.St} {H : Hp} {P : List V → Hp → Prop} (h : trA Y aNil σ H P) : P [] H := by
  obtain ⟨gh, sd, own, R, S, r, own', e, k⟩ := h
  cases e
  exact k gh [] H R .rfl' .nil
theorem r_mut0 (slot : Slot "list" name id) (hty : typeOf (.builtin id) = pure (.type "method_descriptor")) (hm : MtR X id r) (om : OMt Y r mm) (ho : PE X o (trE Y f))
    (hbase : attributeBase o name X.env (eval o X.env) = eval o X.env := by rfl) (hline : (apos.endLine == cpos.line) = true := by rfl) : PE X (.Call (.Attribute o name apos) [] [] cpos) (trE Y (eMut mm f aNil)) :=
  PE.imp (pe_bm0 PySem.F.plainAttrs_list slot hty hm ho hbase hline) fun σ H Q q => by
    obtain ⟨gh, sd, own, R, S, q⟩ := at_mut (K := X.K) (al := aNil) om q
    exact at_all R S q fun v H1 ⟨ty, t⟩ => ⟨ty, nil_of t⟩
def mmPop : MM := fun _ xs ys => match ys with
  | [] => (xs[xs.length - 1]?).map fun y => (y, xs.dropLast)
  | _ => none
theorem Reps.dropLast {T : Tb} {F : Hp} : ∀ {ds : List D} {vs : List V}, Reps T F ds vs → Reps T F ds.dropLast vs.dropLast
  | _, _, .nil => .nil
  | _, _, .cons h .nil => .nil
  | _, _, .cons h (.cons h2 t) => .cons h (Reps.dropLast (.cons h2 t))
theorem om_pop {Y : Cy} : OMt Y rPop mmPop := by
  intro gh own H p xs vs ys ws z xs' Q R h1 h2 rs e k
  match ys, rs, e with
  | [], rs, e =>
    cases rs
    obtain ⟨y, e1, e2⟩ := Option.map_eq_some_iff.mp e
    cases e2
    obtain ⟨v, hv, rv⟩ := h2.get e1
    exact ⟨p, vs, v, rfl, rfl, h1, by rw [← h2.length]; exact hv, k _ _ (Reps.dropLast h2) rv⟩
/-- d.get(k, x), data -/
def eGet (fo fk fz : EM) : EM := fo.bind fun x => (M.ask fun own => dicV own x).bind fun _ => fk.bind fun y => fz.bind fun z => M.ask fun own => match y with
  | .d c => (dicV own x).bind fun p => (keyOf c).bind fun kk => some (match getK kk p.1 p.2 with
    | some d => SV.d d
    | none => z)
  | _ => none
theorem r_get (hu : X.A.units + 1 < cLine) (ho : PE X o (trE Y fo)) (hk : PE X e (trE Y fk)) (hz : PE X a (trE Y fz)) (m : M2 X o "get" apos e a cpos := by exact ⟨rfl, rfl, rfl, rfl⟩) :
    PE X (.Call (.Attribute o "get" apos) [e, a] [] cpos) (trE Y (eGet fo fk fz)) := by
  refine PE.imp (pe_dget2 hu ho hk hz m) fun σ H Q q => ?_
  obtain ⟨gh, sd, own, R, S, q⟩ := q
  refine at_bind R S q fun g1 o1 x v H1 R1 S1 e1 rx q1 => ?_
  obtain ⟨p0, ep, q1⟩ := ask_at q1
  obtain ⟨a0, kvs0, rfl, h0, _⟩ := dic_of R1 rx ep
  refine ⟨a0, rfl, .inl ⟨kvs0, h0⟩, ?_⟩
  refine at_bind R1 S1 q1 fun g2 o2 y w H2 R2 S2 e2 ry q2 => ?_
  refine at_bind R2 S2 q2 fun g3 o3 z u H3 R3 S3 e3 rz q3 => ?_
  obtain ⟨s, es, kq⟩ := at_ask q3
  cases y with
  | h j => cases es
  | d c =>
    obtain ⟨⟨ks, xs⟩, d1, d2⟩ := Option.bind_eq_some_iff.mp es
    obtain ⟨kk, d3, d4⟩ := Option.bind_eq_some_iff.mp d2
    cases d4
    have rx3 := (rx.ext e2).ext e3
    obtain ⟨b, od, eb, dg, k1, k2⟩ := dget_of (k := kk) R3 rx3 d1
    cases eb
    have ew := keyOf_rel d3 (show Rep Y.T g2.F c w from ry)
    subst ew
    refine ⟨od, dg, ?_⟩
    simp only at kq
    cases eg : getK kk ks xs with
    | some dv =>
      obtain ⟨vv, ov, rv⟩ := k1 dv eg
      rw [ov]
      rw [eg] at kq
      exact kq g3 vv H3 R3 .rfl' rv
    | none =>
      rw [k2 eg]
      rw [eg] at kq
      exact kq g3 u H3 R3 .rfl' rz
end
/-! ## a call on what is looked at only, its result a new dict of plain things -/
def callU (n : Nat) (Ff : FM) (xs : List SV) : EM := fun _ own => if xs.length = n then (match viewL own xs with
  | none => none
  | some ds => match Ff (ds.map SV.d) [] with
    | some (.ok (.h k), own') => (match own'[k]? with
      | some (.dic ks vs) => if vs.all scal1 = true then some (.ok (.d (.dic ks vs)), own) else none
      | _ => none)
    | _ => none) else none
def eCallU (n : Nat) (Ff : FM) (a : AM) : EM := a.bind fun xs => callU n Ff xs
theorem scal_reps {T : Tb} {F F' : Hp} : ∀ {ds : List D} {vs : List V}, ds.all scal1 = true → Reps T F ds vs → Reps T F' ds vs
  | _, _, _, .nil => .nil
  | _, _, h, .cons a r => by
    rw [List.all_cons, Bool.and_eq_true] at h
    exact .cons (scal_rep h.1 a) (scal_reps h.2 r)
theorem call_U {T : Tb} {B : Hp} {Ek : L2.St → XK} {Ff : FM} {n : Nat} {g1 : Gh} {sd : Sl} {own : Own} {σ : L2.St} {H : Hp} {Q : VK} {xs : List SV} {vs : List V} (R : HRel T B g1 own H) (rs : RSs T g1 own.length xs vs)
    (q : At ⟨T, B, Ek⟩ (RS T) g1 sd own σ Q (callU n Ff xs)) : spF T n Ff vs H Q (Ek σ) := by
  obtain ⟨r, own2, e, kq⟩ := q
  unfold callU at e
  by_cases hl : xs.length = n
  case neg => rw [if_neg hl] at e; cases e
  rw [if_pos hl] at e
  cases ed : viewL own xs with
  | none => simp only [ed] at e; cases e
  | some ds =>
    simp only [ed] at e
    cases ef : Ff (ds.map SV.d) [] with
    | none => simp only [ef] at e; cases e
    | some p =>
      obtain ⟨rf, of⟩ := p
      simp only [ef] at e
      have rs2 := view_rel R (ρ := g1.ρ) (n := 0) xs vs ds rs ed
      refine ⟨H, ⟨H, g1.ρ⟩, [], ds.map SV.d, hrel_fresh Le.rfl', rs2, by rw [rs2.length, ← rs.length]; exact hl, rf, of, ef, ?_⟩
      cases rf with
      | ok s =>
        cases s with
        | d z => simp only at e; cases e
        | h kk =>
          simp only at e
          cases eo : of[kk]? with
          | none => simp only [eo] at e; cases e
          | some ob =>
            cases ob with
            | dic ks ws =>
              simp only [eo] at e
              by_cases sc : ws.all scal1 = true
              case neg => rw [if_neg sc] at e; cases e
              rw [if_pos sc] at e
              cases e
              intro g' v H' R' e' rv
              have hv := rv.2
              subst hv
              obtain ⟨kvs, h1, h2, h3⟩ := R'.o kk _ eo
              have hB : H (g'.ρ kk) = none := (R'.nb kk _ eo rfl).1
              have hF : g1.F (g'.ρ kk) = none := (R.free hB).2
              obtain ⟨R2, e2⟩ := R.after (F' := L2.upd g1.F (g'.ρ kk) (.dK kvs)) R'.b (Le.upd hF) (fun b u hb => by
                by_cases c : b = g'.ρ kk
                · subst c
                  rw [upd_same] at hb
                  cases hb
                  exact h1
                · rw [upd_ne c] at hb
                  exact R'.b _ _ (R.f _ _ hb)) fun b u hb => by
                by_cases c : b = g'.ρ kk
                · subst c
                  exact .inr hB
                · rw [upd_ne c] at hb
                  exact .inl hb
              exact kq _ _ H' R2 e2 (Rep.dic (.inl upd_same) h2 (scal_reps sc h3))
            | _ => simp only [eo] at e; cases e
      | ex c fs => simp only at e; cases e
section
variable {X : Cx} {Y : Cy} {k j n : Nat} {x : Str} {Ff : FM} {p pos : Pos} {a : Expr} {es : List Expr} {al : AM}
theorem r_callU (c : Cal X.prog X.w X.K X.mg X.base Y.T k x n Ff) (hr : Room j X.A) (hk : k ≤ j) (cx : CxOk X Y) (ha : PA X (a :: es) (trA Y al)) (hg : Gl X x := by rfl) (hdb : (x == ("__debug__" : Str)) = false := by decide)
    (he : starEach (a :: es) X.env = (false, eval a X.env) :: starEach es X.env := by rfl) (hpl : (backTo pos (starEach es X.env)).any (·.1) = false := by rfl) : PE X (.Call (.Name x p) (a :: es) [] pos) (trE Y (eCallU n Ff al)) := by
  obtain ⟨f, fd, ps, hm, hkp, hb, F⟩ := c.ex
  refine PE.imp (pe_callSD (E := Y.Ek) F (hr.mono hk) hg hm hkp hb .nil cx.pass ha hdb he hpl) fun σ H Q q => ?_
  obtain ⟨gh, sd, own, R, S, q⟩ := q
  refine at_bind R S q fun g1 o1 xs vs H1 R1 S1 e1 rs q1 => ?_
  rw [List.append_nil]
  exact call_U R1 rs q1
end
end Gx
end T_GxW2
section T_GxX1
set_option Elab.async false
set_option linter.all false
set_option maxRecDepth 100000
set_option maxHeartbeats 4000000
namespace Gx
open PySem PySem.Spec PyProof.Rows L2
/-! ## texts -/
def strV : SV → Option Str
  | .d (.str a) => some a
  | _ => none
theorem str_of {T : Tb} {g : Gh} {n : Nat} {s : SV} {v : V} {a : Str} (r : RS T g n s v) (h : strV s = some a) : v = .str a := by
  cases s with
  | h k => cases h
  | d x =>
    cases x with
    | str z => cases h; have r : Rep T g.F (.str a) v := r; cases r; rfl
    | _ => cases h
def splitD (a b : Str) : Option D := if (b.length == 0) = false ∧ a.length + 2 ≤ sizeLine then some (.lst ((Txt.split a b).map D.str)) else none
def eSplit (fo fe : EM) : EM := fo.bind fun x => (M.ask fun _ => strV x).bind fun a => fe.bind fun y => M.ask fun _ => (strV y).bind fun b => (splitD a b).map SV.d
theorem repsStr {T : Tb} {F : Hp} : ∀ l : List Str, Reps T F (l.map D.str) (l.map V.str)
  | [] => .nil
  | x :: l => .cons (.str x) (repsStr l)
section
variable {X : Cx} {Y : Cy} {apos pos : Pos} {o e : Expr} {fo fe : EM}
theorem r_split (ho : PE X o (trE Y fo)) (he : PE X e (trE Y fe)) (hs : starEach [e] X.env = [(false, eval e X.env)] := by rfl) (hbase : attributeBase o "split" X.env (eval o X.env) = eval o X.env := by rfl) (hline : (apos.endLine == pos.line) = true := by rfl) :
    PE X (.Call (.Attribute o "split" apos) [e] [] pos) (trE Y (eSplit fo fe)) := by
  refine PE.imp (pe_split ho he hs hbase hline) fun σ H Q q => ?_
  obtain ⟨gh, sd, own, R, S, q⟩ := q
  refine at_bind R S q fun g1 o1 x v H1 R1 S1 e1 rx q1 => ?_
  obtain ⟨a, ea, q1⟩ := ask_at q1
  obtain rfl := str_of rx ea
  refine ⟨⟨a, rfl⟩, ?_⟩
  refine at_bind R1 S1 q1 fun g2 o2 y w H2 R2 S2 e2 ry q2 => ?_
  obtain ⟨s, es, kq⟩ := at_ask q2
  obtain ⟨b, eb, es⟩ := Option.bind_eq_some_iff.mp es
  obtain rfl := str_of ry eb
  obtain ⟨z, ez, es⟩ := Option.map_eq_some_iff.mp es
  subst es
  unfold splitD at ez
  by_cases c : (b.length == 0) = false ∧ a.length + 2 ≤ sizeLine
  · rw [if_pos c] at ez
    cases ez
    refine ⟨a, b, rfl, rfl, c.1, c.2, fun p hp => ?_⟩
    obtain ⟨R3, e3⟩ := R2.new hp (.lst ((Txt.split a b).map V.str))
    exact kq _ _ _ R3 e3 (Rep.lst upd_same (repsStr _))
  · rw [if_neg c] at ez; cases ez
theorem reps_strV {T : Tb} {F : Hp} : ∀ {l : List Str} {vs : List V}, Reps T F (l.map D.str) vs → vs = l.map V.str
  | [], _, r => by cases r; rfl
  | x :: l, _, r => by
    cases r with
    | cons h t => cases h; rw [reps_strV t]; rfl
def joinD (a : Str) (ys : List Str) : Option D := if (ys.map (·.length)).sum + ys.length * a.length ≤ 16777216 then some (.str (Txt.join a ys)) else none
/-- a.join(l), l a list -/
def eJoin (fo fe : EM) : EM := fo.bind fun x => (M.ask fun _ => strV x).bind fun a => fe.bind fun y => M.ask fun own => (lstV own y).bind fun ds => (strsD ds).bind fun ys => (joinD a ys).map SV.d
theorem r_join (ho : PE X o (trE Y fo)) (he : PE X e (trE Y fe)) (hs : starEach [e] X.env = [(false, eval e X.env)] := by rfl) (hbase : attributeBase o "join" X.env (eval o X.env) = eval o X.env := by rfl) (hline : (apos.endLine == pos.line) = true := by rfl) :
    PE X (.Call (.Attribute o "join" apos) [e] [] pos) (trE Y (eJoin fo fe)) := by
  refine PE.imp (pe_join ho he hs hbase hline) fun σ H Q q => ?_
  obtain ⟨gh, sd, own, R, S, q⟩ := q
  refine at_bind R S q fun g1 o1 x v H1 R1 S1 e1 rx q1 => ?_
  obtain ⟨a, ea, q1⟩ := ask_at q1
  obtain rfl := str_of rx ea
  refine ⟨⟨a, rfl⟩, ?_⟩
  refine at_bind R1 S1 q1 fun g2 o2 y w H2 R2 S2 e2 ry q2 => ?_
  obtain ⟨s, es, kq⟩ := at_ask q2
  obtain ⟨ds, e3, es⟩ := Option.bind_eq_some_iff.mp es
  obtain ⟨ys, e4, es⟩ := Option.bind_eq_some_iff.mp es
  obtain ⟨z, ez, es⟩ := Option.map_eq_some_iff.mp es
  subst es
  obtain ⟨p, vs, rfl, h1, h2⟩ := lst_of R2 ry e3
  rw [strsD_map e4] at h2
  have hv := reps_strV h2
  subst hv
  unfold joinD at ez
  by_cases c : (ys.map (·.length)).sum + ys.length * a.length ≤ 16777216
  · rw [if_pos c] at ez
    cases ez
    exact ⟨a, p, ys, rfl, rfl, .inl (SqL.of h1), c, kq g2 _ H2 R2 .rfl' (.str _)⟩
  · rw [if_neg c] at ez; cases ez
/-- str(x): ints and texts -/
def mStr1 : Own → SV → Option D := fun _ x => match x with
  | .d (.str a) => some (.str a)
  | .d (.int i) => if decide (i.natAbs.log2 < 1920) = true then some (.str (toString i)) else none
  | _ => none
def rStr1 : List V → Hp → VK → Prop := fun xs H Q => (∃ i, xs = [.int i] ∧ i.natAbs.log2 < 1920 ∧ Q (.str (toString i)) H) ∨ ∃ a, xs = [.str a] ∧ Q (.str a) H
theorem call_str1 : CallR X (.type "str") rStr1 := call_str_int.or SkE.call_str_str
theorem ob_str1 : OB Y rStr1 (m1 mStr1) := by
  refine ob_1 (r := fun v H Q => rStr1 [v] H Q) (fun gh own H x v z Q R rx h k => ?_) fun _ _ _ h => h
  unfold mStr1 at h
  cases x with
  | h j => cases h
  | d x =>
    cases x with
    | str a =>
      cases h
      have rx : Rep Y.T gh.F (.str a) v := rx
      cases rx
      exact .inr ⟨a, rfl, k gh _ H R .rfl' (.str _)⟩
    | int i =>
      simp only at h
      by_cases c : i.natAbs.log2 < 1920
      · rw [if_pos (decide_eq_true c)] at h
        cases h
        obtain rfl := sv_int rx
        exact .inl ⟨i, rfl, c, k gh _ H R .rfl' (.str _)⟩
      · rw [if_neg (by simpa using c)] at h; cases h
    | _ => cases h
/-- int(text) -/
def mIntT : Own → SV → Option D := fun _ x => match x with
  | .d (.str a) => if a.length ≤ 640 then (PySem.intText? a).map D.int else none
  | _ => none
def rIntT : List V → Hp → VK → Prop := fun xs H Q => ∃ a n, xs = [.str a] ∧ PySem.intText? a = some n ∧ a.length ≤ 640 ∧ Q (.int n) H
theorem call_intT : CallR X (.type "int") rIntT := call_int_str
theorem ob_intT : OB Y rIntT (m1 mIntT) := by
  refine ob_1 (r := fun v H Q => rIntT [v] H Q) (fun gh own H x v z Q R rx h k => ?_) fun _ _ _ h => h
  unfold mIntT at h
  cases x with
  | h j => cases h
  | d x =>
    cases x with
    | str a =>
      simp only at h
      by_cases c : a.length ≤ 640
      · rw [if_pos c] at h
        obtain ⟨n, e1, e2⟩ := Option.map_eq_some_iff.mp h
        subst e2
        have rx : Rep Y.T gh.F (.str a) v := rx
        cases rx
        exact ⟨a, n, rfl, e1, c, k gh _ H R .rfl' (.int _)⟩
      · rw [if_neg c] at h; cases h
    | _ => cases h
end
end Gx
end T_GxX1
section T_GxX2
set_option Elab.async false
set_option linter.all false
set_option maxRecDepth 100000
set_option maxHeartbeats 4000000
namespace Gx
open PySem PySem.Spec PyProof.Rows L2
/-! ## o.f op= v, an int field of an instance of ours -/
def sFldG (c i : Nat) (gg : Int → Int → Int) (o e : EM) : SM := SM.bind o fun x => fun sd own => match x with
  | .h k => match own[k]? with
    | some (.ins c' vs) => if c' = c then (match vs[i]? with
      | some (.d (.int n)) => SM.bind e (fun y => fun sd own2 => match y with
        | .d (.int m) => (putFld c i own2 (.h k) (.d (.int (gg n m)))).map fun own' => .nx sd own'
        | _ => none) sd own
      | _ => none) else none
    | _ => none
  | _ => none
section
variable {X : Cx} {Y : Cy} {pos tpos : Pos} {o a : Expr} {name : Str} {fo f : EM}
theorem rs_fldG {op : Operator} {gg : Int → Int → Int} (c i : Nat) (cl : Cls X.K (Y.T.ct c)) (na : NoAttr X.K (Y.T.ct c) name) (hop : InOp X op (fun x y H Q => ∃ i j, x = .int i ∧ y = .int j ∧ Q (.int (gg i j)) H)) (ho : PE X o (trE Y fo)) (hv : PE X a (trE Y f)) (hf : (flds c)[i]? = some name := by rfl) :
    PS X (.AugAssign (.Attribute o name tpos) op a pos) (trS Y (sFldG c i gg fo f)) := by
  refine PS.imp (ps_fldaug ho hv hop) fun D σ H q => ?_
  obtain ⟨gh, sd, own, R, S, q⟩ := q
  refine s_bind R S q fun g1 o1 x v H1 R1 S1 e1 rx q1 => ?_
  obtain ⟨r, e, k⟩ := q1
  cases x with
  | d d => cases e
  | h kh =>
    simp only at e
    cases eo : o1[kh]? with
    | none => simp only [eo] at e; cases e
    | some ob =>
      cases ob with
      | ins c' vs =>
        simp only [eo] at e
        by_cases hc : c' = c
        case neg => rw [if_neg hc] at e; cases e
        rw [if_pos hc] at e
        subst hc
        cases ev : vs[i]? with
        | none => simp only [ev] at e; cases e
        | some sv =>
          cases sv with
          | h j => simp only [ev] at e; cases e
          | d z =>
            cases z with
            | int n =>
              simp only [ev] at e
              obtain ⟨dx, ws, h1, h2, h3⟩ := R1.o kh _ eo
              obtain ⟨v2, e4, r4⟩ := h3.get ev
              obtain rfl := sv_int r4
              have hv1 := rx.2
              subst hv1
              refine ⟨_, _, dx, _, .int n, rfl, h1, cl, na, zip_look (flds_nd _) hf e4, ?_⟩
              refine s_bind R1 S1 ⟨r, e, k⟩ fun g2 o2 y w H2 R2 S2 e2 ry q2 => ?_
              obtain ⟨r2, e5, k2⟩ := q2
              cases y with
              | h j => cases e5
              | d y =>
                cases y with
                | int m =>
                  refine ⟨n, m, rfl, sv_int ry, ?_⟩
                  obtain ⟨own', e6, e7⟩ := Option.map_eq_some_iff.mp e5
                  subst e7
                  have e6 : (match o2[kh]? with | some (.ins c'' us) => if c'' = c' ∧ i ≤ us.length then some (o2.set kh (.ins c' (if i < us.length then us.set i (.d (.int (gg n m))) else us ++ [.d (.int (gg n m))]))) else none | _ => none) = some own' := e6
                  cases eo2 : o2[kh]? with
                  | none => rw [eo2] at e6; cases e6
                  | some ob2 =>
                    rw [eo2] at e6
                    cases ob2 with
                    | ins c'' us =>
                      have e6 : (if c'' = c' ∧ i ≤ us.length then some (o2.set kh (.ins c' (if i < us.length then us.set i (.d (.int (gg n m))) else us ++ [.d (.int (gg n m))]))) else none) = some own' := e6
                      by_cases cc : c'' = c' ∧ i ≤ us.length
                      case neg => rw [if_neg cc] at e6; cases e6
                      rw [if_pos cc] at e6
                      cases e6
                      obtain ⟨rfl, hi⟩ := cc
                      obtain ⟨dx2, ws2, t1, t2, t3⟩ := R2.o kh _ eo2
                      have hρ : g2.ρ kh = g1.ρ kh := e2.ρ kh rx.1
                      have hl := t3.length
                      rw [hρ] at t1
                      refine ⟨dx2, _, t1, ?_, ?_⟩
                      · have := flds_few c''
                        rw [List.length_zip]
                        omega
                      · rw [zip_put (flds_nd _) hf (by rw [← hl]; exact hi)]
                        have fi : i < (flds c'').length := (List.getElem?_eq_some_iff.mp hf).1
                        have R3 := R2.put (ho := .ins (Y.T.ct c'') dx2 ((flds c'').zip (if i < ws2.length then ws2.set i (.int (gg n m)) else ws2 ++ [.int (gg n m)]))) (o' := .ins c'' (if i < us.length then us.set i (.d (.int (gg n m))) else us ++ [.d (.int (gg n m))])) eo2 rfl (by
                          refine ⟨dx2, _, upd_same, ?_, ?_⟩
                          · by_cases c3 : i < ws2.length
                            · rw [if_pos c3, List.length_set]; exact t2
                            · rw [if_neg c3, List.length_append]; simp; omega
                          · rw [← hl]
                            by_cases c3 : i < us.length
                            · rw [if_pos c3, if_pos c3]; exact t3.set i (Rep.int (T := Y.T) (F := g2.F) (gg n m))
                            · rw [if_neg c3, if_neg c3]; exact t3.snoc (Rep.int (T := Y.T) (F := g2.F) (gg n m)))
                        rw [hρ] at R3
                        exact k2 g2 σ _ R3 (by rw [List.length_set]; exact S2) (by rw [List.length_set]; exact .rfl')
                    | _ => cases e6
                | _ => cases e5
            | _ => simp only [ev] at e; cases e
      | _ => simp only [eo] at e; cases e
end
end Gx
end T_GxX2
section T_GxX3
set_option Elab.async false
set_option linter.all false
set_option maxRecDepth 100000
set_option maxHeartbeats 4000000
namespace Gx
open PySem PySem.Spec PyProof.Rows L2
/-! ## a suite of several statements -/
theorem seq_bind {α : Type} {f : M α} {k : α → SM} {q : SM} : sSeq (SM.bind f k) q = SM.bind f (fun x => sSeq (k x) q) := by
  funext sd own
  unfold sSeq SM.bind
  cases f sd own with
  | none => rfl
  | some p =>
    obtain ⟨r, o⟩ := p
    cases r <;> rfl
section
variable {X : Cx} {Y : Cy} {ε : Held} {i : Nat} {x : Str} {pos pos' : Pos} {a : Expr} {l : List Stmt} {f : EM} {q : SM}
theorem xss_set (hN : X.N.Nodup) (h : PE X a (trX Y ε (RS Y.T) f)) (hr : PSs X l (trXS Y ε q)) (hne : i ≠ ε.i := by simp) (hi : X.N[i]? = some x := by rfl) (hx : Loc X.env.scope x := by first | exact Or.inl rfl | exact Or.inr rfl) (hs : swapsWith a (some (.Name x pos')) pos.line X.env = pure false := by rfl)
    (hf : X.fn x = true ∨ X.env.scope.names.lookup x = some .local := by first | exact .inl rfl | exact .inr rfl) : PSs X (.Assign [.Name x pos'] a pos :: l) (trXS Y ε (sSeq (sSet i f) q)) := PSs.imp (pss_cons (ps_set hN hi hx h hs hf) hr) fun D σ H w => by
  obtain ⟨gh, sd, own, R, S, x0, w⟩ := w
  unfold sSet at w
  rw [seq_bind] at w
  show trX Y ε (RS Y.T) f σ H _
  refine sx_bind R S x0 w fun g1 o1 v u H1 R1 S1 e1 rx q1 => ?_
  have x1 := x0.ext (H1 := H1) e1
  exact ⟨g1, sd.set i (some v), o1, R1, by have := S1.set (i := i) rx; exact this, ⟨by rw [List.getElem?_set_ne hne]; exact x1.1, x1.2⟩, q1⟩
theorem xss_one {st : Stmt} (h : PS X st (trXS Y ε q)) : PSs X [st] (trXS Y ε q) := pss_one h
end
section
variable {X : Cx} {Y : Cy} {ε : Held} {pos : Pos} {a b : Expr} {f g : EM}
/-- a op b in a suite -/
theorem x_bin {op : Operator} {m : Own → SV → SV → Option D} {r : R2} (ho : OpR X (binaryOp op) r) (om : O2 Y r m) (ha : PE X a (trX Y ε (RS Y.T) f)) (hb : PE X b (trX Y ε (RS Y.T) g)) : PE X (.BinOp a op b pos) (trX Y ε (RS Y.T) (eB m f g)) :=
  PE.imp (pe_op ho ha hb) fun σ H Q q => by
    obtain ⟨gh, sd, own, R, S, x0, q⟩ := q
    refine atx_bind R S x0 q fun g1 o1 x v H1 R1 S1 x1 e1 rx q1 => ?_
    refine atx_bind R1 S1 x1 q1 fun g2 o2 y w H2 R2 S2 x2 e2 ry q2 => ?_
    obtain ⟨s, es, k⟩ := at_ask q2
    obtain ⟨z, ez, e4⟩ := Option.map_eq_some_iff.mp es
    subst e4
    exact om g2 o2 H2 x y v w z Q R2 (rx.ext e2) ry ez fun g' u H' R' e' ru => k g' u H' R' e' ru
end
end Gx
end T_GxX3
section T_GxX4
set_option Elab.async false
set_option linter.all false
set_option maxRecDepth 100000
set_option maxHeartbeats 4000000
namespace Gx
open PySem PySem.Spec PyProof.Rows L2

/-! ## dict comprehensions of two clauses -/
abbrev dc2 (kx vx t0 i0 t1 i1 : Expr) (c0 c1 : List Expr) (sc : Scope) (p : Pos) : Expr := .DictComp kx vx [⟨t0, i0, c0, 0⟩, ⟨t1, i1, c1, 0⟩] sc p
theorem dc2_outer (kx vx t0 i0 t1 i1 : Expr) (c0 c1 : List Expr) (sc : Scope) (p : Pos) (z a : Value) (en : Env) : compTurn (dc2 kx vx t0 i0 t1 i1 c0 c1 sc p) 0 z a en = (do
    standAt i0.pos
    match ← pyNext z with
    | none => pure (.done .next)
    | some got =>
      letOwnedTupleGo t0 z got
      assign t0 en got
      let mut good := true
      for c in c0 do
        if good then good ← isTrue c en (eval c en)
      if good then
        let src ← eval i1 en
        standAt i1.pos
        let src ← foldedSetIterable i1 en src
        let _ ← runOwn (.compStart (dc2 kx vx t0 i0 t1 i1 c0 c1 sc p) 1 (← holding [src] (pyIter src)) a en) en
      again (.compLoop (dc2 kx vx t0 i0 t1 i1 c0 c1 sc p) 0 z a en)) := by rfl
theorem dc2_inner (kx vx t0 i0 t1 i1 : Expr) (c0 c1 : List Expr) (sc : Scope) (p : Pos) (z : Value) (a : Addr) (en : Env) : compTurn (dc2 kx vx t0 i0 t1 i1 c0 c1 sc p) 1 z (.ref a) en = (do
    standAt i1.pos
    match ← pyNext z with
    | none => pure (.done .next)
    | some got =>
      letOwnedTupleGo t1 z got
      assign t1 en got
      let mut good := true
      for c in c1 do
        if good then good ← isTrue c en (eval c en)
      if good then
        (do
          let key ← eval kx en
          let val ← holding [key] (eval vx en)
          standAt { kx.pos with endLine := vx.pos.endLine, endCol := vx.pos.endCol }
          holding [key, val] (dictSet a key val))
      again (.compLoop (dc2 kx vx t0 i0 t1 i1 c0 c1 sc p) 1 z (.ref a) en)) := by rfl

section
variable {P : Program} {w : World} {A : Around} {R : Result → Shared → Prop} {s : Shared} {kx vx t0 i0 t1 i1 : Expr} {c0 c1 : List Expr} {sc : Scope} {p : Pos} {z a : Value} {D : Addr} {en : Env}
abbrev rsd (P : Program) (w : World) (A : Around) (en : Env) (R : Result → Shared → Prop) : Value → Shared → Prop := notedBy (model P w) A en fun e y => R (.error e) y
/-- a clause's turn: an item stored and tested -/
def Nxt (P : Program) (w : World) (A : Around) (en : Env) (R : Result → Shared → Prop) (t : Expr) (cs : List Expr) (z : Value) (fin yes no : Shared → Prop) (s : Shared) : Prop :=
  wpAny (model P w) A (pyNext z) (fun r y => match r with
    | none => fin y
    | some v => wpAny (model P w) A (letOwnedTupleGo t z v) (fun _ y1 => wpAny (model P w) A (assign t en v) (fun _ y2 =>
        wpAny (model P w) A (forIn cs true fun c r => if r = true then do let ok ← isTrue c en (eval c en); pure (ForInStep.yield ok) else pure (ForInStep.yield r)) (fun ok y3 => if ok = true then yes y3 else no y3) (rsd P w A en R) y2) (rsd P w A en R) y1) (rsd P w A en R) y) (rsd P w A en R) s
theorem dc2_loop0 (hs : ∀ x, foldedSetIterable i1 en x = pure x) (I : Nat → Shared → Prop)
    (turn : ∀ n s, I n s → Nxt P w A en R t0 c0 z (R (.ok .next)) (fun y => wpAny (model P w) A (eval i1 en) (fun x y1 => wpAny (model P w) A (pyIter x) (fun z1 y2 =>
      codeAny (model P w) A (.compStart (dc2 kx vx t0 i0 t1 i1 c0 c1 sc p) 1 z1 a en) (fun r y3 => match r with
        | .ok _ => ∃ m, m < n ∧ I m y3
        | .error _ => False) y2) (rsd P w A en R) y1) (rsd P w A en R) y) (fun y => ∃ m, m < n ∧ I m y) s)
    (n : Nat) (h : I n s) : codeAny (model P w) A (.compLoop (dc2 kx vx t0 i0 t1 i1 c0 c1 sc p) 0 z a en) R s := by
  refine codeAny_loop rfl I (fun n s hI => ?_) n h
  have tn := turn n s hI
  show wpAny _ A ((compTurn (dc2 kx vx t0 i0 t1 i1 c0 c1 sc p) 0 z a en).onRaise (fun x => do noteFrame x en; theTreesLotGoes x)) _ _ s
  refine wpAny_noted ?_
  rw [dc2_outer]
  refine wpAny_bind (wpAny_standAt (wpAny_bind (wpAny_mono tn (fun r y hy => ?_) fun _ _ q => q)))
  cases r with
  | none => exact wpAny_pure hy
  | some v =>
    refine wpAny_bind (wpAny_mono hy (fun _ y1 hy1 => ?_) fun _ _ q => q)
    refine wpAny_bind (wpAny_mono hy1 (fun _ y2 hy2 => wpAny_bind (wpAny_mono hy2 (fun ok y3 hy3 => ?_) fun _ _ q => q)) fun _ _ q => q)
    cases ok with
    | false => exact wpAny_pure ⟨rfl, hy3⟩
    | true =>
      refine wpAny_bind (wpAny_mono hy3 (fun x y4 hy4 => ?_) fun _ _ q => q)
      refine wpAny_bind (wpAny_standAt (wpAny_bind (wpAny_of_eq (hs x) (wpAny_bind (wpAny_holding (wpAny_mono hy4 (fun z1 y5 hy5 => ?_) fun _ _ q => q))))))
      refine wpAny_bind (wpAny_runOwn ?_)
      rw [Around.mark_none]
      refine codeAny_mono hy5 fun r y6 hr => ?_
      cases r with
      | ok f =>
        first
          | exact wpAny_pure ⟨rfl, hr⟩
          | exact wpAny_bind (wpAny_pure (wpAny_pure ⟨rfl, hr⟩))
      | error e => exact hr.elim
theorem dc2_loop1 (I : Nat → Shared → Prop)
    (turn : ∀ n s, I n s → Nxt P w A en R t1 c1 z (R (.ok .next)) (fun y => wpAny (model P w) A (eval kx en) (fun k y1 => wpAny (model P w) A (eval vx en) (fun x y2 =>
      wpAny (model P w) A (dictSet D k x) (fun _ y3 => ∃ m, m < n ∧ I m y3) (rsd P w A en R) y2) (rsd P w A en R) y1) (rsd P w A en R) y) (fun y => ∃ m, m < n ∧ I m y) s)
    (n : Nat) (h : I n s) : codeAny (model P w) A (.compLoop (dc2 kx vx t0 i0 t1 i1 c0 c1 sc p) 1 z (.ref D) en) R s := by
  refine codeAny_loop rfl I (fun n s hI => ?_) n h
  have tn := turn n s hI
  show wpAny _ A ((compTurn (dc2 kx vx t0 i0 t1 i1 c0 c1 sc p) 1 z (.ref D) en).onRaise (fun x => do noteFrame x en; theTreesLotGoes x)) _ _ s
  refine wpAny_noted ?_
  rw [dc2_inner]
  refine wpAny_bind (wpAny_standAt (wpAny_bind (wpAny_mono tn (fun r y hy => ?_) fun _ _ q => q)))
  cases r with
  | none => exact wpAny_pure hy
  | some v =>
    refine wpAny_bind (wpAny_mono hy (fun _ y1 hy1 => ?_) fun _ _ q => q)
    refine wpAny_bind (wpAny_mono hy1 (fun _ y2 hy2 => wpAny_bind (wpAny_mono hy2 (fun ok y3 hy3 => ?_) fun _ _ q => q)) fun _ _ q => q)
    cases ok with
    | false => exact wpAny_pure ⟨rfl, hy3⟩
    | true =>
      exact wpAny_bind (wpAny_bind (wpAny_mono hy3 (fun k y4 hy4 => wpAny_bind (wpAny_holding (wpAny_mono hy4 (fun x y5 hy5 => wpAny_bind (wpAny_standAt (wpAny_holding (wpAny_mono hy5 (fun _ y6 hy6 => wpAny_pure ⟨rfl, hy6⟩) fun _ _ q => q)))) fun _ _ q => q))) fun _ _ q => q))
/-- the second clause begins -/
theorem dc2_start1 (h0 : codeAny (model P w) A (.compLoop (dc2 kx vx t0 i0 t1 i1 c0 c1 sc p) 1 z a en) R s)
    (h : wpAny (model P w) A (pyIter z) (fun z' y => codeAny (model P w) A (.compLoop (dc2 kx vx t0 i0 t1 i1 c0 c1 sc p) 1 z' a en) R y) (rsd P w A en R) s) :
    codeAny (model P w) A (.compStart (dc2 kx vx t0 i0 t1 i1 c0 c1 sc p) 1 z a en) R s := by
  refine codeAny_of_tree ?_
  show wpAny _ _ ((compStart (dc2 kx vx t0 i0 t1 i1 c0 c1 sc p) 1 z a en).onRaise (fun x => do noteFrame x en; standAt theWindowsPlace)) _ _ s
  refine wpAny_notedAt ?_
  unfold compStart
  show wpAny _ _ (ask >>= _) _ _ s
  refine wpAny_bind (wpAny_askSetting (wpAny_ite ?_))
  split
  · first
      | exact wpAny_bind (wpAny_pure (wpAny_pure (And.intro rfl h0)))
      | exact wpAny_pure (And.intro rfl h0)
  · first
      | exact wpAny_bind (wpAny_rule (wpAny_bind (wpAny_standAt (wpAny_bind (wpAny_mono h (fun z' y hy => wpAny_pure (And.intro rfl hy)) fun _ _ q => q)))))
      | (refine wpAny_bind (wpAny_rule ?_); show wpAny _ _ (standAt i1.pos >>= _) _ _ s; exact wpAny_bind (wpAny_standAt (wpAny_bind (wpAny_mono h (fun z' y hy => wpAny_pure (And.intro rfl hy)) fun _ _ q => q))))
end

section
variable {X : Cx}
/-- a clause's turn, by the readings of its target and tests -/
theorem nxt_run {R : Result → Shared → Prop} {pins : List (Addr × Obj)} {s sB : Shared} {σ : L2.St} {H HB : Hp} {t : Expr} {cs : List Expr} {sc : Scope} {ce : Env} {fq fp : List Addr} {it : Addr} {J : It} {tn : Nat → Heap → Prop} {g : TG} {tt : TT} {i : Nat} {fin yes no : Shared → Prop}
    (hc : X.calm = true) (T : Turn X.prog X.w X.K t J fp it tn) (I : Inv (X.blk sB HB sc ce fq) pins σ H s) (st : tn i s.heap) (nf : ∀ b ∈ fp, FpOk (X.blk sB HB sc ce fq) pins H b)
    (pst : ∀ H', (∀ b ∈ fp, H' b = none) → ∀ s', Inv (X.blk sB HB sc ce fq) pins σ H' s' → ∀ b ∈ fp, FpOk (X.blk sB HB sc ce fq) pins H' b)
    (pg : PG (X.blk sB HB sc ce fq) t g) (pt : PTs (X.blk sB HB sc ce fq) cs tt)
    (q : (J.stop i H ∧ ∀ y, Inv (X.blk sB HB sc ce fq) pins σ H y → fin y) ∨ (J.go i H ∧ ∃ (QG : L2.St → Hp → Prop) (QT : L2.St → Bool → Hp → Prop) (C : L2.St → Prop), (∀ x H1, J.yld i H x H1 → g x σ H1 QG) ∧ (∀ σ2 H2, QG σ2 H2 → C σ2 ∧ tt σ2 H2 (QT σ2)) ∧
      ∀ (σ2 : L2.St) (b : Bool) (H3 : Hp) (y y' : Shared), C σ2 → QT σ2 b H3 → tn (i + 1) y.heap → Inv (X.blk sB HB sc ce fq) (pins ++ pinsAt fp y.heap) σ2 H3 y' → if b = true then yes y' else no y')) :
    Nxt X.prog X.w X.A ce R t cs (.ref it) fin yes no s := by
  rcases q with ⟨stop, k⟩ | ⟨go, QG, QT, C, kg, kt, k⟩
  · refine thnF (T.done (X.blk sB HB sc ce fq) rfl rfl rfl hc i _ s σ H (fun _ _ => False) I nf st stop) fun r y ⟨hr, Iy⟩ => ?_
    subst hr
    exact k y Iy
  · refine thnF (T.item (X.blk sB HB sc ce fq) rfl rfl rfl hc i _ s σ H (fun _ _ => False) I nf st go) fun r y0 ⟨u, hr, hy⟩ => ?_
    subst hr
    refine thnF hy fun _ y1 ⟨x, H1, I1, rx, yx, st1, n1⟩ => ?_
    have Ip := I1.pinned (pst H1 n1 y1 I1) (T.obj _ _ st1)
    refine thnF (pg.run _ y1 _ H1 x u _ Ip rx (kg x H1 yx)) fun _ y2 ⟨σ2, H2, I2, q2⟩ => ?_
    obtain ⟨c2, q2⟩ := kt σ2 H2 q2
    refine thnF (pt.run _ y2 σ2 H2 _ I2 q2) fun b y3 ⟨H3, I3, q3⟩ => ?_
    exact k σ2 b H3 y1 y3 c2 q3 st1 I3
/-- {k: v for tg in iter if .. for tg1 in iter1 if ..}: D the new dict -/
def tDc2 (wi : TI) (g : TG) (tt : TT) (wi1 : TI) (g1 : TG) (tt1 : TT) (tk tv : TE) (vs vs1 : List Nat) : TE := fun σ H Q => wi σ H fun J Ha => ∀ D, Ha D = none → ∃ W : Nat → Nat → Hp → Prop, (∃ m, W 0 m (upd Ha D (.dK []))) ∧ ∀ i m H, W i m H →
  (J.stop i H ∧ Q (.ref D) H) ∨ (J.go i H ∧ ∃ N : Hp → Prop, (∀ H', N H' → ∃ m', m' < m ∧ W (i + 1) m' H') ∧ ∀ x H', J.yld i H x H' → g x (wipe σ vs) H' fun σ2 Hb => wipe σ2 vs = wipe σ vs ∧ tt σ2 Hb fun b Hc =>
    if b = true then wi1 σ2 Hc fun J1 Hd => ∃ W1 : Nat → Nat → Hp → Prop, (∃ m, W1 0 m Hd) ∧ ∀ j k H, W1 j k H →
      (J1.stop j H ∧ N H) ∨ (J1.go j H ∧ ∃ N1 : Hp → Prop, (∀ H', N1 H' → ∃ k', k' < k ∧ W1 (j + 1) k' H') ∧ ∀ x H', J1.yld j H x H' → g1 x (wipe σ2 vs1) H' fun σ3 He => wipe σ3 vs1 = wipe σ2 vs1 ∧ tt1 σ3 He fun b Hf =>
        if b = true then tk σ3 Hf fun y Hg => tv σ3 Hg fun z Hh => ∃ kvs k, y = kV k ∧ Hh D = some (.dK kvs) ∧ kvs.length < sizeLine ∧ N1 (upd Hh D (.dK (putK kvs k z))) else N1 Hf)
    else N Hc)
abbrev BPG (X : Cx) (scope : Scope) (tg : Expr) (g : TG) : Prop := ∀ (s : Shared) (H : Hp) (C : Addr) (cl : List (Str × Addr)) (fp : List Addr), PG (X.blk s H scope (compEnvC scope cl C X.env) fp) tg g
abbrev BPT (X : Cx) (scope : Scope) (cs : List Expr) (t : TT) : Prop := ∀ (s : Shared) (H : Hp) (C : Addr) (cl : List (Str × Addr)) (fp : List Addr), PTs (X.blk s H scope (compEnvC scope cl C X.env) fp) cs t
abbrev BPE (X : Cx) (scope : Scope) (e : Expr) (t : TE) : Prop := ∀ (s : Shared) (H : Hp) (C : Addr) (cl : List (Str × Addr)) (fp : List Addr), PE (X.blk s H scope (compEnvC scope cl C X.env) fp) e t
abbrev BPI (X : Cx) (scope : Scope) (tg e : Expr) (t : TI) : Prop := ∀ (s : Shared) (H : Hp) (C : Addr) (cl : List (Str × Addr)) (fp : List Addr), PI (X.blk s H scope (compEnvC scope cl C X.env) fp) tg e t
theorem pe_dc2 {kx vx tg iter tg1 iter1 : Expr} {ifs ifs1 : List Expr} {scope : Scope} {own : List (Str × Nat)} {vs1 : List Nat} {pos : Pos} {wi wi1 : TI} {g g1 : TG} {tt tt1 : TT} {tk tv : TE} (hc : X.calm = true) (hN : X.N.Nodup) (hi : PI X tg iter wi) (ok : BlkOk X.N X.env.scope scope own) (hv : ∀ i ∈ vs1, i ∈ own.map (·.2))
    (hg : BPG X scope tg g) (ht : BPT X scope ifs tt) (hi1 : BPI X scope tg1 iter1 wi1) (hg1 : BPG X scope tg1 g1) (ht1 : BPT X scope ifs1 tt1) (hk : BPE X scope kx tk) (he : BPE X scope vx tv)
    (hs : ∀ x, foldedSetIterable iter X.env x = pure x := by intro _; rfl) (hs1 : ∀ env x, foldedSetIterable iter1 env x = pure x := by intro _ _; rfl) :
    PE X (dc2 kx vx tg iter tg1 iter1 ifs ifs1 scope pos) (tDc2 wi g tt wi1 g1 tt1 tk tv (own.map (·.2)) vs1) := by
  refine ⟨fun pins s σ H Q I h => ?_⟩
  rw [arm_eval_DictComp]
  have clo : ∀ y ∈ scope.names, y.2 = .free → ∃ c, X.env.cells.lookup y.1 = some c := fun y hy e => (ok.free y hy e).elim (fun k => I.ok.has _ (.inl k)) (fun k => I.ok.has _ (.inr k))
  refine wpAny_comprehension_free rfl hs (closure_ok clo) ok.kind (fun y hy e => by rw [ok.uniq y hy, e])
    (thn (hi.run pins s σ H _ I h) fun xv sa hx => thn hx fun itv sb hb => ?_)
  obtain ⟨it, fp, tn, J, Hb, e, Ib, T, stb, fb, q⟩ := hb
  subst e
  refine wpAny_newObj_type (newEnv_comp ?_)
  generalize hD : sb.heap.objs.size = D
  have nD : Hb D = none := Ib.hok.fresh (Nat.le_of_eq hD)
  obtain ⟨W, ⟨m0, w0⟩, turn⟩ := q D nD
  generalize esc : ({ sb with heap := sb.heap.push { cls := .type "dict", data := .dict #[] } } : Shared) = sc
  have hc3 : sc.heap = sb.heap.push { cls := .type "dict", data := .dict #[] } := by rw [← esc]
  have Ic : Inv X pins σ (upd Hb D (.dK [])) sc := by
    rw [← esc]
    refine Ib.laid (t' := sb.toks) (fun b o e => Heap.get?_push_of_some _ e) (Nat.le_of_eq hD) ?_
    rw [← hD]
    exact dk_empty sb.heap Ib.big
  have fc : ∀ b ∈ fp, FpOk X pins (upd Hb D (.dK [])) b ∧ b < sc.heap.objs.size := fun b hb => by
    obtain ⟨o, e, _⟩ := T.obj _ _ stb b hb
    have lt := Heap.lt_size e
    refine ⟨⟨?_, (fb b hb).2⟩, by rw [hc3, Heap.size_push]; exact Nat.lt_succ_of_lt lt⟩
    rw [upd_ne (by rw [← hD]; exact Nat.ne_of_lt lt)]
    exact (fb b hb).1
  have stc : tn 0 sc.heap := T.keep _ _ _ stb fun b _ o e => by rw [hc3]; exact Heap.get?_push_of_some _ e
  have Id := block_start Ic ok hN fc
  show codeAny _ _ (.compStart (dc2 kx vx tg iter tg1 iter1 ifs ifs1 scope pos) 0 (.ref it) (.ref D) (compEnvC scope (cellsFrom (sc.heap.objs.size + 1) scope.names (cloFrom X.env.cells scope.names [])) sc.heap.objs.size X.env)) (compPost (model X.prog X.w) X.A X.xe none (EP X pins σ Q) (.ref D) sc.heap.objs.size)
    { sc with heap := pushCells (sc.heap.push { cls := .type "dict", data := .dict #[] }) scope.names }
  generalize hHc : upd Hb D (.dK []) = Hc at Ic Id w0 fc
  generalize hcl : cellsFrom (sc.heap.objs.size + 1) scope.names (cloFrom X.env.cells scope.names []) = cl at Id ⊢
  have pg := hg sc Hc sc.heap.objs.size cl fp
  have pt := ht sc Hc sc.heap.objs.size cl fp
  have pk := hk sc Hc sc.heap.objs.size cl fp
  have pv := he sc Hc sc.heap.objs.size cl fp
  have pi1 := hi1 sc Hc sc.heap.objs.size cl fp
  have pg1 := hg1 sc Hc sc.heap.objs.size cl fp
  have pt1 := ht1 sc Hc sc.heap.objs.size cl fp
  generalize hce : compEnvC scope cl sc.heap.objs.size X.env = ce at Id pg pt pk pv pi1 pg1 pt1 ⊢
  have loc : ce.locals = sc.heap.objs.size := by subst hce; rfl
  generalize hsd : ({ sc with heap := pushCells (sc.heap.push { cls := .type "dict", data := .dict #[] }) scope.names } : Shared) = sd at Id ⊢
  have std : tn 0 sd.heap := T.keep _ _ _ stc fun b _ o e => by rw [← hsd]; exact pushCells_keeps _ _ _ _ (Heap.get?_push_of_some _ e)
  have pst : ∀ {σ' : L2.St} (H' : Hp), (∀ b ∈ fp, H' b = none) → ∀ s', Inv (X.blk sc Hc scope ce fp) [] σ' H' s' → ∀ b ∈ fp, FpOk (X.blk sc Hc scope ce fp) [] H' b := fun H' n s' I' b hb =>
    ⟨n b hb, (I'.ok.exf b hb).1, I'.ok.exfs b hb, .inl hb, fun x c e => (I'.ok.exf b hb).2 x c e, fun p hp => absurd (show p ∈ ([] : List (Addr × Obj)) ++ [] from hp) (by simp)⟩
  let Inn : Nat → Shared → Prop := fun n y => ∃ i H', Inv (X.blk sc Hc scope ce fp) [] (wipe σ (own.map (·.2))) H' y ∧ tn i y.heap ∧ (∀ b ∈ fp, H' b = none) ∧ W i n H'
  have whole : codeAny (model X.prog X.w) X.A (.compLoop (dc2 kx vx tg iter tg1 iter1 ifs ifs1 scope pos) 0 (.ref it) (.ref D) ce) (compPost (model X.prog X.w) X.A X.xe none (EP X pins σ Q) (.ref D) sc.heap.objs.size) sd := by
    refine dc2_loop0 (hs1 ce) Inn ?_ m0 ⟨0, Hc, Id, std, fun b hb => (fc b hb).1.1, w0⟩
    rintro n s5 ⟨i, H5, I5, st5, n5, w5⟩
    refine nxt_run (i := i) hc T I5 st5 (pst H5 n5 s5 I5) pst pg pt ?_
    rcases turn i n H5 w5 with ⟨stop, qq⟩ | ⟨go, N, hN', step⟩
    · refine .inl ⟨stop, fun y Iy => ?_⟩
      have I7 : Inv X pins σ H5 y := Ic.call' (ch := fp) Iy.os Iy.base Iy.hok Iy.bare fun b hb => ⟨(fc b hb).1.2.2.2.1, (fc b hb).1.2.1, (fc b hb).1.2.2.2.2.1, (fc b hb).1.2.2.2.2.2⟩
      have nC : H5 sc.heap.objs.size = none := by
        have z : H5 ce.locals = none := Iy.free
        rwa [loc] at z
      obtain ⟨m, hn, _⟩ := Iy.loc
      have hn : y.heap.Ns ce.locals m := hn
      rw [loc] at hn
      obtain ⟨f0, f1, f2, f3, f4, f5⟩ := Ic.fpOk (Nat.le_refl _) nC
      exact ⟨m, hn, fun h' same => ⟨.ref D, H5, I7.turned (t' := y.toks) (fun b o hb e => (same.2 b hb).trans e) f0 f1 f3 f4 f5, rfl, qq⟩⟩
    · refine .inr ⟨go, _, _, _, step, fun _ _ z => z, fun σ2 b H3 y y' same qb sty Iy => ?_⟩
      -- from slots that know what the block knew at its start, the turn ends
      have fin : ∀ {σ' : L2.St} {y2 : Shared} {H' : Hp}, Inv (X.blk sc Hc scope ce fp) ([] ++ pinsAt fp y.heap) σ' H' y2 → (wipe σ (own.map (·.2))).length = σ'.length → (∀ (j : Nat) v, (wipe σ (own.map (·.2)))[j]? = some (some v) → σ'[j]? = some (some v)) → N H' → ∃ m, m < n ∧ Inn m y2 := fun {σ' y2 H'} I' len know nx => by
        obtain ⟨m', lt, w'⟩ := hN' H' nx
        have pin : ∀ b ∈ fp, ∀ o, y.heap.get? b = some o → y2.heap.get? b = some o ∧ H' b = none := fun b hb o e => (fun z => ⟨z.1, z.2.1⟩) (I'.pin (b, o) (List.mem_append_right _ (List.mem_append_right _ (mem_pinsAt hb e))))
        refine ⟨m', lt, i + 1, H', (I'.unpinned (pins := [])).weak len know, T.keep _ _ _ sty fun b hb o e => (pin b hb o e).1, fun b hb => ?_, w'⟩
        obtain ⟨o, e, _⟩ := T.obj _ _ sty b hb
        exact (pin b hb o e).2
      have len2 : (wipe σ (own.map (·.2))).length = σ2.length := by rw [← same, wipe_length]
      have know2 : ∀ (j : Nat) v, (wipe σ (own.map (·.2)))[j]? = some (some v) → σ2[j]? = some (some v) := fun j v e => (wipe_some (same ▸ e)).1
      have know3 : ∀ (j : Nat) v, (wipe σ (own.map (·.2)))[j]? = some (some v) → (wipe σ2 vs1)[j]? = some (some v) := fun j v e => by
        obtain ⟨e1, e2⟩ := wipe_some (same ▸ e)
        rw [wipe_out fun z => e2 (hv j z)]
        exact e1
      cases b with
      | false =>
        rw [if_neg (by decide)] at qb ⊢
        exact fin Iy len2 know2 qb
      | true =>
        rw [if_pos rfl] at qb ⊢
        refine thnF (pi1.run _ y' σ2 H3 _ Iy qb) fun xv y4 hx => thnF hx fun itv y5 h5 => ?_
        obtain ⟨it1, fp1, tn1, J1, Hd, e1, I5', T1, st5', f5', W1, ⟨m1, w1⟩, turn1⟩ := h5
        subst e1
        have pst1 : ∀ (H' : Hp), (∀ b ∈ fp1, H' b = none) → ∀ s', Inv (X.blk sc Hc scope ce fp) ([] ++ pinsAt fp y.heap) (wipe σ2 vs1) H' s' → ∀ b ∈ fp1, FpOk (X.blk sc Hc scope ce fp) ([] ++ pinsAt fp y.heap) H' b := fun H' n s' _ b hb => ⟨n b hb, (f5' b hb).2⟩
        let Inn1 : Nat → Shared → Prop := fun k y1 => ∃ j H', Inv (X.blk sc Hc scope ce fp) ([] ++ pinsAt fp y.heap) (wipe σ2 vs1) H' y1 ∧ tn1 j y1.heap ∧ (∀ b ∈ fp1, H' b = none) ∧ W1 j k H'
        have loop1 : codeAny (model X.prog X.w) X.A (.compLoop (dc2 kx vx tg iter tg1 iter1 ifs ifs1 scope pos) 1 (.ref it1) (.ref D) ce)
            (fun r y6 => match r with
              | .ok _ => ∃ m, m < n ∧ Inn m y6
              | .error _ => False) y5 := by
          refine dc2_loop1 Inn1 ?_ m1 ⟨0, Hd, I5'.weak (wipe_length _ _) (fun j v e => (wipe_some e).1), st5', fun b hb => (f5' b hb).1, w1⟩
          rintro k s12 ⟨j, H12, I12, st12, n12, w12⟩
          refine nxt_run (i := j) hc T1 I12 st12 (pst1 H12 n12 s12 I12) pst1 pg1 pt1 ?_
          rcases turn1 j k H12 w12 with ⟨stop1, nx1⟩ | ⟨go1, N1, hN1, step1⟩
          · exact .inl ⟨stop1, fun y7 I7 => fin I7 (len2.trans (wipe_length σ2 vs1).symm) know3 nx1⟩
          · refine .inr ⟨go1, _, _, _, step1, fun _ _ z => z, fun σ3 b1 H16 y14 y16 same1 q16 st14 I16 => ?_⟩
            have fin1 : ∀ {y2 : Shared} {H' : Hp}, Inv (X.blk sc Hc scope ce fp) (([] ++ pinsAt fp y.heap) ++ pinsAt fp1 y14.heap) σ3 H' y2 → N1 H' → ∃ m, m < k ∧ Inn1 m y2 := fun {y2 H'} I' nx => by
              obtain ⟨m', lt, w'⟩ := hN1 H' nx
              have pin : ∀ b ∈ fp1, ∀ o, y14.heap.get? b = some o → y2.heap.get? b = some o ∧ H' b = none := fun b hb o e => (fun z => ⟨z.1, z.2.1⟩) (I'.pin (b, o) (List.mem_append_right _ (List.mem_append_right _ (mem_pinsAt hb e))))
              refine ⟨m', lt, j + 1, H', I'.unpinned.weak (by rw [← same1, wipe_length]) (fun j v e => (wipe_some (same1 ▸ e)).1), T1.keep _ _ _ st14 fun b hb o e => (pin b hb o e).1, fun b hb => ?_, w'⟩
              obtain ⟨o, e, _⟩ := T1.obj _ _ st14 b hb
              exact (pin b hb o e).2
            cases b1 with
            | false =>
              rw [if_neg (by decide)] at q16 ⊢
              exact fin1 I16 q16
            | true =>
              rw [if_pos rfl] at q16 ⊢
              refine thnF (pk.run _ y16 σ3 H16 _ I16 q16) fun kk y17 ⟨yk, H17, I17, r17, q17⟩ => ?_
              refine thnF (pv.run _ y17 σ3 H17 _ I17 q17) fun vv y18 ⟨yv, H18, I18, r18, kvs, k0, ek, hD18, lt18, nx⟩ => ?_
              subst ek
              exact d_dictSet (X := X.blk sc Hc scope ce fp) I18 hD18 lt18 r17 r18 fun y19 I19 => fin1 I19 nx
        exact dc2_start1 loop1 (T1.self X.A 0 _ _ _ st5' loop1)
  exact codeAny_compStart_dict whole (T.self X.A 0 _ _ _ std whole)
end
end Gx
end T_GxX4
section T_GxX5
set_option Elab.async false
set_option linter.all false
set_option maxRecDepth 100000
set_option maxHeartbeats 4000000
namespace Gx
open PySem PySem.Spec PyProof.Rows L2

/-! ## dict comprehensions of two clauses, as data -/
def dc2L (tg : GM) (t : TM) (src1 : IM) (vs1 : List Nat) (tg1 : GM) (t1 : TM) (fk fv : EM) (sd0 : Sl) : List D → List D × List D → Own → Option ((List D × List D) × Own)
  | [], a, own => some (a, own)
  | x :: xs, a, own => match tg x sd0 with
    | none => none
    | some sd1 => match t sd1 own with
      | some (.ok true, o1) => (match src1 sd1 o1 with
        | some (.ok ys, o2) => (if a.1.length + ys.length < sizeLine then (match dcL tg1 t1 fk fv (wipeD sd1 vs1) ys a o2 with
          | some (a', o3) => dc2L tg t src1 vs1 tg1 t1 fk fv sd0 xs a' o3
          | none => none) else none)
        | _ => none)
      | some (.ok false, o1) => dc2L tg t src1 vs1 tg1 t1 fk fv sd0 xs a o1
      | _ => none
def eDC2 (src : IM) (vs : List Nat) (tg : GM) (t : TM) (src1 : IM) (vs1 : List Nat) (tg1 : GM) (t1 : TM) (fk fv : EM) : EM := src.bind fun xs => fun sd own => match dc2L tg t src1 vs1 tg1 t1 fk fv (wipeD sd vs) xs ([], []) own with
  | some (a, o) => some (.ok (.d (.dic a.1 a.2)), o)
  | none => none
section
variable {X : Cx} {Y : Cy} {tgx iter kx vx tgx1 iter1 : Expr} {ifs ifs1 : List Expr} {scope : Scope} {own : List (Str × Nat)} {pos : Pos} {src src1 : IM} {tg tg1 : GM} {gg gg1 : TG} {is is1 vs1 : List Nat} {t t1 : TM} {fk fv : EM}
theorem dc2_at (og : OG Y.T gg tg is) (hv : ∀ i ∈ is, i ∈ own.map (·.2)) (og1 : OG Y.T gg1 tg1 is1) (hv1 : ∀ i ∈ is1, i ∈ vs1) {σ : L2.St} {H : Hp} {Q : VK} (q : trE Y (eDC2 src (own.map (·.2)) tg t src1 vs1 tg1 t1 fk fv) σ H Q) :
    tDc2 (trI Y src) gg (anyT Y.T t) (anyI Y.T src1) gg1 (anyT Y.T t1) (anyB Y.T fk) (anyB Y.T fv) (own.map (·.2)) vs1 σ H Q := by
  obtain ⟨gh, sd, own0, R, S, q⟩ := q
  refine at_bind R S q fun g1 o1 xs J H1 R1 S1 e1 wk q1 => ?_
  obtain ⟨r, own', e, k⟩ := q1
  cases el : dc2L tg t src1 vs1 tg1 t1 fk fv (wipeD sd (own.map (·.2))) xs ([], []) o1 with
  | none => simp only [el] at e; cases e
  | some p =>
    obtain ⟨fin, oF⟩ := p
    simp only [el] at e
    cases e
    intro Dn hD
    obtain ⟨hB, hF⟩ := R1.free hD
    let Inn : Nat → List (Key × V) → List D × List D → Gh → Own → Hp → Prop := fun i kvs a g2 o2 H => HRel Y.T (upd Y.B Dn (.dK kvs)) g2 o2 H ∧ g2.F Dn = none ∧ a.1 = kvs.map (fun p => keyD p.1) ∧ Reps Y.T g2.F a.2 (kvs.map (·.2)) ∧
      GExt Y.B g1 o1.length g2 o2.length
    refine ⟨fun i m H => m = xs.length - i ∧ i ≤ xs.length ∧ ∃ kvs a g2 o2, Inn i kvs a g2 o2 H ∧ dc2L tg t src1 vs1 tg1 t1 fk fv (wipeD sd (own.map (·.2))) (xs.drop i) a o2 = some (fin, own'),
      ⟨xs.length, by omega, Nat.zero_le _, [], ([], []), g1, o1, ⟨R1.guard hD, hF, rfl, .nil, .rfl'⟩, by rw [List.drop_zero]; exact el⟩, ?_⟩
    rintro i m H2 ⟨rfl, hi, kvs, a, g2, o2, ⟨R2, F2, k2, r2, e2⟩, l2⟩
    by_cases c : i < xs.length
    · refine .inr ⟨wk.go _ i g2 o2 H2 R2 e2.F c, fun H' => i + 1 ≤ xs.length ∧ ∃ kvs a g2 o2, Inn (i + 1) kvs a g2 o2 H' ∧ dc2L tg t src1 vs1 tg1 t1 fk fv (wipeD sd (own.map (·.2))) (xs.drop (i + 1)) a o2 = some (fin, own'),
        fun H' w => ⟨xs.length - (i + 1), by omega, rfl, w⟩, fun x H' y => ?_⟩
      have hx : xs[i]? = some xs[i] := by simp [c]
      obtain ⟨g3, R3, e3, r3⟩ := wk.yld _ i g2 o2 H2 x H' xs[i] R2 e2.F y hx
      have F3 : g3.F Dn = none := guard_none e3 F2
      rw [List.drop_eq_getElem_cons c] at l2
      unfold dc2L at l2
      have S3 : SRel Y.T g3 o2.length sd σ := (S1.ext e2).ext e3
      cases et : tg xs[i] (wipeD sd (own.map (·.2))) with
      | none => simp only [et] at l2; cases l2
      | some sd3 =>
        simp only [et] at l2
        refine og _ g3 o2 H' xs[i] x _ sd3 _ _ R3 r3 (srel_wipe S3 _) et fun σ3 S4 u => ⟨wipe_eq u hv, ?_⟩
        cases ec : t sd3 o2 with
        | none => simp only [ec] at l2; cases l2
        | some pc =>
          obtain ⟨rc, o3⟩ := pc
          cases rc with
          | ex cc fs => simp only [ec] at l2; cases l2
          | ok bb =>
            simp only [ec] at l2
            refine ⟨upd Y.B Dn (.dK kvs), g3, sd3, o2, R3, S4, .ok bb, o3, ec, fun g4 b' H4 R4 e4 eb => ?_⟩
            obtain rfl : bb = b' := eb
            have F4 : g4.F Dn = none := guard_none e4 F3
            have e34 := (e3.trans e4).less (B := Y.B) (Le.upd hB)
            cases bb with
            | false =>
              rw [if_neg (by decide)]
              simp only at l2
              exact ⟨c, kvs, a, g4, o3, ⟨R4, F4, k2, r2.le (e3.F.trans e4.F), e2.trans e34⟩, l2⟩
            | true =>
              rw [if_pos rfl]
              simp only at l2
              cases es : src1 sd3 o3 with
              | none => simp only [es] at l2; cases l2
              | some ps =>
                obtain ⟨rs, o4⟩ := ps
                cases rs with
                | ex cc fs => simp only [es] at l2; cases l2
                | ok ys =>
                  simp only [es] at l2
                  by_cases hz : a.1.length + ys.length < sizeLine
                  case neg => rw [if_neg hz] at l2; cases l2
                  rw [if_pos hz] at l2
                  cases ei : dcL tg1 t1 fk fv (wipeD sd3 vs1) ys a o4 with
                  | none => simp only [ei] at l2; cases l2
                  | some pi =>
                    obtain ⟨a5, o5⟩ := pi
                    simp only [ei] at l2
                    have hl0 : kvs.length = a.1.length := by rw [k2, List.length_map]
                    refine ⟨upd Y.B Dn (.dK kvs), g4, sd3, o3, R4, S4.ext e4, .ok ys, o4, es, fun g5 J1 H5 R5 e5 wk1 => ?_⟩
                    have F5 : g5.F Dn = none := guard_none e5 F4
                    have e15 := (e2.trans e34).trans (e5.less (B := Y.B) (Le.upd hB))
                    have S5 : SRel Y.T g5 o4.length sd3 σ3 := (S4.ext e4).ext e5
                    have r5 := r2.le ((e3.F.trans e4.F).trans e5.F)
                    let Jnn : Nat → List (Key × V) → List D × List D → Gh → Own → Hp → Prop := fun j kvs1 a1 g2 o2 H => HRel Y.T (upd Y.B Dn (.dK kvs1)) g2 o2 H ∧ g2.F Dn = none ∧ a1.1 = kvs1.map (fun p => keyD p.1) ∧ Reps Y.T g2.F a1.2 (kvs1.map (·.2)) ∧
                      GExt Y.B g5 o4.length g2 o2.length ∧ kvs1.length ≤ a.1.length + j
                    refine ⟨fun j m H => m = ys.length - j ∧ j ≤ ys.length ∧ ∃ kvs1 a1 g2 o2, Jnn j kvs1 a1 g2 o2 H ∧ dcL tg1 t1 fk fv (wipeD sd3 vs1) (ys.drop j) a1 o2 = some (a5, o5),
                      ⟨ys.length, by omega, Nat.zero_le _, kvs, a, g5, o4, ⟨R5, F5, k2, r5, .rfl', by omega⟩, by rw [List.drop_zero]; exact ei⟩, ?_⟩
                    rintro j m H6 ⟨rfl, hj, kvs1, a1, g6, o6, ⟨R6, F6, k6, r6, e6, hl6⟩, l6⟩
                    by_cases c1 : j < ys.length
                    · refine .inr ⟨wk1.go _ j g6 o6 H6 R6 e6.F c1, fun H' => j + 1 ≤ ys.length ∧ ∃ kvs1 a1 g2 o2, Jnn (j + 1) kvs1 a1 g2 o2 H' ∧ dcL tg1 t1 fk fv (wipeD sd3 vs1) (ys.drop (j + 1)) a1 o2 = some (a5, o5),
                        fun H' w => ⟨ys.length - (j + 1), by omega, rfl, w⟩, fun x1 H7 y1 => ?_⟩
                      have hy : ys[j]? = some ys[j] := by simp [c1]
                      obtain ⟨g7, R7, e7, r7⟩ := wk1.yld _ j g6 o6 H6 x1 H7 ys[j] R6 e6.F y1 hy
                      have F7 : g7.F Dn = none := guard_none e7 F6
                      rw [List.drop_eq_getElem_cons c1] at l6
                      unfold dcL at l6
                      have S7 : SRel Y.T g7 o6.length sd3 σ3 := (S5.ext e6).ext e7
                      cases et1 : tg1 ys[j] (wipeD sd3 vs1) with
                      | none => simp only [et1] at l6; cases l6
                      | some sd8 =>
                        simp only [et1] at l6
                        refine og1 _ g7 o6 H7 ys[j] x1 _ sd8 _ _ R7 r7 (srel_wipe S7 _) et1 fun σ8 S8 u1 => ⟨wipe_eq u1 hv1, ?_⟩
                        cases ec1 : t1 sd8 o6 with
                        | none => simp only [ec1] at l6; cases l6
                        | some pc1 =>
                          obtain ⟨rc1, o8⟩ := pc1
                          cases rc1 with
                          | ex cc fs => simp only [ec1] at l6; cases l6
                          | ok b1 =>
                            simp only [ec1] at l6
                            refine ⟨upd Y.B Dn (.dK kvs1), g7, sd8, o6, R7, S8, .ok b1, o8, ec1, fun g9 b' H9 R9 e9 eb => ?_⟩
                            obtain rfl : b1 = b' := eb
                            have F9 : g9.F Dn = none := guard_none e9 F7
                            have e79 := (e7.trans e9).less (B := Y.B) (Le.upd hB)
                            cases b1 with
                            | false =>
                              rw [if_neg (by decide)]
                              simp only at l6
                              exact ⟨c1, kvs1, a1, g9, o8, ⟨R9, F9, k6, r6.le (e7.F.trans e9.F), e6.trans e79, Nat.le_succ_of_le hl6⟩, l6⟩
                            | true =>
                              rw [if_pos rfl]
                              simp only at l6
                              cases ef : fk sd8 o8 with
                              | none => simp only [ef] at l6; cases l6
                              | some pf =>
                                obtain ⟨rf, o9⟩ := pf
                                cases rf with
                                | ex cc fs => simp only [ef] at l6; cases l6
                                | ok s =>
                                  cases s with
                                  | h kk => simp only [ef] at l6; cases l6
                                  | d d =>
                                    simp only [ef] at l6
                                    cases ek : keyOf d with
                                    | none => simp only [ek] at l6; cases l6
                                    | some kd =>
                                      simp only [ek] at l6
                                      cases eg : fv sd8 o9 with
                                      | none => simp only [eg] at l6; cases l6
                                      | some pg =>
                                        obtain ⟨rg, o10⟩ := pg
                                        cases rg with
                                        | ex cc fs => simp only [eg] at l6; cases l6
                                        | ok s2 =>
                                          cases s2 with
                                          | h kk => simp only [eg] at l6; cases l6
                                          | d d2 =>
                                            simp only [eg] at l6
                                            refine ⟨upd Y.B Dn (.dK kvs1), g9, sd8, o8, R9, S8.ext e9, .ok (.d d), o9, ef, fun g10 v H10 R10 e10 rv => ?_⟩
                                            have F10 : g10.F Dn = none := guard_none e10 F9
                                            refine ⟨upd Y.B Dn (.dK kvs1), g10, sd8, o9, R10, (S8.ext e9).ext e10, .ok (.d d2), o10, eg, fun g11 w H11 R11 e11 rw11 => ?_⟩
                                            have F11 : g11.F Dn = none := guard_none e11 F10
                                            have ev := keyOf_rel ek (show Rep Y.T g10.F d v from rv)
                                            have e711 := (((e7.trans e9).trans e10).trans e11).less (B := Y.B) (Le.upd hB)
                                            have r11 := r6.le (((e7.F.trans e9.F).trans e10.F).trans e11.F)
                                            obtain ⟨p1, p2⟩ := putKD_rel (k := kd) (show Rep Y.T g11.F d2 w from rw11) r11
                                            rw [← k6] at p1 p2
                                            exact ⟨kvs1, kd, ev, R11.b _ _ upd_same, by omega, c1, putK kvs1 kd w, putKD kd d2 a1.1 a1.2, g11, o10, ⟨R11.reb F11, F11, p1, p2, e6.trans e711, by have := length_putK kvs1 kd w; omega⟩, l6⟩
                    · have ej : j = ys.length := by omega
                      subst ej
                      rw [List.drop_length] at l6
                      cases l6
                      exact .inl ⟨wk1.stop _ _ g6 _ H6 R6 e6.F (Nat.le_refl _), c, kvs1, _, g6, _, ⟨R6, F6, k6, r6, e15.trans e6⟩, l2⟩
    · have e : i = xs.length := by omega
      subst e
      rw [List.drop_length] at l2
      cases l2
      obtain ⟨R3, e3⟩ := R2.unguard F2 hB
      exact .inl ⟨wk.stop _ _ g2 _ H2 R2 e2.F (Nat.le_refl _), k _ _ H2 R3 (e2.trans e3) (Rep.dic (.inl upd_same) k2 (r2.le e3.F))⟩
theorem r_dc2 (hN : X.N.Nodup) (hi : PI X tgx iter (trI Y src)) (ok : BlkOk X.N X.env.scope scope own)
    (hg : ∀ (s : Shared) (H : Hp) (C : Addr) (cl : List (Str × Addr)) (fp : List Addr), PG (X.blk s H scope (compEnvC scope cl C X.env) fp) tgx gg) (og : OG Y.T gg tg is) (hv : ∀ i ∈ is, i ∈ own.map (·.2))
    (ht : ∀ (B : Hp) (s : Shared) (H : Hp) (C : Addr) (cl : List (Str × Addr)) (fp : List Addr), PTs (X.blk s H scope (compEnvC scope cl C X.env) fp) ifs (trT ⟨Y.T, B, E00⟩ t))
    (hi1 : ∀ (B : Hp) (s : Shared) (H : Hp) (C : Addr) (cl : List (Str × Addr)) (fp : List Addr), PI (X.blk s H scope (compEnvC scope cl C X.env) fp) tgx1 iter1 (trI ⟨Y.T, B, E00⟩ src1)) (hw : ∀ i ∈ vs1, i ∈ own.map (·.2))
    (hg1 : ∀ (s : Shared) (H : Hp) (C : Addr) (cl : List (Str × Addr)) (fp : List Addr), PG (X.blk s H scope (compEnvC scope cl C X.env) fp) tgx1 gg1) (og1 : OG Y.T gg1 tg1 is1) (hv1 : ∀ i ∈ is1, i ∈ vs1)
    (ht1 : ∀ (B : Hp) (s : Shared) (H : Hp) (C : Addr) (cl : List (Str × Addr)) (fp : List Addr), PTs (X.blk s H scope (compEnvC scope cl C X.env) fp) ifs1 (trT ⟨Y.T, B, E00⟩ t1))
    (hk : ∀ (B : Hp) (s : Shared) (H : Hp) (C : Addr) (cl : List (Str × Addr)) (fp : List Addr), PE (X.blk s H scope (compEnvC scope cl C X.env) fp) kx (trE ⟨Y.T, B, E00⟩ fk))
    (he : ∀ (B : Hp) (s : Shared) (H : Hp) (C : Addr) (cl : List (Str × Addr)) (fp : List Addr), PE (X.blk s H scope (compEnvC scope cl C X.env) fp) vx (trE ⟨Y.T, B, E00⟩ fv)) (hc : X.calm = true := by rfl) (hs : ∀ x, foldedSetIterable iter X.env x = pure x := by intro _; rfl) (hs1 : ∀ env x, foldedSetIterable iter1 env x = pure x := by intro _ _; rfl) :
    PE X (.DictComp kx vx [⟨tgx, iter, ifs, 0⟩, ⟨tgx1, iter1, ifs1, 0⟩] scope pos) (trE Y (eDC2 src (own.map (·.2)) tg t src1 vs1 tg1 t1 fk fv)) :=
  PE.imp (pe_dc2 hc hN hi ok hw hg (fun s H C cl fp => pt_any fun B => ht B s H C cl fp) (fun s H C cl fp => pi_any fun B => hi1 B s H C cl fp) hg1 (fun s H C cl fp => pt_any fun B => ht1 B s H C cl fp) (fun s H C cl fp => pe_any fun B => hk B s H C cl fp) (fun s H C cl fp => pe_any fun B => he B s H C cl fp) hs hs1) fun _ _ _ q => dc2_at og hv og1 hv1 q
end
end Gx
end T_GxX5
section T_GxX6
set_option Elab.async false
set_option linter.all false
set_option maxRecDepth 100000
set_option maxHeartbeats 4000000
namespace Gx
open PySem PySem.Spec PyProof.Rows L2

/-! ## list(range(a, b, c)); sorted of a dict's keys -/
def stepI (i c : Int) (n : Nat) : List Int := (List.range n).map fun k => i + (k : Nat) * c
def stepN (i j c : Int) : Nat := (Builtin.Range.rangeSize i j c).toNat
def stepOk (i j c : Int) : Bool := decide (c ≠ 0 ∧ c.natAbs < 1073741824 ∧ Builtin.Range.small i j c = true ∧ Builtin.Range.rangeSize i j c = (stepN i j c : Int) ∧ stepN i j c ≤ 2 ^ 24)
def eLstR3 (f : AM) : EM := f.bind fun l => M.ask fun _ => match l with
  | [.d (.int i), .d (.int j), .d (.int c)] => if stepOk i j c = true then some (.d (.lst ((stepI i c (stepN i j c)).map D.int))) else none
  | _ => none
/-- the keys of a dict, all ints, ascending -/
def mSortK : Own → SV → Option D := fun own x => match x with
  | .d (.dic ks _) => (intsD ks).map fun is => .lst ((isort is).map D.int)
  | _ => none
def rSortK : List V → Hp → VK → Prop := fun vs H Q => ∃ (a : Addr) (kvs : List (Key × V)) (ks : List Int), vs = [.ref a] ∧ Rd H a (.dK kvs) ∧ kvs.map (·.1) = ks.map Sum.inl ∧
  ∀ (ys : List Int) (p : Addr), ys.Perm ks → ys.Pairwise (· ≤ ·) → H p = none → Q (.ref p) (upd H p (.lst (ys.map V.int)))
section
variable {X : Cx} {Y : Cy} {a b c : Expr} {f : AM} {p p2 pos pos2 : Pos}
theorem r_lstR3 (hl : X.mg "list" = none) (hm : X.mg "range" = none) (ha : PA X [a, b, c] (trA Y f)) (hc : X.calm = true := by rfl) (hgl : Gl X "list" := by rfl) (hg : Gl X "range" := by rfl)
    (na : starEach [.Call (.Name "range" p2) [a, b, c] [] pos2] X.env = (false, eval (.Call (.Name "range" p2) [a, b, c] [] pos2) X.env) :: starEach [] X.env := by rfl)
    (hs : starEach [a, b, c] X.env = (false, eval a X.env) :: starEach [b, c] X.env := by rfl) (hpl : (backTo pos2 (starEach [b, c] X.env)).any (·.1) = false := by rfl) :
    PE X (.Call (.Name "list" p) [.Call (.Name "range" p2) [a, b, c] [] pos2] [] pos) (trE Y (eLstR3 f)) := by
  refine ⟨fun pins s σ H Q I h => ?_⟩
  obtain ⟨gh, sd, own, R, S, q⟩ := h
  refine Call_ (ld_blt I hgl hl boot_list (PyProof.Rows.callWith_type1 (args_cons ?_ na) na))
  refine Call_ (ld_blt I hg hm boot_range (PyProof.Rows.callWith_type1 (thn (ha.run pos2 pins s σ H _ I (at_bind R S q fun g1 o1 l vs H1 R1 S1 e1 rl q1 => (show (∃ i j k : Int, vs = [.int i, .int j, .int k] ∧ stepOk i j k = true ∧ ∀ r, H1 r = none → Q (.ref r) (upd H1 r (.lst ((stepI i k (stepN i j k)).map V.int)))) from ?_))) fun us s1 hq => ?_) hs hpl))
  · obtain ⟨d, ed, k⟩ := at_ask q1
    match l, rl, ed with
    | [.d (.int i), .d (.int j), .d (.int n)], rl, ed =>
      cases rl with
      | cons r1 t => cases t with
        | cons r2 t => cases t with
          | cons r3 t =>
            cases t
            obtain rfl := sv_int r1
            obtain rfl := sv_int r2
            obtain rfl := sv_int r3
            by_cases ok : stepOk i j n = true
            · simp only [if_pos ok] at ed
              cases ed
              refine ⟨i, j, n, rfl, ok, fun r hr => ?_⟩
              obtain ⟨R2, e2⟩ := R1.new hr (.lst ((stepI i n (stepN i j n)).map V.int))
              exact k _ _ _ R2 e2 (Rep.lst upd_same (reps_int _))
            · simp only [if_neg ok] at ed; cases ed
  · obtain ⟨vs, H1, I1, r1, i, j, k, e, ok, q1⟩ := hq
    subst e
    obtain ⟨c0, c1, c2, c3, c4⟩ := of_decide_eq_true ok
    cases r1 with
    | cons x1 t => cases t with
      | cons x2 t => cases t with
        | cons x3 t =>
          cases t
          obtain ⟨t1, rfl⟩ := x1
          obtain ⟨t2, rfl⟩ := x2
          obtain ⟨t3, rfl⟩ := x3
          refine call_range_3 c0 ?_ (.inl (PyProof.noPylong_small c1))
          have I2 : Inv X pins σ H1 { s1 with heap := s1.heap.push { cls := .type "range", data := .fields #[.int i t1, .int j t2, .int k t3] } } := I1.kept (t' := s1.toks) fun b o e => Heap.get?_push_of_some _ e
          refine args_nil ?_
          refine call_list_range (n := stepN i j k) (I2.ok.hd hc) (IsRange.new _ _ _ _ _ _ _) c2 c3 c4 fun h' tk acc c' hk e' hi => ?_
          have el : acc.toList.length = stepN i j k := by rw [Array.length_toList]; exact hi.1
          have vl : Vals ((stepI i k (stepN i j k)).map V.int) acc.toList := by
            unfold stepI
            rw [List.map_map, ← el]
            refine vals_of_get acc.toList _ fun n u hn => ?_
            obtain ⟨t, rfl⟩ := hi.2 n u (by rw [← hn, Array.getElem?_toList])
            exact ⟨t, rfl⟩
          refine ⟨.ref (s1.heap.push { cls := .type "range", data := .fields #[.int i t1, .int j t2, .int k t3] }).objs.size, upd H1 (s1.heap.push { cls := .type "range", data := .fields #[.int i t1, .int j t2, .int k t3] }).objs.size (.lst ((stepI i k (stepN i j k)).map V.int)), I2.laid hk (Nat.le_refl _) (show ObjOk X.prog X.w _ _ _ (.lst ((stepI i k (stepN i j k)).map V.int)) from ⟨?_, acc.toList, c', vl, ?_⟩), rfl, q1 _ (I2.hok.fresh (Nat.le_refl _))⟩
          · unfold stepI; simp only [List.length_map, List.length_range]; rw [sizeLine_eq]; omega
          · rw [Array.toArray_toList]; exact e'
theorem cr_sortK (hc : X.calm = true) : CallR X (.builtin "sorted") rSortK := by
  intro pins s σ H xs us Q I r q
  obtain ⟨a, kvs, ks, rfl, hd, hks, q⟩ := q
  rw [Vals.ref1 r]
  obtain ⟨z, lo, vs, rel, dd⟩ := dk_rd I.hok hd
  obtain ⟨ep, hat⟩ := dd.dictAt
  have keys : vs.map (·.1) = ks.map Sum.inl := rel.keys.symm.trans hks
  have len : vs.length = ks.length := by have e := congrArg List.length keys; simpa using e
  have small : vs.length ≤ sizeLine := by rw [← rel.length]; exact z
  refine Calls.call_function_entry PyProof.Rows.kind_sorted PyProof.Rows.plain_sorted PyProof.Rows.entry_sorted (PyProof.Rows.args_sorted1 _) ?_
  unfold Builtin.«sorted»
  refine wpAny_bind (m := checkCount "sorted" 1 1 _) (wpAny_pure ?_)
  refine wpAny_bind (PySem.W.kdu_collect (A := X.A.in1) (PySem.W.kdl_dict (knd := mixKind X.prog X.w) (kvs := vs) (ep := ep) lo) (I.ok.hd hc) hat small fun h' tk acc hk hacc => ?_)
  have la : acc.toList.length = ks.length := by rw [Array.length_toList, hacc.1, len]
  have hI : IntsAre acc.toList ks := ints_each la fun j v e => by
    obtain ⟨k, x, e1, e2⟩ := hacc.2 j v (by rw [← Array.getElem?_toList]; exact e)
    have e3 : (ks.map Sum.inl : List Key)[j]? = some k := by rw [← keys, List.getElem?_map, e1]; rfl
    rw [List.getElem?_map] at e3
    obtain ⟨y, e4, e5⟩ := Option.map_eq_some_iff.mp e3
    subst e5
    rcases keyIs_shape (show keyIs (Sum.inl y) v = true from e2) with ⟨i, t, ek, ev⟩ | ⟨z, t, ek, ev⟩
    · cases ek
      exact ⟨y, t, e4, ev⟩
    · cases ek
  have I1 : Inv X pins σ H { s with heap := h', toks := tk } := I.kept hk
  refine wpAny_bind (wpAny_newList ?_ (by rw [la, ← len]; exact small))
  have ho : (h'.push (seqObj "list" acc.toList.toArray 0)).get? h'.objs.size = some (seqObj "list" acc.toList.toArray 0) := Heap.get?_push_size _ rfl
  show wpAny _ _ _ _ _ { s with heap := h'.push (seqObj "list" acc.toList.toArray 0), toks := tk }
  refine wpAny_bind (wpAny_holding (wpAny_call_entry PyProof.Rows.slot_list_sort ⟨_, ho, rfl⟩ PyProof.Rows.entry_list_sort
    (SrtO.list_sort_ord (s := { s with heap := h'.push (seqObj "list" acc.toList.toArray 0), toks := tk }) SrtO.swo_int ho (by rw [la, ← len]; exact small) (fun h2 => SrtO.ints_sortable hI h2) fun out g1 g2 => ⟨.none, rfl, ?_⟩) (PyProof.Rows.args_list_sort _)))
  obtain ⟨k1, k2, k3⟩ := SrtO.ints_out hI g1 g2
  obtain ⟨ep2, he⟩ := PyProof.Rows.sortedHeap_at (vs := acc.toList) (out := out.toArray) ho
  have lz : ((out.map SrtO.iv).map V.int).length ≤ sizeLine := by rw [List.length_map, k2.length_eq, ← len]; exact small
  refine wpAny_pure ⟨_, rfl, .ref h'.objs.size, upd H h'.objs.size (.lst ((out.map SrtO.iv).map V.int)), I1.laid (t' := tk) (fun b u e => ?_) (Nat.le_refl _) ⟨lz, out, ep2, vals_of_ints k1, he⟩, rfl, q _ _ k2 k3 (I1.hok.fresh (Nat.le_refl _))⟩
  have hb : b < h'.objs.size := Heap.lt_size e
  rw [PyProof.Rows.sortedHeap_old (Nat.ne_of_lt hb) (by rw [size_push']; exact Nat.lt_succ_of_lt hb)]
  exact Heap.get?_push_of_some _ e
theorem keysI : ∀ {ks : List D} {is : List Int} {l : List Key}, intsD ks = some is → ks = l.map keyD → l = is.map Sum.inl
  | _, _, [], e, h => by subst h; cases e; rfl
  | _, _, .inl i :: l, e, h => by
    subst h
    obtain ⟨js, e1, e2⟩ := Option.map_eq_some_iff.mp (show (intsD (l.map keyD)).map (i :: ·) = some _ from e)
    subst e2
    rw [keysI e1 rfl]; rfl
  | _, _, .inr x :: l, e, h => by subst h; cases e
theorem ob_sortK : OB Y rSortK (m1 mSortK) := by
  refine ob_1 (r := fun v H Q => rSortK [v] H Q) (fun gh own H x v z Q R rx h k => ?_) fun _ _ _ h => h
  match x, rx, h with
  | .d (.dic ks xs), rx, h =>
    have h : (intsD ks).map (fun is => D.lst ((isort is).map D.int)) = some z := h
    obtain ⟨is, e2, e3⟩ := Option.map_eq_some_iff.mp h
    subst e3
    have rx : Rep Y.T gh.F (.dic ks xs) v := rx
    cases rx with
    | @dic _ kvs _ _ hr ek rs =>
      refine ⟨_, kvs, is, rfl, Rd.le R.f hr, keysI (l := kvs.map (·.1)) e2 (by rw [ek, List.map_map]; rfl), fun ns p hp hs hn => ?_⟩
      have e : ns = isort is := rise_uniq (hp.trans (isort_perm is).symm) hs (isort_le is)
      subst e
      obtain ⟨R2, e2⟩ := R.new hn (.lst ((isort is).map V.int))
      exact k _ _ _ R2 e2 (.lst upd_same (reps_int _))
    | ldic => cases e2
end
end Gx
end T_GxX6
section T_Pg1
set_option Elab.async false
set_option linter.all false
set_option maxRecDepth 100000
set_option maxHeartbeats 8000000
set_option pp.maxSteps 300
namespace Pg
open PySem Gx
def F_is_integer : FM := runDef 1
  ((sRet (eAnd (eCB (m2 mIsi) (aCons (eV 0) (aCons (eK (.ty 0)) aNil))) (eNot (eCB (m2 mIsi) (aCons (eV 0) (aCons (eK (.ty 1)) aNil)))))))
def F_is_from : FM := runDef 3
  ((sRet (eAnd (eCallD 1 F_is_integer (aCons (eV 0) aNil)) (eCh mLe mLe (eV 1) (eV 0) (eV 2)))))
def F_is_one_of : FM := runDef 2
  ((sRet (eAnd (eCB (m2 mIsi) (aCons (eV 0) (aCons (eK (.ty 2)) aNil))) (eB (mIn false) (eV 0) (eV 1)))))
def F_Fleet_init : FM := runDef 5
  ((sSeq (sIf (tNot (tE (eCallD 2 F_is_one_of (aCons (eV 1) (aCons (eK (.tup [.str "ring", .str "row"])) aNil)))))
    (sRaise 10 aNil)
    sNil)
    (sSeq (sIf (tOr (tNot (tE (eCB (m2 mIsi) (aCons (eV 2) (aCons (eK (.ty 3)) aNil))))) (tNot (tE (eCh mLe mLe (eK (.int 1)) (eCB (m1 mLen) (aCons (eV 2) aNil)) (eK (.int 2))))))
    (sRaise 11 aNil)
    sNil)
    (sSeq (sIf (tOr (tNot (tE (eCB (m1 mAll) (aCons (eLC (iSeq (eV 2)) [4] (tgN 4) tTrue (eCallD 3 F_is_from (aCons (eV 4) (aCons (eK (.int 1)) (aCons (eK (.int 4)) aNil))))) aNil)))) (tE (eB mGt (eB mIx (eV 2) (eK (.int 0))) (eB mIx (eV 2) (eU mNeg (eK (.int 1)))))))
    (sRaise 11 aNil)
    sNil)
    (sSeq (sIf (tNot (tE (eCallD 3 F_is_from (aCons (eV 3) (aCons (eK (.int 0)) (aCons (eK (.int 1)) aNil))))))
    (sRaise 12 aNil)
    sNil)
    (sSeq (sFldS 0 0 (eV 0) (eV 1))
    (sSeq (sFldS 0 1 (eV 0) (eV 2))
    (sFldS 0 2 (eV 0) (eV 3)))))))))
def F_check_number : FM := runDef 2
  ((sIf (tNot (tE (eCallD 3 F_is_from (aCons (eV 0) (aCons (eK (.int 0)) (aCons (eV 1) aNil))))))
    (sRaise 13 aNil)
    sNil))
def F_spans : FM := runDef 10
  ((sSeq (sIf (tE (eB mEq (eFld 0 0 (eV 0)) (eK (.str "row"))))
    (sSet 4 (eLC (iRg1 (aCons (eB mAdd (eB mSub (eV 1) (eV 2)) (eK (.int 1))) aNil)) [6] (tgN 6) tTrue (eTupR (rg2 (eV 6) (eB mAdd (eV 6) (eV 2))))))
    (sSeq (sSet 5 (eIf (tE (eB mGt (eV 2) (eV 1))) (eK (.int 0)) (eIf (tE (eB mEq (eV 2) (eV 1))) (eK (.int 1)) (eV 1))))
    (sSet 4 (eCB (m1 (mSortT (.U .I))) (aCons (eLC (iRg1 (aCons (eV 5) aNil)) [6] (tgN 6) tTrue (eCB (m1 mTupC) (aCons (eCB (m1 mSortI) (aCons (eLC (iRg1 (aCons (eV 2) aNil)) [7] (tgN 7) tTrue (eB mMod (eB mAdd (eV 6) (eV 7)) (eV 1))) aNil)) aNil))) aNil)))))
    (sRet (eLC (iSeq (eV 4)) [8] (tgN 8) (tNot (tE (eCB (m1 mAny) (aCons (eLC (iSeq (eV 8)) [9] (tgN 9) tTrue (eB (mIn false) (eV 9) (eV 3))) aNil)))) (eV 8)))))
def F_are_next : FM := runDef 4
  ((sRet (eOr (eB mEq (eCB (m1 mAbs) (aCons (eB mSub (eV 2) (eV 3)) aNil)) (eK (.int 1))) (eAnd (eB mEq (eFld 0 0 (eV 0)) (eK (.str "ring"))) (eB mEq (eCB (m1 mAbs) (aCons (eB mSub (eV 2) (eV 3)) aNil)) (eB mSub (eV 1) (eK (.int 1))))))))
def F_can_both : FM := runDef 6
  ((sSeq (sIf (tE (eCB (m1 mAny) (aCons (eLC (iSeq (eV 2)) [4] (tgN 4) tTrue (eB (mIn false) (eV 4) (eV 3))) aNil)))
    (sRet (eK (.bl false)))
    sNil)
    (sRet (eOr (eB mEq (eFld 0 2 (eV 0)) (eK (.int 0))) (eNot (eCB (m1 mAny) (aCons (eLC2 (iSeq (eV 2)) [4, 5] (tgN 4) tTrue (iSeq (eV 3)) [5] (tgN 5) tTrue (eCallD 4 F_are_next (aCons (eV 0) (aCons (eV 1) (aCons (eV 4) (aCons (eV 5) aNil)))))) aNil)))))))
def F_all_places : FM := runDef 10
  ((sSeq (sSet 3 (eCallD 4 F_spans (aCons (eV 0) (aCons (eV 1) (aCons (eB mIx (eFld 0 1 (eV 0)) (eK (.int 0))) (aCons (eV 2) aNil))))))
    (sSeq (sIf (tE (eB mEq (eCB (m1 mLen) (aCons (eFld 0 1 (eV 0)) aNil)) (eK (.int 1))))
    (sRet (eLC (iSeq (eV 3)) [7] (tgN 7) tTrue (eTup (aCons (eV 7) aNil))))
    sNil)
    (sSeq (sSet 4 (eCallD 4 F_spans (aCons (eV 0) (aCons (eV 1) (aCons (eB mIx (eFld 0 1 (eV 0)) (eK (.int 1))) (aCons (eV 2) aNil))))))
    (sSeq (sSet 5 (eB mEq (eB mIx (eFld 0 1 (eV 0)) (eK (.int 0))) (eB mIx (eFld 0 1 (eV 0)) (eK (.int 1)))))
    (sSeq (sSet 6 (eLstH aNil))
    (sSeq (sFor (iSeq (eV 3)) (tgN 7) (sSeq (sSet 8 (eLC (iSeq (eV 4)) [9] (tgN 9) (tOr (tNot (tE (eV 5))) (tE (eB (mLtT (.U .I)) (eV 7) (eV 9)))) (eV 9)))
    (sExpr (eMut mmExt (eV 6) (aCons (eLC (iSeq (eV 8)) [9] (tgN 9) (tE (eCallD 4 F_can_both (aCons (eV 0) (aCons (eV 1) (aCons (eV 7) (aCons (eV 9) aNil)))))) (eTup (aCons (eV 7) (aCons (eV 9) aNil)))) aNil)))))
    (sRet (eV 6)))))))))
def F_divisor : FM := runDef 2
  ((sSeq (whL (tE (eB mNe (eV 1) (eK (.int 0)))) (sPar [0, 1] (aCons (eV 1) (aCons (eB mMod (eV 0) (eV 1)) aNil))) 1000)
    (sRet (eV 0))))
def F_check_order : FM := runDef 5
  ((sSeq (sSet 2 eDicH)
    (sFor (iEnum (eV 1)) (tgU [3, 4]) (sSeq (sIf (tOr (tNot (tE (eCallD 3 F_is_from (aCons (eV 4) (aCons (eK (.int 0)) (aCons (eB mSub (eV 0) (eK (.int 1))) aNil)))))) (tE (eB (mIn false) (eV 4) (eV 2))))
    (sRaise 16 (aCons (eV 3) aNil))
    sNil)
    (sPutD (eV 2) (eV 4) (eK (.bl true)))))))
def F_misses_of : FM := runDef 5
  ((sSeq (sFor (iEnum (eV 1)) (tgU [2, 3]) (sIf (tE (eCB (m1 mAny) (aCons (eLC (iSeq (eV 0)) [4] (tgN 4) tTrue (eB (mIn false) (eV 3) (eV 4))) aNil)))
    (sRet (eV 2))
    sNil))
    (sRet (eCB (m1 mLen) (aCons (eV 1) aNil)))))
def F_longest : FM := runDef 6
  ((sSeq (sExpr (eCallD 2 F_check_number (aCons (eV 1) (aCons (eK (.int 40)) aNil))))
    (sSeq (sExpr (eCallD 2 F_check_order (aCons (eV 1) (aCons (eV 2) aNil))))
    (sSeq (sSet 3 (eK .non))
    (sSeq (sFor (iSeq (eCallD 3 F_all_places (aCons (eV 0) (aCons (eV 1) (aCons eDic0 aNil))))) (tgN 4) (sSeq (sSet 5 (eCallD 2 F_misses_of (aCons (eV 4) (aCons (eV 2) aNil))))
    (sIf (tOr (tE (eB mIsN (eV 3) (eK .non))) (tE (eB mGt (eV 5) (eB mIx (eV 3) (eK (.int 0))))))
    (sSet 3 (eTup (aCons (eV 5) (aCons (eV 4) aNil))))
    sNil)))
    (sRet (eV 3)))))))
def F_mean : FM := runDef 8
  ((sSeq (sExpr (eCallD 2 F_check_number (aCons (eV 1) (aCons (eK (.int 40)) aNil))))
    (sSeq (sExpr (eCallD 2 F_check_order (aCons (eV 1) (aCons (eV 2) aNil))))
    (sSeq (sSet 3 (eLC (iSeq (eCallD 3 F_all_places (aCons (eV 0) (aCons (eV 1) (aCons eDic0 aNil))))) [7] (tgN 7) tTrue (eCallD 2 F_misses_of (aCons (eV 7) (aCons (eV 2) aNil)))))
    (sSeq (sIf (tOr (tE (eB mEq (eV 3) (eLst aNil))) (tE (eB mEq (eCB (m1 mMaxL) (aCons (eV 3) aNil)) (eCB (m1 mLen) (aCons (eV 2) aNil)))))
    (sRet (eK .non))
    sNil)
    (sSeq (sPar [4, 5] (aCons (eB mAdd (eCB (m1 mSum) (aCons (eV 3) aNil)) (eCB (m1 mLen) (aCons (eV 3) aNil))) (aCons (eCB (m1 mLen) (aCons (eV 3) aNil)) aNil)))
    (sSeq (sSet 6 (eCallD 2 F_divisor (aCons (eV 4) (aCons (eV 5) aNil))))
    (sRet (eTup (aCons (eB mFdiv (eV 4) (eV 6)) (aCons (eB mFdiv (eV 5) (eV 6)) aNil)))))))))))
def F__law_pick : FM := runDef 4
  ((sSeq (sIf (tE (eB mEq (eB mIx (eV 0) (eK (.int 2))) (eK (.int 0))))
    (sIf (tE (eB mLt (eB mIx (eV 0) (eK (.int 1))) (eCB (m1 mLen) (aCons (eB mIx (eV 0) (eK (.int 0))) aNil))))
    (sSeq (sSet 2 (eB mIx (eB mIx (eV 0) (eK (.int 0))) (eB mIx (eV 0) (eK (.int 1)))))
    (sSeq (sPutL (eV 0) (eK (.int 1)) (eB mAdd (eB mIx (eV 0) (eK (.int 1))) (eK (.int 1))))
    (sIf (tE (eB mGe (eV 2) (eB mPow (eK (.int 10)) (eK (.int 18)))))
    (sPutL (eV 0) (eK (.int 2)) (eV 2))
    (sPutL (eV 0) (eK (.int 3)) (eB mMod (eCB (m1 mInt) (aCons (eB mAdd (eB mAdd (eB mMul (eB mIx (eV 0) (eK (.int 3))) (eK (.int 48271))) (eB mMul (eV 2) (eK (.int 69621)))) (eK (.int 11))) aNil)) (eK (.int 2147483647)))))))
    (sPutL (eV 0) (eK (.int 3)) (eB mMod (eCB (m1 mInt) (aCons (eB mAdd (eB mMul (eB mIx (eV 0) (eK (.int 3))) (eK (.int 48271))) (eK (.int 7))) aNil)) (eK (.int 2147483647)))))
    sNil)
    (sSeq (sIf (tE (eB mGt (eB mIx (eV 0) (eK (.int 2))) (eK (.int 0))))
    (sSeq (sSet 3 (eB mMod (eCB (m1 mInt) (aCons (eB mIx (eV 0) (eK (.int 2))) aNil)) (eV 1)))
    (sSeq (sPutL (eV 0) (eK (.int 2)) (eB mFdiv (eB mIx (eV 0) (eK (.int 2))) (eV 1)))
    (sRet (eV 3))))
    sNil)
    (sRet (eB mMod (eB mMod (eCB (m1 mInt) (aCons (eB mMul (eB mIx (eV 0) (eK (.int 3))) (eK (.int 16807))) aNil)) (eK (.int 2147483629))) (eV 1))))))
def F__law_fleet : FM := runDef 4
  ((sSeq (sPar [1, 2] (aCons (eB mAdd (eK (.int 1)) (eCallZ 2 F__law_pick (aCons (eV 0) (aCons (eK (.int 4)) aNil)))) (aCons (eB mAdd (eK (.int 1)) (eCallZ 2 F__law_pick (aCons (eV 0) (aCons (eK (.int 4)) aNil)))) aNil)))
    (sSeq (sSet 3 (eB mIx (eLst (aCons (eTup (aCons (eV 1) aNil)) (aCons (eTup (aCons (eCB (m2 mMin2) (aCons (eV 1) (aCons (eV 2) aNil))) (aCons (eCB (m2 mMax2) (aCons (eV 1) (aCons (eV 2) aNil))) aNil))) (aCons (eTup (aCons (eV 1) (aCons (eV 1) aNil))) aNil)))) (eCallZ 2 F__law_pick (aCons (eV 0) (aCons (eK (.int 3)) aNil)))))
    (sRet (eDisp [((eK (.str "shape")), (eB mIx (eLst (aCons (eK (.str "row")) (aCons (eK (.str "ring")) aNil))) (eCallZ 2 F__law_pick (aCons (eV 0) (aCons (eK (.int 2)) aNil))))), ((eK (.str "ships")), (eV 3)), ((eK (.str "gap")), (eCallZ 2 F__law_pick (aCons (eV 0) (aCons (eK (.int 2)) aNil))))])))))
def F__law_made : FM := runDef 1
  ((sRet (eMakeD 0 3 F_Fleet_init (aCons (eB mIx (eV 0) (eK (.str "shape"))) (aCons (eB mIx (eV 0) (eK (.str "ships"))) (aCons (eB mIx (eV 0) (eK (.str "gap"))) aNil))))))
def F__law_spans : FM := runDef 7
  ((sSeq (sSet 3 (eLstH aNil))
    (sSeq (sFor (iRg1 (aCons (eV 1) aNil)) (tgN 4) (sIf (tOr (tE (eB mLe (eB mAdd (eV 4) (eV 2)) (eV 1))) (tAnd (tE (eB mEq (eB mIx (eV 0) (eK (.str "shape"))) (eK (.str "ring")))) (tE (eB mLe (eV 2) (eV 1)))))
    (sSeq (sSet 5 (eCB (m1 mTupC) (aCons (eCB (m1 mSortI) (aCons (eLC (iRg1 (aCons (eV 2) aNil)) [6] (tgN 6) tTrue (eB mMod (eB mAdd (eV 4) (eV 6)) (eV 1))) aNil)) aNil)))
    (sIf (tE (eB (mIn true) (eV 5) (eV 3)))
    (sExpr (eMut mmApp (eV 3) (aCons (eV 5) aNil)))
    sNil))
    sNil))
    (sRet (eCB (m1 (mSortT (.U .I))) (aCons (eV 3) aNil))))))
def F__law_apart : FM := runDef 7
  ((sSeq (sFor (iSeq (eV 2)) (tgN 4) (sSeq (sIf (tE (eB (mIn false) (eV 4) (eV 3)))
    (sRet (eK (.bl false)))
    sNil)
    (sIf (tE (eB mEq (eB mIx (eV 0) (eK (.str "gap"))) (eK (.int 1))))
    (sSeq (sSet 5 (eLst (aCons (eB mSub (eV 4) (eK (.int 1))) (aCons (eB mAdd (eV 4) (eK (.int 1))) aNil))))
    (sSeq (sIf (tE (eB mEq (eB mIx (eV 0) (eK (.str "shape"))) (eK (.str "ring"))))
    (sSet 5 (eLst (aCons (eB mMod (eB mSub (eV 4) (eK (.int 1))) (eV 1)) (aCons (eB mMod (eB mAdd (eV 4) (eK (.int 1))) (eV 1)) aNil))))
    sNil)
    (sIf (tE (eB mNe (eLC (iSeq (eV 5)) [6] (tgN 6) (tE (eB (mIn false) (eV 6) (eV 3))) (eV 6)) (eLst aNil)))
    (sRet (eK (.bl false)))
    sNil)))
    sNil)))
    (sRet (eK (.bl true)))))
def F__law_places : FM := runDef 8
  ((sSeq (sSet 2 (eLC (iSeq (eB mIx (eV 0) (eK (.str "ships")))) [6] (tgN 6) tTrue (eCallD 3 F__law_spans (aCons (eV 0) (aCons (eV 1) (aCons (eV 6) aNil))))))
    (sSeq (sIf (tE (eB mEq (eCB (m1 mLen) (aCons (eV 2) aNil)) (eK (.int 1))))
    (sRet (eLC (iSeq (eB mIx (eV 2) (eK (.int 0)))) [7] (tgN 7) tTrue (eTup (aCons (eV 7) aNil))))
    sNil)
    (sSeq (sSet 3 (eLstH aNil))
    (sSeq (sFor (iSeq (eB mIx (eV 2) (eK (.int 0)))) (tgN 4) (sFor (iSeq (eB mIx (eV 2) (eK (.int 1)))) (tgN 5) (sIf (tAnd (tE (eCallD 4 F__law_apart (aCons (eV 0) (aCons (eV 1) (aCons (eV 4) (aCons (eV 5) aNil)))))) (tOr (tE (eB mLt (eB mIx (eB mIx (eV 0) (eK (.str "ships"))) (eK (.int 0))) (eB mIx (eB mIx (eV 0) (eK (.str "ships"))) (eK (.int 1))))) (tE (eB (mLtT (.U .I)) (eV 4) (eV 5)))))
    (sExpr (eMut mmApp (eV 3) (aCons (eTup (aCons (eV 4) (aCons (eV 5) aNil))) aNil)))
    sNil)))
    (sRet (eCB (m1 (mSortT (.U (.U .I)))) (aCons (eV 3) aNil))))))))
def F__law_common : FM := runDef 2
  ((sSeq (whL (tE (eB mGt (eV 1) (eK (.int 0)))) (sPar [0, 1] (aCons (eV 1) (aCons (eB mMod (eV 0) (eV 1)) aNil))) 1000)
    (sRet (eV 0))))
def F__law_word : FM := runDef 6
  ((sSeq (sFor (iSeq (eV 0)) (tgN 3) (sIf (tE (eB (mIn false) (eV 1) (eV 3)))
    (sSeq (sSet 4 (eLC (iSeq (eV 3)) [5] (tgN 5) (tAnd (tE (eB mNe (eV 5) (eV 1))) (tE (eB (mIn true) (eV 5) (eV 2)))) (eV 5)))
    (sRet (eIf (tE (eB mNe (eV 4) (eLst aNil))) (eK (.str "hit")) (eK (.str "sunk")))))
    sNil))
    (sRet (eK (.str "miss")))))
end Pg
end T_Pg1
section T_Mx1
set_option Elab.async false
set_option linter.all false
set_option maxRecDepth 100000
set_option maxHeartbeats 4000000
namespace Mx
open PySem Gx Pg
theorem any_bl {α : Type} {own : Own} (p : α → Bool) (l : List α) : mAny own (.d (.lst (l.map fun x => D.bl (p x)))) = some (.bl (l.any p)) := by
  have e : (l.map fun x => D.bl (p x)) = (l.map p).map D.bl := by rw [List.map_map]; rfl
  rw [e]
  show ((some ((l.map p).map D.bl)).bind fun ds => (blsD ds).map fun bs => D.bl (bs.any id)) = _
  rw [Option.bind_some, blsD_of, Option.map_some, List.any_map]
  rfl
theorem all_bl {α : Type} {own : Own} (p : α → Bool) (l : List α) : mAll own (.d (.lst (l.map fun x => D.bl (p x)))) = some (.bl (l.all p)) := by
  have e : (l.map fun x => D.bl (p x)) = (l.map p).map D.bl := by rw [List.map_map]; rfl
  rw [e]
  show ((some ((l.map p).map D.bl)).bind fun ds => (blsD ds).map fun bs => D.bl (bs.all id)) = _
  rw [Option.bind_some, blsD_of, Option.map_some, List.all_map]
  rfl
/-- keys, with some values -/
theorem getK_ints {c : Int} : ∀ (l : List Int) (xs : List D), xs.length = l.length → (getK (.inl c) (l.map D.int) xs).isSome = decide (c ∈ l)
  | [], [], _ => rfl
  | i :: l, x :: xs, h => by
    have ih := getK_ints (c := c) l xs (by simpa using h)
    show (if (Sum.inl c : L2.Key) = .inl i then some x else getK (.inl c) (l.map D.int) xs).isSome = _
    by_cases e : c = i
    · subst e; simp
    · rw [if_neg (fun z => e (Sum.inl.inj z)), ih]
      simp [e]
theorem in_dI {own : Own} {c : Int} {l : List Int} {xs : List D} {neg : Bool} (h : xs.length = l.length) : mIn neg own (.d (.int c)) (.d (.dic (l.map D.int) xs)) = some (.bl (decide (c ∈ l) != neg)) := by
  have hu : unM (l.map D.int) = l.map D.int := by cases l <;> rfl
  show ((keyOf (.int c)).map fun k => D.bl ((getK k (unM (l.map D.int)) xs).isSome != neg)) = _
  rw [hu]
  show some (D.bl ((getK (.inl c) (l.map D.int) xs).isSome != neg)) = _
  rw [getK_ints l xs h]
/-! ## fleets -/
structure Fd where
  ring : Bool
  a : Nat
  b : Option Nat
  gap : Bool
  deriving DecidableEq
def Fd.ships (d : Fd) : List Nat := d.a :: d.b.toList
def Fd.ok (d : Fd) : Prop := 1 ≤ d.a ∧ d.a ≤ 4 ∧ ∀ b, d.b = some b → d.a ≤ b ∧ b ≤ 4
def shapeS (ring : Bool) : Str := if ring then "ring" else "row"
def Fd.shape (d : Fd) : Str := shapeS d.ring
def nI (n : Nat) : D := .int n
def Fd.shipsD (d : Fd) : D := .tup (d.ships.map nI)
def Fd.gapI (d : Fd) : Int := if d.gap then 1 else 0
def Fd.obj (d : Fd) : D := .obj 0 [.str d.shape, d.shipsD, .int d.gapI]
def Fd.dic (d : Fd) : D := .dic [.str "shape", .str "ships", .str "gap"] [.str d.shape, d.shipsD, .int d.gapI]
/-! ## spans -/
def spanAt (n L f : Nat) : List Int := isort ((List.range L).map fun k => ((f : Int) + (k : Nat)) % (n : Int))
def many (n L : Nat) : Nat := if n < L then 0 else if L = n then 1 else n
def rowSpan (L f : Nat) : List Int := (List.range L).map fun k => (f : Int) + (k : Nat)
def spansM (ring : Bool) (n L : Nat) : List (List Int) := if ring then srt lexI ((List.range (many n L)).map (spanAt n L)) else (List.range (n + 1 - L)).map (rowSpan L)
def free (shot : List Int) (c : List Int) : Bool := !(c.any fun x => decide (x ∈ shot))
theorem e_iRg1 {f : EM} {sd : Sl} {own : Own} {j : Int} (h : f sd own = some (.ok (.d (.int j)), own)) (h1 : 0 ≤ j) (h2 : j < 2 ^ 62) : iRg1 (aCons f aNil) sd own = some (.ok ((List.range j.toNat).map fun i : Nat => D.int (0 + (i : Int))), own) := by
  have ha := a_1 h
  unfold iRg1
  rw [s_bind_ok ha]
  show (if rgOk 0 j = true then M.ret (rgD 0 j.toNat) else M.fail) sd own = _
  rw [if_pos (rg_ok h1 h2)]
  rfl
theorem e_iRg1neg {f : EM} {sd : Sl} {own : Own} {j : Int} (h : f sd own = some (.ok (.d (.int j)), own)) (h1 : -(2 ^ 62) ≤ j) (h2 : j < 2 ^ 62) : iRg1 (aCons f aNil) sd own = some (.ok ((List.range j.toNat).map fun i : Nat => D.int (0 + (i : Int))), own) := by
  have ha := a_1 h
  unfold iRg1
  rw [s_bind_ok ha]
  show (if rgOk 0 j = true then M.ret (rgD 0 j.toNat) else M.fail) sd own = _
  have : rgOk 0 j = true := by unfold rgOk; simp; omega
  rw [if_pos this]
  rfl
theorem e_iSeqL {f : EM} {sd : Sl} {own : Own} {xs : List D} (h : f sd own = some (.ok (.d (.lst xs)), own)) : iSeq f sd own = some (.ok xs, own) := by
  unfold iSeq
  rw [s_bind_ok h]
  rfl
theorem e_iSeqT {f : EM} {sd : Sl} {own : Own} {xs : List D} (h : f sd own = some (.ok (.d (.tup xs)), own)) : iSeq f sd own = some (.ok xs, own) := by
  unfold iSeq
  rw [s_bind_ok h]
  rfl
theorem e_TupR {f : RM} {sd : Sl} {own : Own} {a b : Int} (h : f sd own = some (.ok (a, b), own)) (hz : rgS a b = true) : eTupR f sd own = some (.ok (.d (.tup (rgD a (b - a).toNat))), own) := by
  unfold eTupR
  rw [s_bind_ok h, s_ask, if_pos hz]
theorem rgS_of {a b : Int} (h1 : -1000000 ≤ a) (h2 : a ≤ 1000000) (h3 : -1000000 ≤ b) (h4 : b ≤ 1000000) : rgS a b = true := by
  unfold rgS
  exact decide_eq_true (by omega)
theorem e_Mod {f g : EM} {sd : Sl} {own : Own} {x y : Int} (hf : f sd own = some (.ok (.d (.int x)), own)) (hg : g sd own = some (.ok (.d (.int y)), own)) (h : 0 < y) : eB mMod f g sd own = some (.ok (.d (.int (x % y))), own) := e_B hf hg (o_mod h)
theorem small {n : Nat} (h : n ≤ 100000) : n < sizeLine := by rw [sizeL]; omega
section
variable {d : Fd} {n L : Nat} {shot : List Int} {vs : List D}
/-- the second statement: those without a shot cell -/
theorem spans_end {own : Own} {l : List (List Int)} {s0 s1 s2 s5 : Option SV} (hs : vs.length = shot.length) (hl : l.length ≤ 100000) (hc : ∀ c ∈ l, c.length ≤ 100000) :
    eLC (iSeq (eV 4)) [8] (tgN 8) (tNot (tE (eCB (m1 mAny) (aCons (eLC (iSeq (eV 8)) [9] (tgN 9) tTrue (eB (mIn false) (eV 9) (eV 3))) aNil)))) (eV 8)
      [s0, s1, s2, some (.d (.dic (shot.map D.int) vs)), some (.d (.lst (l.map tI))), s5, none, none, none, none] own = some (.ok (.d (.lst ((l.filter (free shot)).map tI))), own) := by
  refine e_LC (enc := tI) (free shot) tI (e_iSeqL rfl) (small hl) fun c hc' => ⟨_, rfl, ?_, fun _ => rfl⟩
  refine t_Not (t_E (e_C1 (e_LC0 (enc := D.int) (fun x => D.bl (decide (x ∈ shot))) (e_iSeqT rfl) (small (hc c hc')) fun x hx => ⟨_, rfl, ?_⟩) (any_bl _ _)))
  refine e_B rfl rfl ?_
  rw [in_dI hs]
  simp
end
theorem pyd_ring : PyData.strOk ("ring" : Str) = true := by decide +kernel
theorem pyd_row : PyData.strOk ("row" : Str) = true := by decide +kernel
theorem isRow {own : Own} (ring : Bool) : mEq own (.d (.str (shapeS ring))) (.d (.str "row")) = some (.bl (!ring)) := by cases ring <;> kernel_rfl
theorem isRing {own : Own} (ring : Bool) : mEq own (.d (.str (shapeS ring))) (.d (.str "ring")) = some (.bl ring) := by cases ring <;> kernel_rfl
theorem rgD_row {L f : Nat} {j : Int} (h : j = (L : Int)) : D.tup (rgD (0 + (f : Int)) j.toNat) = tI (rowSpan L f) := by
  subst h
  unfold tI rowSpan rgD
  rw [List.map_map]
  congr 1
  simp only [Int.toNat_natCast]
  apply List.map_congr_left
  intro k _
  show D.int (0 + (f : Int) + (k : Int)) = D.int ((f : Int) + (k : Nat))
  congr 1
  omega
theorem spanAt_len {n L f : Nat} : (spanAt n L f).length = L := by
  unfold spanAt
  rw [(isort_perm _).length_eq, List.length_map, List.length_range]
theorem rowSpan_len {L f : Nat} : (rowSpan L f).length = L := by
  unfold rowSpan
  rw [List.length_map, List.length_range]
theorem lex_len {l : List (List Int)} : (srt lexI l).length = l.length := (srt_stb swo_lex l).perm.length_eq
theorem spansM_len {ring : Bool} {n L : Nat} : (spansM ring n L).length ≤ n + 1 := by
  unfold spansM many
  cases ring with
  | true => 
    simp only [if_true, lex_len, List.length_map, List.length_range]
    repeat' split
    all_goals omega
  | false => simp
theorem spansM_mem {ring : Bool} {n L : Nat} {c : List Int} (h : c ∈ spansM ring n L) : c.length = L := by
  unfold spansM at h
  cases ring with
  | true =>
    rw [if_pos rfl] at h
    have h := (srt_stb swo_lex _).perm.mem_iff.mp h
    obtain ⟨f, _, rfl⟩ := List.mem_map.mp h
    exact spanAt_len
  | false =>
    rw [if_neg Bool.false_ne_true] at h
    obtain ⟨f, _, rfl⟩ := List.mem_map.mp h
    exact rowSpan_len
section
variable {d : Fd} {n L : Nat} {shot : List Int} {vs : List D}
theorem spans_run (hn : n ≤ 10000) (h1 : 1 ≤ L) (hL : L ≤ 4) (hs : vs.length = shot.length) : F_spans [.d d.obj, .d (.int n), .d (.int L), .d (.dic (shot.map D.int) vs)] [] = some (.ok (.d (.lst (((spansM d.ring n L).filter (free shot)).map tI))), []) := by
  unfold F_spans
  refine run_rt ?_
  show sSeq _ _ [some (.d d.obj), some (.d (.int n)), some (.d (.int L)), some (.d (.dic (shot.map D.int) vs)), none, none, none, none, none, none] [] = _
  have fin : ∀ s5 l, l = spansM d.ring n L → sRet (eLC (iSeq (eV 4)) [8] (tgN 8) (tNot (tE (eCB (m1 mAny) (aCons (eLC (iSeq (eV 8)) [9] (tgN 9) tTrue (eB (mIn false) (eV 9) (eV 3))) aNil)))) (eV 8))
      [some (.d d.obj), some (.d (.int n)), some (.d (.int L)), some (.d (.dic (shot.map D.int) vs)), some (.d (.lst (l.map tI))), s5, none, none, none, none] [] = some (.rt (.d (.lst (((spansM d.ring n L).filter (free shot)).map tI))) []) := by
    intro s5 l e
    subst e
    have := spansM_len (ring := d.ring) (n := n) (L := L)
    exact st_Ret (spans_end hs (by omega) fun c hc => by rw [spansM_mem hc]; omega)
  cases hr : d.ring with
  | false =>
    have c1 : tE (eB mEq (eFld 0 0 (eV 0)) (eK (.str "row"))) [some (.d d.obj), some (.d (.int n)), some (.d (.int L)), some (.d (.dic (shot.map D.int) vs)), none, none, none, none, none, none] [] = some (.ok true, []) := by
      have e := isRow (own := []) d.ring
      rw [hr] at e
      exact t_E (e_B (x := .d (.str d.shape)) rfl rfl (by unfold Fd.shape; rw [hr]; exact e))
    rw [st_Seq ((st_IfT c1).trans (st_Set (e_LCm (enc := fun i : Nat => D.int (0 + (i : Int))) (enc1 := tI) (rowSpan L) (e_iRg1neg (j := (n : Int) - L + 1) rfl (by omega) (by omega)) (by rw [List.length_range]; exact small (by omega)) fun f hf => ⟨_, rfl, ?_⟩)))]
    · refine (fin none _ ?_).trans (by rw [hr])
      rw [hr]
      unfold spansM
      have : ((n : Int) - L + 1).toNat = n + 1 - L := by omega
      rw [this]
      rfl
    · have hf := List.mem_range.mp hf
      refine (e_TupR (a := 0 + (f : Int)) (b := 0 + (f : Int) + L) rfl (rgS_of (by omega) (by omega) (by omega) (by omega))).trans ?_
      rw [rgD_row (L := L) (j := 0 + (f : Int) + L - (0 + (f : Int))) (by omega)]
  | true =>
    have c1 : tE (eB mEq (eFld 0 0 (eV 0)) (eK (.str "row"))) [some (.d d.obj), some (.d (.int n)), some (.d (.int L)), some (.d (.dic (shot.map D.int) vs)), none, none, none, none, none, none] [] = some (.ok false, []) := by
      have e := isRow (own := []) d.ring
      rw [hr] at e
      exact t_E (e_B (x := .d (.str d.shape)) rfl rfl (by unfold Fd.shape; rw [hr]; exact e))
    have c2 : eIf (tE (eB mGt (eV 2) (eV 1))) (eK (.int 0)) (eIf (tE (eB mEq (eV 2) (eV 1))) (eK (.int 1)) (eV 1)) [some (.d d.obj), some (.d (.int n)), some (.d (.int L)), some (.d (.dic (shot.map D.int) vs)), none, none, none, none, none, none] [] = some (.ok (.d (.int (many n L : Nat))), []) := by
      have e1 : tE (eB mGt (eV 2) (eV 1)) [some (.d d.obj), some (.d (.int n)), some (.d (.int L)), some (.d (.dic (shot.map D.int) vs)), none, none, none, none, none, none] [] = some (.ok (decide ((n : Int) < L)), []) := rfl
      have e2 : tE (eB mEq (eV 2) (eV 1)) [some (.d d.obj), some (.d (.int n)), some (.d (.int L)), some (.d (.dic (shot.map D.int) vs)), none, none, none, none, none, none] [] = some (.ok ((L : Int) == n), []) := rfl
      unfold many
      rw [s_eIf, s_bind_ok e1]
      by_cases h1 : n < L
      · rw [if_pos h1, decide_eq_true (by omega)]; rfl
      · rw [if_neg h1, decide_eq_false (by omega)]
        show eIf _ _ _ _ _ = _
        rw [s_eIf, s_bind_ok e2]
        by_cases h2 : L = n
        · rw [if_pos h2]
          have : ((L : Int) == n) = true := by simp [h2]
          rw [this]; rfl
        · rw [if_neg h2]
          have : ((L : Int) == n) = false := by simp; omega
          rw [this]; rfl
    have hm : many n L ≤ n + 1 := by
      unfold many
      repeat' split
      all_goals omega
    rw [st_Seq ((st_IfF c1).trans ((st_Seq (st_Set c2)).trans (st_Set (e_C1 (e_LCm (enc := fun i : Nat => D.int (0 + (i : Int))) (enc1 := tI) (spanAt n L) (e_iRg1 (j := (many n L : Nat)) rfl (by omega) (by omega)) (by rw [List.length_range]; exact small (by omega)) fun f hf => ⟨_, rfl, ?_⟩) (d := .lst ((srt lexI ((List.range (many n L)).map (spanAt n L))).map tI)) ?_))))]
    · refine (fin _ _ ?_).trans (by rw [hr])
      rw [hr]
      rfl
    · refine o_sortUI (own := []) (l := (List.range (many n L)).map (spanAt n L)) fun x hx z => ?_
      obtain ⟨f, _, rfl⟩ := List.mem_map.mp hx
      have := congrArg List.length z
      rw [spanAt_len] at this
      simp at this
      omega
    · have hf := List.mem_range.mp hf
      have hn0 : 0 < n := by
        unfold many at hf
        split at hf
        · omega
        · split at hf <;> omega
      refine e_C1 (x := .d (lI (spanAt n L f))) ?_ rfl
      refine e_C1 (x := .d (lI ((List.range L).map fun k => ((f : Int) + (k : Nat)) % (n : Int)))) ?_ (o_sortI _)
      have e := e_LC0 (own := ([] : Own)) (sd := [some (.d d.obj), some (.d (.int n)), some (.d (.int L)), some (.d (.dic (shot.map D.int) vs)), none, some (.d (.int (many n L : Nat))), some (.d (.int (0 + (f : Int)))), none, none, none]) (src := iRg1 (aCons (eV 2) aNil)) (vs := [7]) (tg := tgN 7) (f := eB mMod (eB mAdd (eV 6) (eV 7)) (eV 1))
        (enc := fun i : Nat => D.int (0 + (i : Int))) (fun k => D.int (((f : Int) + (k : Nat)) % (n : Int))) (e_iRg1 (j := (L : Int)) rfl (by omega) (by omega)) (by rw [List.length_range]; exact small (by omega)) fun k hk => ⟨_, rfl, by
          have := e_Mod (f := eB mAdd (eV 6) (eV 7)) (g := eV 1) (own := ([] : Own)) (sd := [some (.d d.obj), some (.d (.int n)), some (.d (.int L)), some (.d (.dic (shot.map D.int) vs)), none, some (.d (.int (many n L : Nat))), some (.d (.int (0 + (f : Int)))), some (.d (.int (0 + (k : Int)))), none, none]) (x := 0 + (f : Int) + (0 + (k : Int))) (y := n) rfl rfl (by omega)
          have e2 : (0 + (f : Int) + (0 + (k : Int))) = (f : Int) + (k : Nat) := by omega
          rw [e2] at this
          exact this⟩
      refine e.trans ?_
      unfold lI
      rw [List.map_map]
      rfl
end
end Mx
end T_Mx1
section T_Mx2
set_option Elab.async false
set_option linter.all false
set_option maxRecDepth 100000
set_option maxHeartbeats 4000000
namespace Mx
open PySem Gx Pg
def absI (x : Int) : Int := if x < 0 then -x else x
def nextTo (ring : Bool) (n : Nat) (x y : Int) : Bool := decide (absI (x - y) = 1) || (ring && decide (absI (x - y) = n - 1))
theorem eqi (a b : Int) : (a == b) = decide (a = b) := by
  by_cases c : a = b
  · subst c; simp
  · simp [c]
theorem e_Or {f g : EM} {sd : Sl} {own : Own} {a b : Bool} (hf : f sd own = some (.ok (.d (.bl a)), own)) (hg : a = false → g sd own = some (.ok (.d (.bl b)), own)) : eOr f g sd own = some (.ok (.d (.bl (a || b))), own) := by
  rw [s_eOr, s_bind_ok hf]
  cases a with
  | true => rfl
  | false => exact hg rfl
theorem e_And {f g : EM} {sd : Sl} {own : Own} {a b : Bool} (hf : f sd own = some (.ok (.d (.bl a)), own)) (hg : a = true → g sd own = some (.ok (.d (.bl b)), own)) : eAnd f g sd own = some (.ok (.d (.bl (a && b))), own) := by
  rw [s_eAnd, s_bind_ok hf]
  cases a with
  | false => rfl
  | true => exact hg rfl
theorem e_Not {f : EM} {sd : Sl} {own : Own} {a : Bool} (hf : f sd own = some (.ok (.d (.bl a)), own)) : eNot f sd own = some (.ok (.d (.bl (!a))), own) := by
  rw [s_eNot, s_bind_ok hf]
  rfl
theorem t_OrB {f g : TM} {sd : Sl} {own : Own} {a b : Bool} (hf : f sd own = some (.ok a, own)) (hg : a = false → g sd own = some (.ok b, own)) : tOr f g sd own = some (.ok (a || b), own) := by
  rw [s_tOr, s_bind_ok hf]
  cases a with
  | true => rfl
  | false => exact hg rfl
theorem t_AndB {f g : TM} {sd : Sl} {own : Own} {a b : Bool} (hf : f sd own = some (.ok a, own)) (hg : a = true → g sd own = some (.ok b, own)) : tAnd f g sd own = some (.ok (a && b), own) := by
  rw [s_tAnd, s_bind_ok hf]
  cases a with
  | false => rfl
  | true => exact hg rfl
theorem e_If {c : TM} {f g : EM} {sd : Sl} {own : Own} {b : Bool} {x y : SV} (hc : c sd own = some (.ok b, own)) (hf : b = true → f sd own = some (.ok x, own)) (hg : b = false → g sd own = some (.ok y, own)) : eIf c f g sd own = some (.ok (if b = true then x else y), own) := by
  rw [s_eIf, s_bind_ok hc]
  cases b with
  | false => exact hg rfl
  | true => exact hf rfl
/-- a test then two ways that both end so -/
theorem st_IfB {c : TM} {p q : SM} {sd : Sl} {own : Own} {b : Bool} {r : Option Fl} (hc : c sd own = some (.ok b, own)) (hp : b = true → p sd own = r) (hq : b = false → q sd own = r) : sIf c p q sd own = r := by
  rw [st_If hc]
  cases b with
  | false => exact hq rfl
  | true => exact hp rfl
section
variable {d : Fd} {n : Nat}
theorem next_run {x y : Int} : F_are_next [.d d.obj, .d (.int n), .d (.int x), .d (.int y)] [] = some (.ok (.d (.bl (nextTo d.ring n x y))), []) := by
  unfold F_are_next
  refine run_rt (st_Ret ?_)
  unfold nextTo
  refine e_Or (a := decide (absI (x - y) = 1)) ?_ fun _ => e_And (a := d.ring) ?_ fun _ => ?_
  · refine (show eB mEq _ _ _ _ = some (.ok (.d (.bl (absI (x - y) == 1))), []) from rfl).trans ?_
    rw [eqi]
  · exact e_B (x := .d (.str d.shape)) rfl rfl (isRing d.ring)
  · refine (show eB mEq _ _ _ _ = some (.ok (.d (.bl (absI (x - y) == (n : Int) - 1))), []) from rfl).trans ?_
    rw [eqi]
theorem c_next {x y : Int} (sd : Sl) (own : Own) : callD 4 F_are_next [.d d.obj, .d (.int n), .d (.int x), .d (.int y)] sd own = some (.ok (.d (.bl (nextTo d.ring n x y))), own) := cD (ds := [d.obj, .int n, .int x, .int y]) rfl rfl next_run sd own
def canB (d : Fd) (n : Nat) (one two : List Int) : Bool := if (one.any fun x => decide (x ∈ two)) = true then false else !d.gap || !(one.any fun c => two.any fun f => nextTo d.ring n c f)
theorem any_bl2 {α β : Type} {own : Own} (p : α → β → Bool) (ys : List β) : ∀ l : List α, mAny own (.d (.lst ((l.filter fun _ => true).flatMap fun x => (ys.filter fun _ => true).map fun y => D.bl (p x y)))) = some (.bl (l.any fun x => ys.any (p x))) := by
  intro l
  have e : ((l.filter fun _ => true).flatMap fun x => (ys.filter fun _ => true).map fun y => D.bl (p x y)) = (l.flatMap fun x => ys.map fun y => p x y).map D.bl := by
    rw [List.filter_eq_self.mpr (fun _ _ => rfl), List.filter_eq_self.mpr (fun _ _ => rfl), List.map_flatMap]
    congr 1
    funext x
    rw [List.map_map]
    rfl
  rw [e]
  show ((some (_)).bind fun ds => (blsD ds).map fun bs => D.bl (bs.any id)) = _
  rw [Option.bind_some, blsD_of, Option.map_some, List.any_flatMap]
  congr 3
  funext x
  rw [List.any_map]
  rfl
theorem sum_small {α β : Type} (f : α → List β) (m k : Nat) : ∀ l : List α, l.length ≤ k → (∀ x ∈ l, (f x).length ≤ m) → (l.flatMap f).length ≤ k * m
  | [], _, _ => Nat.zero_le _
  | x :: l, h, hm => by
    cases k with
    | zero => simp at h
    | succ k =>
      have ih := sum_small f m k l (by simpa using h) fun y hy => hm y (List.mem_cons_of_mem _ hy)
      have h1 := hm x List.mem_cons_self
      rw [List.flatMap_cons, List.length_append, Nat.succ_mul]
      omega
theorem gap0 {own : Own} (d : Fd) : mEq own (.d (.int d.gapI)) (.d (.int 0)) = some (.bl (!d.gap)) := by
  unfold Fd.gapI
  cases d.gap <;> rfl
theorem gap1 {own : Own} (d : Fd) : mEq own (.d (.int d.gapI)) (.d (.int 1)) = some (.bl d.gap) := by
  unfold Fd.gapI
  cases d.gap <;> rfl
theorem can_run {one two : List Int} (h1 : one.length ≤ 4) (h2 : two.length ≤ 4) : F_can_both [.d d.obj, .d (.int n), .d (tI one), .d (tI two)] [] = some (.ok (.d (.bl (canB d n one two))), []) := by
  unfold F_can_both
  refine run_rt ?_
  show sSeq _ _ [some (.d d.obj), some (.d (.int n)), some (.d (tI one)), some (.d (tI two)), none, none] [] = _
  have c1 : tE (eCB (m1 mAny) (aCons (eLC (iSeq (eV 2)) [4] (tgN 4) tTrue (eB (mIn false) (eV 4) (eV 3))) aNil)) [some (.d d.obj), some (.d (.int n)), some (.d (tI one)), some (.d (tI two)), none, none] [] = some (.ok (one.any fun x => decide (x ∈ two)), []) := by
    refine t_E (e_C1 (e_LC0 (enc := D.int) (fun x => D.bl (decide (x ∈ two))) (e_iSeqT rfl) (small (by omega)) fun x hx => ⟨_, rfl, ?_⟩) (any_bl _ _))
    refine e_B rfl rfl ?_
    rw [in_tI]
    simp
  unfold canB
  cases hc : one.any fun x => decide (x ∈ two) with
  | true =>
    rw [hc] at c1
    rw [s_sSeq, st_IfT c1]
    rfl
  | false =>
    rw [hc] at c1
    refine (st_Seq ((st_IfF c1).trans rfl)).trans (st_Ret ?_)
    rw [if_neg Bool.false_ne_true]
    refine e_Or (e_B rfl rfl (gap0 d)) fun _ => e_Not (e_C1 (e_LC2 (enc := D.int) (enc1 := D.int) (fun _ => true) (fun _ => two) (fun _ _ => true) (fun c f => D.bl (nextTo d.ring n c f)) (e_iSeqT rfl) (fun c hc => ⟨_, rfl, rfl, fun _ => ⟨e_iSeqT rfl, fun f hf => ⟨_, rfl, rfl, fun _ => ?_⟩⟩⟩) ?_) (any_bl2 _ _ _))
    · rw [s_eCallD, s_bind_ok (x := [.d d.obj, .d (.int n), .d (.int c), .d (.int f)]) (o1 := []) rfl]
      exact c_next _ _
    · have := sum_small (fun c => (two.filter fun _ => true).map fun f => D.bl (nextTo d.ring n c f)) 4 4 (one.filter fun _ => true) (by rw [List.filter_eq_self.mpr (fun _ _ => rfl)]; exact h1) fun c _ => by rw [List.length_map, List.filter_eq_self.mpr (fun _ _ => rfl)]; exact h2
      exact small (by omega)
theorem c_can {one two : List Int} (h1 : one.length ≤ 4) (h2 : two.length ≤ 4) (sd : Sl) (own : Own) : callD 4 F_can_both [.d d.obj, .d (.int n), .d (tI one), .d (tI two)] sd own = some (.ok (.d (.bl (canB d n one two))), own) := cD (ds := [d.obj, .int n, tI one, tI two]) rfl rfl (can_run h1 h2) sd own
theorem c_spans {L : Nat} {shot : List Int} {vs : List D} (hn : n ≤ 10000) (h1 : 1 ≤ L) (hL : L ≤ 4) (hs : vs.length = shot.length) (sd : Sl) (own : Own) : callD 4 F_spans [.d d.obj, .d (.int n), .d (.int L), .d (.dic (shot.map D.int) vs)] sd own = some (.ok (.d (.lst (((spansM d.ring n L).filter (free shot)).map tI))), own) :=
  cD (ds := [d.obj, .int n, .int L, .dic (shot.map D.int) vs]) rfl rfl (spans_run hn h1 hL hs) sd own
/-! ## places -/
def spF (d : Fd) (n L : Nat) (shot : List Int) : List (List Int) := (spansM d.ring n L).filter (free shot)
def later (d : Fd) (b : Nat) (one two : List Int) : Bool := !(decide (d.a = b)) || lexI one two
def placesM (d : Fd) (n : Nat) (shot : List Int) : List (List (List Int)) := match d.b with
  | none => (spF d n d.a shot).map fun c => [c]
  | some b => (spF d n d.a shot).flatMap fun one => (((spF d n b shot).filter (later d b one)).filter (canB d n one)).map fun two => [one, two]
theorem spF_len {L : Nat} {shot : List Int} : (spF d n L shot).length ≤ n + 1 := Nat.le_trans (List.length_filter_le _ _) spansM_len
theorem spF_mem {L : Nat} {shot c : List Int} (h : c ∈ spF d n L shot) : c.length = L := spansM_mem (List.mem_filter.mp h).1
theorem fold_app {α β : Type} (f : α → List β) : ∀ (l : List α) (s : List β), l.foldl (fun s x => s ++ f x) s = s ++ l.flatMap f
  | [], s => by simp
  | x :: l, s => by rw [List.foldl_cons, fold_app f l, List.flatMap_cons, List.append_assoc]
theorem st_IfSkip {c : TM} {p : SM} {sd : Sl} {own : Own} (h : c sd own = some (.ok false, own)) : sIf c p sNil sd own = some (.nx sd own) := (st_IfF h).trans rfl
theorem st_IfEnd {c : TM} {p q r : SM} {sd : Sl} {own : Own} {s : SV} {o1 : Own} (h : c sd own = some (.ok true, own)) (hp : p sd own = some (.rt s o1)) : sSeq (sIf c p q) r sd own = some (.rt s o1) := by
  rw [s_sSeq, st_IfT h, hp]
theorem st_For {src : IM} {tg : GM} {p : SM} {sd : Sl} {own : Own} {xs : List D} {r : Fl} (h : src sd own = some (.ok xs, own)) (h2 : forL tg p xs sd own = some r) : sFor src tg p sd own = some r := by
  rw [s_sFor, s_Sbind, h]
  exact h2
theorem st_Expr {f : EM} {sd : Sl} {own o1 : Own} {x : SV} (h : f sd own = some (.ok x, o1)) : sExpr f sd own = some (.nx sd o1) := by
  rw [s_sExpr, s_Sbind, h]
  rfl
/-- xs.extend(ys) of one's own -/
theorem e_Ext {f g : EM} {sd : Sl} {own : Own} {k : Nat} {xs zs : List D} (hf : f sd own = some (.ok (.h k), own)) (hk : own[k]? = some (.lst xs)) (hg : g sd own = some (.ok (.d (.lst zs)), own)) (hz : xs.length + zs.length ≤ sizeLine) :
    eMut mmExt f (aCons g aNil) sd own = some (.ok (.d .non), own.set k (.lst (xs ++ zs))) := by
  have h1 : lstV own (.h k) = some xs := by
    show (match own[k]? with | some (.lst xs) => some xs | _ => none) = _
    rw [hk]
  rw [s_eMut, s_bind_ok hf]
  have e : (M.ask fun own => lstV own (.h k)) sd own = some (.ok xs, own) := by rw [s_ask, h1]
  rw [s_bind_ok e, s_bind_ok (a_1 hg)]
  simp only [hk]
  have : mmExt own xs [.d (.lst zs)] = some (.non, xs ++ zs) := by
    show (if xs.length + zs.length ≤ sizeLine then some (D.non, xs ++ zs) else none) = _
    rw [if_pos hz]
  rw [this]
theorem e_App {f g : EM} {sd : Sl} {own o1 : Own} {k : Nat} {xs zs : List D} {y : D} (hf : f sd own = some (.ok (.h k), own)) (hk0 : own[k]? = some (.lst zs)) (hk : o1[k]? = some (.lst xs)) (hg : g sd own = some (.ok (.d y), o1)) (hz : xs.length < sizeLine) :
    eMut mmApp f (aCons g aNil) sd own = some (.ok (.d .non), o1.set k (.lst (xs ++ [y]))) := by
  have h1 : lstV own (.h k) = some zs := by
    show (match own[k]? with | some (.lst xs) => some xs | _ => none) = _
    rw [hk0]
  rw [s_eMut, s_bind_ok hf]
  have e : (M.ask fun own => lstV own (.h k)) sd own = some (.ok zs, own) := by rw [s_ask, h1]
  rw [s_bind_ok e, s_bind_ok (a_1 hg)]
  simp only [hk]
  have : mmApp o1 xs [.d y] = some (.non, xs ++ [y]) := by
    show (if xs.length < sizeLine then some (D.non, xs ++ [y]) else none) = _
    rw [if_pos hz]
  rw [this]
theorem e_CallD {N : Nat} {Ff : FM} {a : AM} {sd : Sl} {own : Own} {xs : List SV} {z : D} (ha : a sd own = some (.ok xs, own)) (h : ∀ sd own, callD N Ff xs sd own = some (.ok (.d z), own)) : eCallD N Ff a sd own = some (.ok (.d z), own) := by
  rw [s_eCallD, s_bind_ok ha]
  exact h sd own
/-- the places' loop's slots -/
abbrev plS (d : Fd) (n : Nat) (shot : List Int) (vs : List D) (b : Nat) (s6 s7 s8 s9 : Option SV) : Sl := [some (.d d.obj), some (.d (.int n)), some (.d (.dic (shot.map D.int) vs)), some (.d (.lst ((spF d n d.a shot).map tI))), some (.d (.lst ((spF d n b shot).map tI))), some (.d (.bl (decide (d.a = b)))), s6, s7, s8, s9]
def plB : SM := (sSeq (sSet 8 (eLC (iSeq (eV 4)) [9] (tgN 9) (tOr (tNot (tE (eV 5))) (tE (eB (mLtT (.U .I)) (eV 7) (eV 9)))) (eV 9)))
    (sExpr (eMut mmExt (eV 6) (aCons (eLC (iSeq (eV 8)) [9] (tgN 9) (tE (eCallD 4 F_can_both (aCons (eV 0) (aCons (eV 1) (aCons (eV 7) (aCons (eV 9) aNil)))))) (eTup (aCons (eV 7) (aCons (eV 9) aNil)))) aNil))))
def plT (d : Fd) (n b : Nat) (shot one : List Int) : List (List (List Int)) := (((spF d n b shot).filter (later d b one)).filter (canB d n one)).map fun two => [one, two]
theorem o_ltI {own : Own} (x y : List Int) : mLtT (.U .I) own (.d (tI x)) (.d (tI y)) = some (.bl (lexI x y)) := by
  show (if (shp (.U .I) (tI x) && shp (.U .I) (tI y)) = true then some (D.bl (ltS (.U .I) (tI x) (tI y))) else none) = _
  rw [shp_tI, shp_tI, lt_tI]
  rfl
theorem plT_len {b : Nat} {shot one : List Int} : (plT d n b shot one).length ≤ n + 1 := by
  unfold plT
  rw [List.length_map]
  exact Nat.le_trans (List.length_filter_le _ _) (Nat.le_trans (List.length_filter_le _ _) spF_len)
theorem plB_run {shot : List Int} {vs : List D} {b : Nat} {s8 s9 : Option SV} {one : List Int} {acc : List (List (List Int))} (hn : n ≤ 1000) (ho : one.length ≤ 4) (hb : b ≤ 4) (hz : acc.length ≤ 10000000) :
    ∃ t8 t9, plB (plS d n shot vs b (some (.h 0)) (some (.d (tI one))) s8 s9) [.lst (acc.map tT)] = some (.nx (plS d n shot vs b (some (.h 0)) (some (.d (tI one))) t8 t9) [.lst ((acc ++ plT d n b shot one).map tT)]) := by
  refine ⟨some (.d (.lst ((((spF d n b shot).filter (later d b one)).map id).map tI))), s9, ?_⟩
  unfold plB
  have l1 := spF_len (d := d) (n := n) (L := b) (shot := shot)
  refine (st_Seq (st_Set (e_LCf (enc := tI) (enc1 := tI) (later d b one) id (e_iSeqL rfl) (small (by omega)) fun c hc => ⟨_, rfl, ?_, fun _ => rfl⟩))).trans ?_
  · unfold later
    exact t_OrB (t_Not (t_E rfl)) fun _ => t_E (e_B rfl rfl (o_ltI _ _))
  · refine (st_Expr (e_Ext (xs := acc.map tT) (zs := (plT d n b shot one).map tT) rfl rfl ?_ ?_)).trans ?_
    · have e := e_LCf (own := [O.lst (acc.map tT)]) (sd := plS d n shot vs b (some (.h 0)) (some (.d (tI one))) (some (.d (.lst ((((spF d n b shot).filter (later d b one)).map id).map tI)))) s9) (src := iSeq (eV 8)) (vs := [9]) (tg := tgN 9)
        (t := tE (eCallD 4 F_can_both (aCons (eV 0) (aCons (eV 1) (aCons (eV 7) (aCons (eV 9) aNil)))))) (f := eTup (aCons (eV 7) (aCons (eV 9) aNil))) (enc := tI) (enc1 := tT) (canB d n one) (fun two => [one, two]) (xs := ((spF d n b shot).filter (later d b one)).map id) (e_iSeqL rfl)
        (small (by rw [List.length_map]; have := List.length_filter_le (later d b one) (spF d n b shot); omega)) fun two h2 => ⟨_, rfl, t_E (e_CallD rfl (c_can ho (by
          rw [List.map_id] at h2
          have := spF_mem (List.mem_filter.mp h2).1
          omega))), fun _ => rfl⟩
      rw [List.map_id] at e
      rw [List.map_id]
      exact e
    · rw [List.length_map, List.length_map, sizeL]
      have := plT_len (d := d) (n := n) (b := b) (shot := shot) (one := one)
      omega
    · rw [List.map_append]
      rfl
theorem places_run {shot : List Int} {vs : List D} (hd : d.ok) (hn : n ≤ 1000) (hs : vs.length = shot.length) :
    F_all_places [.d d.obj, .d (.int n), .d (.dic (shot.map D.int) vs)] [] = some (if d.b = none then (.ok (.d (.lst ((placesM d n shot).map tT))), []) else (.ok (.h 0), [.lst ((placesM d n shot).map tT)])) := by
  obtain ⟨ha1, ha4, hb⟩ := hd
  unfold F_all_places
  have l1 := spF_len (d := d) (n := n) (L := d.a) (shot := shot)
  cases hb0 : d.b with
  | none =>
    rw [if_pos rfl]
    refine run_rt ?_
    have hobj : d.obj = .obj 0 [.str d.shape, .tup [.int d.a], .int d.gapI] := by unfold Fd.obj Fd.shipsD Fd.ships nI; rw [hb0]; rfl
    have hc := c_spans (d := d) (n := n) (L := d.a) (shot := shot) (vs := vs) (by omega) ha1 ha4 hs
    rw [hobj] at hc ⊢
    refine (st_Seq (st_Set (e_CallD rfl hc))).trans ?_
    refine st_IfEnd rfl ?_
    refine (st_Ret (e_LCm (enc := tI) (enc1 := tT) (fun c => [c]) (e_iSeqL (xs := (spF d n d.a shot).map tI) rfl) (small (by omega)) fun c hc => ⟨_, rfl, rfl⟩)).trans ?_
    unfold placesM
    rw [hb0]
  | some b =>
    obtain ⟨hb1, hb4⟩ := hb b hb0
    rw [if_neg (by simp)]
    refine run_rt ?_
    have hobj : d.obj = .obj 0 [.str d.shape, .tup [.int d.a, .int b], .int d.gapI] := by unfold Fd.obj Fd.shipsD Fd.ships nI; rw [hb0]; rfl
    have hc := c_spans (d := d) (n := n) (L := d.a) (shot := shot) (vs := vs) (by omega) ha1 ha4 hs
    have hc2 := c_spans (d := d) (n := n) (L := b) (shot := shot) (vs := vs) (by omega) (by omega) hb4 hs
    rw [hobj] at hc hc2
    have start : ∀ r, sSeq (sSet 6 (eLstH aNil)) (sSeq (sFor (iSeq (eV 3)) (tgN 7) plB) (sRet (eV 6))) (plS d n shot vs b none none none none) [] = r → (sSeq (sSet 3 (eCallD 4 F_spans (aCons (eV 0) (aCons (eV 1) (aCons (eB mIx (eFld 0 1 (eV 0)) (eK (.int 0))) (aCons (eV 2) aNil))))))
        (sSeq (sIf (tE (eB mEq (eCB (m1 mLen) (aCons (eFld 0 1 (eV 0)) aNil)) (eK (.int 1)))) (sRet (eLC (iSeq (eV 3)) [7] (tgN 7) tTrue (eTup (aCons (eV 7) aNil)))) sNil)
        (sSeq (sSet 4 (eCallD 4 F_spans (aCons (eV 0) (aCons (eV 1) (aCons (eB mIx (eFld 0 1 (eV 0)) (eK (.int 1))) (aCons (eV 2) aNil))))))
        (sSeq (sSet 5 (eB mEq (eB mIx (eFld 0 1 (eV 0)) (eK (.int 0))) (eB mIx (eFld 0 1 (eV 0)) (eK (.int 1)))))
        (sSeq (sSet 6 (eLstH aNil)) (sSeq (sFor (iSeq (eV 3)) (tgN 7) plB) (sRet (eV 6))))))) (startD 10 [.d d.obj, .d (.int n), .d (.dic (shot.map D.int) vs)]) []) = r := by
      intro r hr
      unfold plS at hr
      rw [hobj] at hr ⊢
      refine (st_Seq (st_Set (e_CallD rfl hc))).trans ?_
      refine (st_Seq (st_IfSkip rfl)).trans ?_
      refine (st_Seq (st_Set (e_CallD rfl hc2))).trans ?_
      refine (st_Seq (st_Set (x := .d (.bl ((d.a : Int) == b))) (o1 := []) rfl)).trans ?_
      have e : ((d.a : Int) == b) = decide (d.a = b) := by
        rw [eqi]
        exact decide_eq_decide.mpr (by omega)
      rw [e]
      exact hr
    refine start _ ?_
    refine (st_Seq (sd1 := plS d n shot vs b (some (.h 0)) none none none) (o1 := [.lst []]) rfl).trans ?_
    obtain ⟨sd2, own2, ef, s7, s8, s9, rfl, rfl⟩ := for_pre (enc := tI) (tg := tgN 7) (p := plB)
      (fun pre sd own => ∃ s7 s8 s9, sd = plS d n shot vs b (some (.h 0)) s7 s8 s9 ∧ own = [.lst ((pre.flatMap (plT d n b shot)).map tT)])
      (spF d n d.a shot) (plS d n shot vs b (some (.h 0)) none none none) [.lst []] ⟨none, none, none, rfl, rfl⟩ (fun pre one post sd own e ⟨s7, s8, s9, h1, h2⟩ => by
        subst h1 h2
        have hone : one ∈ spF d n d.a shot := by rw [e]; simp
        have hpre : pre.length ≤ n + 1 := by have := congrArg List.length e; simp at this; omega
        have hlen := sum_small (plT d n b shot) (n + 1) (n + 1) pre hpre fun x _ => plT_len
        have hsq : (n + 1) * (n + 1) ≤ 1001 * 1001 := Nat.mul_le_mul (by omega) (by omega)
        obtain ⟨t8, t9, et⟩ := plB_run (d := d) (n := n) (shot := shot) (vs := vs) (b := b) (s8 := s8) (s9 := s9) (one := one) (acc := pre.flatMap (plT d n b shot)) hn (by have := spF_mem hone; omega) hb4 (by omega)
        exact ⟨_, rfl, _, _, .inl et, _, t8, t9, rfl, by rw [List.flatMap_append]; simp⟩)
    refine (st_Seq (st_For (e_iSeqL rfl) ef)).trans ?_
    have : placesM d n shot = (spF d n d.a shot).flatMap (plT d n b shot) := by unfold placesM; rw [hb0]; rfl
    rw [this]
    rfl
theorem placesM_len {shot : List Int} (hn : n ≤ 1000) : (placesM d n shot).length ≤ 1002001 := by
  unfold placesM
  have l1 := spF_len (d := d) (n := n) (L := d.a) (shot := shot)
  cases d.b with
  | none => simp; omega
  | some b =>
    have := sum_small (plT d n b shot) (n + 1) (n + 1) (spF d n d.a shot) l1 fun x _ => plT_len
    have hsq : (n + 1) * (n + 1) ≤ 1001 * 1001 := Nat.mul_le_mul (by omega) (by omega)
    show ((spF d n d.a shot).flatMap (plT d n b shot)).length ≤ _
    omega
theorem c_places {shot : List Int} {vs : List D} (hd : d.ok) (hn : n ≤ 1000) (hs : vs.length = shot.length) (sd : Sl) (own : Own) :
    callD 3 F_all_places [.d d.obj, .d (.int n), .d (.dic (shot.map D.int) vs)] sd own = some (.ok (.d (.lst ((placesM d n shot).map tT))), own) := by
  have e := places_run (d := d) (n := n) (shot := shot) (vs := vs) hd hn hs
  by_cases c : d.b = none
  · rw [if_pos c] at e
    exact cD (ds := [d.obj, .int n, .dic (shot.map D.int) vs]) rfl rfl e sd own
  · rw [if_neg c] at e
    exact cDh (ds := [d.obj, .int n, .dic (shot.map D.int) vs]) (o := .lst ((placesM d n shot).map tT)) rfl rfl e rfl rfl sd own
end
end Mx
end T_Mx2
section T_Mx3
set_option Elab.async false
set_option linter.all false
set_option maxRecDepth 100000
set_option maxHeartbeats 4000000
namespace Mx
open PySem Gx Pg
/-! ## the law's spans are the program's -/
theorem mod2 {a n : Nat} (h : a < 2 * n) : a % n = if a < n then a else a - n := by
  by_cases c : a < n
  · rw [if_pos c, Nat.mod_eq_of_lt c]
  · rw [if_neg c, Nat.mod_eq_sub_mod (by omega), Nat.mod_eq_of_lt (by omega)]
theorem cast_mod (f k n : Nat) : ((f : Int) + (k : Nat)) % (n : Int) = (((f + k) % n : Nat) : Int) := by
  rw [← Int.natCast_add, ← Int.natCast_emod]
theorem mem_spanAt {n L f : Nat} {x : Int} : x ∈ spanAt n L f ↔ ∃ k, k < L ∧ x = (((f + k) % n : Nat) : Int) := by
  unfold spanAt
  rw [(isort_perm _).mem_iff, List.mem_map]
  constructor
  · rintro ⟨k, hk, rfl⟩
    exact ⟨k, List.mem_range.mp hk, cast_mod f k n⟩
  · rintro ⟨k, hk, rfl⟩
    exact ⟨k, List.mem_range.mpr hk, cast_mod f k n⟩
theorem spanAt_inj {n L f g : Nat} (h1 : 1 ≤ L) (h2 : L < n) (hf : f < n) (hg : g < n) (e : spanAt n L f = spanAt n L g) : f = g := by
  have m1 : ((f : Nat) : Int) ∈ spanAt n L g := by
    rw [← e]
    exact mem_spanAt.mpr ⟨0, by omega, by rw [Nat.add_zero, Nat.mod_eq_of_lt hf]⟩
  obtain ⟨k, hk, e1⟩ := mem_spanAt.mp m1
  have e1 : f = (g + k) % n := by exact_mod_cast e1
  rw [mod2 (by omega)] at e1
  by_cases k0 : k = 0
  · subst k0
    rw [if_pos (by omega)] at e1
    omega
  · have m2 : (((g + (k - 1)) % n : Nat) : Int) ∈ spanAt n L f := by
      rw [e]
      exact mem_spanAt.mpr ⟨k - 1, by omega, rfl⟩
    obtain ⟨j, hj, e2⟩ := mem_spanAt.mp m2
    have e2 : (g + (k - 1)) % n = (f + j) % n := by exact_mod_cast e2
    rw [mod2 (by omega), mod2 (by omega)] at e2
    split at e1 <;> split at e2 <;> split at e2 <;> omega
theorem pairs_lt : ∀ (l m : List Nat), (l ++ m).Pairwise (· < ·) → True := fun _ _ _ => trivial
theorem isort_id {l : List Int} (h : l.Pairwise (· ≤ ·)) : isort l = l := rise_uniq (isort_perm l) (isort_le l) h
theorem row_rise (f : Nat) : ∀ L : Nat, (rowSpan L f).Pairwise (· ≤ ·) := by
  intro L
  unfold rowSpan
  rw [List.pairwise_map]
  exact (List.pairwise_lt_range (n := L)).imp fun h => by omega
theorem spanAt_row {n L f : Nat} (h : f + L ≤ n) : spanAt n L f = rowSpan L f := by
  unfold spanAt
  have e : ((List.range L).map fun k => ((f : Int) + (k : Nat)) % (n : Int)) = rowSpan L f := by
    unfold rowSpan
    refine List.map_congr_left fun k hk => ?_
    have := List.mem_range.mp hk
    rw [cast_mod, Nat.mod_eq_of_lt (by omega)]
    omega
  rw [e, isort_id (row_rise f L)]
theorem rowSpan_head {L f : Nat} (h : 1 ≤ L) : ∃ t, rowSpan L f = (f : Int) :: t := by
  unfold rowSpan
  cases L with
  | zero => omega
  | succ L =>
    rw [List.range_succ_eq_map, List.map_cons]
    exact ⟨((List.range L).map Nat.succ).map fun k => (f : Int) + (k : Nat), by simp⟩
theorem lex_head {i j : Int} {x y : List Int} (h : i ≠ j) : lexI (i :: x) (j :: y) = decide (i < j) := by
  unfold lexI
  rw [if_neg h]
/-- into a list, once each -/
def dedup {α : Type} [BEq α] [LawfulBEq α] (acc : List α) : List α → List α
  | [] => acc
  | x :: xs => dedup (if x ∈ acc then acc else acc ++ [x]) xs
theorem dedup_nodup {α : Type} [BEq α] [LawfulBEq α] : ∀ (xs acc : List α), (acc ++ xs).Nodup → dedup acc xs = acc ++ xs
  | [], acc, _ => by rw [List.append_nil]; rfl
  | x :: xs, acc, h => by
    have hx : x ∉ acc := fun hx => (List.nodup_append.mp h).2.2 x hx x List.mem_cons_self rfl
    show dedup (if x ∈ acc then acc else acc ++ [x]) xs = _
    rw [if_neg hx, dedup_nodup xs (acc ++ [x]) (by rw [List.append_assoc]; exact h), List.append_assoc]
    rfl
theorem dedup_same {α : Type} [BEq α] [LawfulBEq α] (c : α) : ∀ (xs : List α), (∀ x ∈ xs, x = c) → dedup [c] xs = [c]
  | [], _ => rfl
  | x :: xs, h => by
    have e := h x List.mem_cons_self
    subst e
    show dedup (if x ∈ [x] then [x] else [x] ++ [x]) xs = _
    rw [if_pos (List.mem_singleton.mpr rfl)]
    exact dedup_same x xs fun y hy => h y (List.mem_cons_of_mem _ hy)
/-- the cells that the law takes -/
def takes (ring : Bool) (n L f : Nat) : Bool := decide (f + L ≤ n) || (ring && decide (L ≤ n))
def lawSpans (ring : Bool) (n L : Nat) : List (List Int) := srt lexI (dedup [] (((List.range n).filter (takes ring n L)).map (spanAt n L)))
theorem nodup_map {α β : Type} {f : α → β} : ∀ {l : List α}, l.Nodup → (∀ x ∈ l, ∀ y ∈ l, f x = f y → x = y) → (l.map f).Nodup
  | [], _, _ => List.nodup_nil
  | x :: l, h, inj => by
    rw [List.nodup_cons] at h
    rw [List.map_cons, List.nodup_cons]
    refine ⟨fun hm => ?_, nodup_map h.2 fun a ha b hb => inj a (List.mem_cons_of_mem _ ha) b (List.mem_cons_of_mem _ hb)⟩
    obtain ⟨y, hy, e⟩ := List.mem_map.mp hm
    have := inj y (List.mem_cons_of_mem _ hy) x List.mem_cons_self e
    subst this
    exact h.1 hy
theorem range_take {n m : Nat} (h : m ≤ n) (p : Nat → Bool) (hp : ∀ i, i < n → p i = decide (i < m)) : (List.range n).filter p = List.range m := by
  have e : n = m + (n - m) := by omega
  rw [e, List.range_add, List.filter_append]
  have h1 : (List.range m).filter p = List.range m := List.filter_eq_self.mpr fun i hi => by
    have := List.mem_range.mp hi
    rw [hp i (by omega)]
    exact decide_eq_true this
  have h2 : ((List.range (n - m)).map fun x => m + x).filter p = [] := List.filter_eq_nil_iff.mpr fun i hi => by
    obtain ⟨j, hj, rfl⟩ := List.mem_map.mp hi
    have := List.mem_range.mp hj
    rw [hp _ (by omega)]
    simp
  rw [h1, h2, List.append_nil]
theorem row_inj {L f g : Nat} (h : 1 ≤ L) (e : rowSpan L f = rowSpan L g) : f = g := by
  obtain ⟨t, h1⟩ := rowSpan_head (f := f) h
  obtain ⟨u, h2⟩ := rowSpan_head (f := g) h
  rw [h1, h2] at e
  have := (List.cons.inj e).1
  omega
theorem rows_srtd {L m : Nat} (h : 1 ≤ L) : SrtO.Srtd lexI ((List.range m).map (rowSpan L)) := by
  refine List.pairwise_map.mpr ((List.pairwise_lt_range (n := m)).imp fun {f g} hfg => ?_)
  obtain ⟨t, h1⟩ := rowSpan_head (f := f) h
  obtain ⟨u, h2⟩ := rowSpan_head (f := g) h
  rw [h1, h2, lex_head (by omega)]
  exact decide_eq_false (by omega)
theorem rows_nodup {L m : Nat} (h : 1 ≤ L) : ((List.range m).map (rowSpan L)).Nodup := nodup_map List.nodup_range fun x _ y _ e => row_inj h e
theorem law_spans_eq {ring : Bool} {n L : Nat} (h1 : 1 ≤ L) : lawSpans ring n L = spansM ring n L := by
  unfold lawSpans spansM
  cases ring with
  | false =>
    rw [if_neg Bool.false_ne_true]
    have e : (List.range n).filter (takes false n L) = List.range (n + 1 - L) := by
      refine range_take (by omega) _ fun i hi => ?_
      unfold takes
      simp
      omega
    have e2 : (List.range (n + 1 - L)).map (spanAt n L) = (List.range (n + 1 - L)).map (rowSpan L) := List.map_congr_left fun f hf => spanAt_row (by have := List.mem_range.mp hf; omega)
    rw [e, e2, dedup_nodup _ _ (by rw [List.nil_append]; exact rows_nodup h1), List.nil_append, srt_id _ (rows_srtd h1)]
  | true =>
    rw [if_pos rfl]
    unfold many
    by_cases c1 : n < L
    · rw [if_pos c1]
      have e : (List.range n).filter (takes true n L) = [] := List.filter_eq_nil_iff.mpr fun i hi => by
        unfold takes
        simp
        omega
      rw [e]
      rfl
    · rw [if_neg c1]
      have e : (List.range n).filter (takes true n L) = List.range n := List.filter_eq_self.mpr fun i hi => by
        unfold takes
        simp
        omega
      rw [e]
      by_cases c2 : L = n
      · rw [if_pos c2]
        have all : ∀ f, f < n → spanAt n L f = spanAt n L 0 := fun f hf => by
          have hp : ∀ g, g < n → ((List.range L).map fun k => ((g : Int) + (k : Nat)) % (n : Int)).Perm ((List.range n).map fun k => ((k : Nat) : Int)) := fun g hg => by
            have nd : ((List.range L).map fun k => ((g : Int) + (k : Nat)) % (n : Int)).Nodup := by
              refine nodup_map List.nodup_range fun x hx y hy e => ?_
              have hx := List.mem_range.mp hx
              have hy := List.mem_range.mp hy
              rw [cast_mod, cast_mod] at e
              have e : (g + x) % n = (g + y) % n := by exact_mod_cast e
              rw [mod2 (by omega), mod2 (by omega)] at e
              split at e <;> split at e <;> omega
            have nd2 : ((List.range n).map fun k => ((k : Nat) : Int)).Nodup := nodup_map List.nodup_range fun x _ y _ e => by exact_mod_cast e
            refine (List.perm_ext_iff_of_nodup nd nd2).mpr fun x => ?_
            rw [List.mem_map, List.mem_map]
            constructor
            · rintro ⟨k, hk, rfl⟩
              exact ⟨(g + k) % n, List.mem_range.mpr (Nat.mod_lt _ (by omega)), (cast_mod g k n).symm⟩
            · rintro ⟨k, hk, rfl⟩
              have hk := List.mem_range.mp hk
              refine ⟨if g ≤ k then k - g else n + k - g, List.mem_range.mpr (by split <;> omega), ?_⟩
              rw [cast_mod]
              split
              · rw [show g + (k - g) = k by omega, Nat.mod_eq_of_lt hk]
              · rw [show g + (n + k - g) = n + k by omega, Nat.add_mod_left, Nat.mod_eq_of_lt hk]
          exact rise_uniq ((isort_perm _).trans ((hp f hf).trans ((hp 0 (by omega)).symm.trans (isort_perm _).symm))) (isort_le _) (isort_le _)
        cases hn : n with
        | zero => omega
        | succ m =>
          rw [List.range_succ_eq_map, List.map_cons]
          show srt lexI (dedup [spanAt (m + 1) L 0] _) = srt lexI [spanAt (m + 1) L 0]
          rw [dedup_same]
          intro x hx
          obtain ⟨f, hf, rfl⟩ := List.mem_map.mp hx
          obtain ⟨f', hf', rfl⟩ := List.mem_map.mp hf
          have := List.mem_range.mp hf'
          have := all (f' + 1) (by omega)
          rw [hn] at this
          exact this
      · rw [if_neg c2]
        rw [dedup_nodup _ _ (by
          rw [List.nil_append]
          exact nodup_map List.nodup_range fun x hx y hy e => spanAt_inj h1 (by omega) (List.mem_range.mp hx) (List.mem_range.mp hy) e), List.nil_append]
theorem spansM_srtd {ring : Bool} {n L : Nat} (h1 : 1 ≤ L) : SrtO.Srtd lexI (spansM ring n L) := by
  unfold spansM
  cases ring with
  | false => rw [if_neg Bool.false_ne_true]; exact rows_srtd h1
  | true => rw [if_pos rfl]; exact srt_srtd swo_lex _
theorem spansM_nodup {ring : Bool} {n L : Nat} (h1 : 1 ≤ L) : (spansM ring n L).Nodup := by
  unfold spansM many
  cases ring with
  | false => rw [if_neg Bool.false_ne_true]; exact rows_nodup h1
  | true =>
    rw [if_pos rfl]
    refine (srt_stb swo_lex _).perm.nodup_iff.mpr ?_
    split
    · exact List.nodup_nil
    · split
      · simp
      · exact nodup_map List.nodup_range fun x hx y hy e => spanAt_inj h1 (by omega) (List.mem_range.mp hx) (List.mem_range.mp hy) e
theorem spansM_in {ring : Bool} {n L : Nat} {c : List Int} (h : c ∈ spansM ring n L) (h1 : 1 ≤ L) : ∀ x ∈ c, 0 ≤ x ∧ x < n := by
  unfold spansM at h
  cases ring with
  | false =>
    rw [if_neg Bool.false_ne_true] at h
    obtain ⟨f, hf, rfl⟩ := List.mem_map.mp h
    have hf := List.mem_range.mp hf
    intro x hx
    unfold rowSpan at hx
    obtain ⟨k, hk, rfl⟩ := List.mem_map.mp hx
    have hk := List.mem_range.mp hk
    omega
  | true =>
    rw [if_pos rfl] at h
    obtain ⟨f, hf, rfl⟩ := List.mem_map.mp ((srt_stb swo_lex _).perm.mem_iff.mp h)
    intro x hx
    obtain ⟨k, hk, rfl⟩ := mem_spanAt.mp hx
    have hn : 0 < n := by
      have hf := List.mem_range.mp hf
      unfold many at hf
      split at hf
      · omega
      · split at hf <;> omega
    have := Nat.mod_lt (f + k) hn
    omega
/-! ## apart -/
def sides (ring : Bool) (n : Nat) (c : Int) : List Int := if ring then [(c - 1) % n, (c + 1) % n] else [c - 1, c + 1]
def apM (d : Fd) (n : Nat) (one two : List Int) : Bool := one.all fun c => !decide (c ∈ two) && !(d.gap && (sides d.ring n c).any fun x => decide (x ∈ two))
theorem mod_up {c : Int} {n : Nat} (h0 : 0 ≤ c) (h1 : c < n) : (c + 1) % (n : Int) = if c + 1 < n then c + 1 else 0 := by
  split
  · exact Int.emod_eq_of_lt (by omega) (by omega)
  · have : c + 1 = n := by omega
    rw [this, Int.emod_self]
theorem mod_dn {c : Int} {n : Nat} (h0 : 0 ≤ c) (h1 : c < n) : (c - 1) % (n : Int) = if 1 ≤ c then c - 1 else n - 1 := by
  split
  · exact Int.emod_eq_of_lt (by omega) (by omega)
  · have : c - 1 = (n : Int) - 1 + n * (-1) := by omega
    rw [this, Int.add_mul_emod_self_left]
    exact Int.emod_eq_of_lt (by omega) (by omega)
theorem next_iff {ring : Bool} {n : Nat} {c f : Int} (hc : 0 ≤ c ∧ c < n) (hf : 0 ≤ f ∧ f < n) (ne : c ≠ f) : nextTo ring n c f = decide (f ∈ sides ring n c) := by
  unfold nextTo sides absI
  cases ring with
  | false =>
    simp only [Bool.false_and, Bool.or_false, Bool.false_eq_true, if_false]
    refine decide_eq_decide.mpr ?_
    simp only [List.mem_cons, List.not_mem_nil, or_false]
    split <;> omega
  | true =>
    simp only [Bool.true_and, if_true]
    rw [mod_up hc.1 hc.2, mod_dn hc.1 hc.2, ← Bool.decide_or]
    refine decide_eq_decide.mpr ?_
    simp only [List.mem_cons, List.not_mem_nil, or_false]
    split <;> split <;> split <;> omega
theorem ap_eq {d : Fd} {n : Nat} {one two : List Int} (h1 : ∀ x ∈ one, 0 ≤ x ∧ x < n) (h2 : ∀ x ∈ two, 0 ≤ x ∧ x < n) : apM d n one two = canB d n one two := by
  unfold apM canB
  by_cases c : (one.any fun x => decide (x ∈ two)) = true
  · rw [if_pos c]
    obtain ⟨x, hx, hx2⟩ := List.any_eq_true.mp c
    rw [← Bool.not_eq_true]
    intro h
    have := List.all_eq_true.mp h x hx
    rw [Bool.and_eq_true, hx2] at this
    exact Bool.noConfusion this.1
  · rw [if_neg c]
    have no : ∀ x ∈ one, x ∉ two := fun x hx hx2 => c (List.any_eq_true.mpr ⟨x, hx, decide_eq_true hx2⟩)
    cases hg : d.gap with
    | false =>
      simp only [Bool.not_false, Bool.true_or]
      rw [List.all_eq_true]
      intro x hx
      rw [decide_eq_false (no x hx)]
      rfl
    | true =>
      simp only [Bool.not_true, Bool.false_or, Bool.true_and]
      have e : (one.all fun c => !decide (c ∈ two) && !(sides d.ring n c).any fun x => decide (x ∈ two)) = one.all fun c => !two.any fun f => nextTo d.ring n c f := by
        rw [Bool.eq_iff_iff, List.all_eq_true, List.all_eq_true]
        refine forall_congr' fun x => imp_congr_right fun hx => ?_
        rw [decide_eq_false (no x hx)]
        simp only [Bool.not_false, Bool.true_and, Bool.not_eq_true', ← Bool.not_eq_true]
        rw [List.any_eq_true, List.any_eq_true]
        refine not_congr ⟨?_, ?_⟩
        · rintro ⟨f, hf, hf2⟩
          have hf2 := of_decide_eq_true hf2
          refine ⟨f, hf2, ?_⟩
          rw [next_iff (h1 x hx) (h2 f hf2) fun z => no x hx (z ▸ hf2)]
          exact decide_eq_true hf
        · rintro ⟨f, hf, hf2⟩
          rw [next_iff (h1 x hx) (h2 f hf) fun z => no x hx (z ▸ hf)] at hf2
          exact ⟨f, of_decide_eq_true hf2, decide_eq_true hf⟩
      rw [e, List.not_any_eq_all_not]
/-! ## the order of places -/
theorem lt_pair {x y x' y' : List Int} : ltS (.U (.U .I)) (tT [x, y]) (tT [x', y']) = if x = x' then lexI y y' else lexI x x' := by
  have e : ∀ u v : List Int, encS (.U (.U .I)) (tT [u, v]) = [1] ++ (encS (.U .I) (tI u) ++ ([1] ++ (encS (.U .I) (tI v) ++ [0]))) := fun u v => by
    show (([u, v].map tI).flatMap fun x => 1 :: encS (.U .I) x) ++ [0] = _
    simp
  unfold ltS
  rw [e, e, lexI_pre]
  by_cases c : x = x'
  · rw [if_pos c]
    subst c
    rw [lexI_pre, lexI_pre]
    rcases far_enc (.U .I) (tI y) (tI y') (shp_tI y) (shp_tI y') with q | q
    · rw [q, lexI_irr, ← lt_tI, q]
      exact (lexI_irr _).symm
    · rw [far_lt q, lt_tI]
  · rw [if_neg c]
    rcases far_enc (.U .I) (tI x) (tI x') (shp_tI x) (shp_tI x') with q | q
    · refine absurd ?_ c
      have := eq_tI 5 x x'
      have e2 : eqN 6 (tI x) (tI x') = true := by rw [q, eq_tI]; simp
      rw [e2] at this
      exact of_decide_eq_true this.symm
    · rw [far_lt q, lt_tI]
theorem places_srtd {d : Fd} {n : Nat} {shot : List Int} (hd : d.ok) : SrtO.Srtd (fun x y => ltS (.U (.U .I)) (tT x) (tT y)) (placesM d n shot) ∨ d.b = none := by
  cases hb : d.b with
  | none => exact .inr rfl
  | some b =>
    left
    obtain ⟨ha1, ha4, hb0⟩ := hd
    obtain ⟨hb1, hb4⟩ := hb0 b hb
    have e : placesM d n shot = (spF d n d.a shot).flatMap (plT d n b shot) := by unfold placesM; rw [hb]; rfl
    rw [e]
    have s1 : SrtO.Srtd lexI (spF d n d.a shot) := (spansM_srtd ha1).filter _
    have n1 : (spF d n d.a shot).Nodup := (spansM_nodup ha1).filter _
    have s2 : SrtO.Srtd lexI (spF d n b shot) := (spansM_srtd (by omega)).filter _
    refine List.pairwise_flatMap.mpr ⟨fun one h1 => ?_, ?_⟩
    · unfold plT
      refine List.pairwise_map.mpr (((s2.filter _).filter _).imp fun {x y} h => ?_)
      show ltS (.U (.U .I)) (tT [one, y]) (tT [one, x]) = false
      rw [lt_pair, if_pos rfl]
      exact h
    · refine (List.pairwise_and_iff.mpr ⟨s1, n1⟩).imp fun {x y} h => ?_
      intro p hp q hq
      unfold plT at hp hq
      obtain ⟨u, _, rfl⟩ := List.mem_map.mp hp
      obtain ⟨v, _, rfl⟩ := List.mem_map.mp hq
      show ltS (.U (.U .I)) (tT [y, v]) (tT [x, u]) = false
      rw [lt_pair, if_neg (fun z => h.2 z.symm)]
      exact h.1
end Mx
end T_Mx3
section T_Mx4
set_option Elab.async false
set_option linter.all false
set_option maxRecDepth 100000
set_option maxHeartbeats 4000000
namespace Mx
open PySem Gx Pg
/-! ## the law's functions -/
section
variable {d : Fd} {n : Nat}
theorem dic_shape {own : Own} : mIx own (.d d.dic) (.d (.str "shape")) = some (.str d.shape) := by
  unfold Fd.dic
  kernel_rfl
theorem dic_ships {own : Own} : mIx own (.d d.dic) (.d (.str "ships")) = some d.shipsD := by
  unfold Fd.dic
  kernel_rfl
theorem dic_gap {own : Own} : mIx own (.d d.dic) (.d (.str "gap")) = some (.int d.gapI) := by
  unfold Fd.dic
  kernel_rfl
theorem nin_h {own : Own} {k : Nat} {α : Type} [BEq α] [LawfulBEq α] {enc : α → D} {x : α} {xs : List α} (hk : own[k]? = some (.lst (xs.map enc))) (he : ∀ x y, eqN 60 (enc x) (enc y) = true ↔ x = y) (ho : ∀ x, okN 59 (enc x) = true) : mIn true own (.d (enc x)) (.h k) = some (.bl (!decide (x ∈ xs))) := by
  rw [in_h hk (okN_mono _ _ (ho x)) (ok_map ho xs), any_eq he]
  simp
/-- one turn -/
def lsB : SM := sIf (tOr (tE (eB mLe (eB mAdd (eV 4) (eV 2)) (eV 1))) (tAnd (tE (eB mEq (eB mIx (eV 0) (eK (.str "shape"))) (eK (.str "ring")))) (tE (eB mLe (eV 2) (eV 1)))))
    (sSeq (sSet 5 (eCB (m1 mTupC) (aCons (eCB (m1 mSortI) (aCons (eLC (iRg1 (aCons (eV 2) aNil)) [6] (tgN 6) tTrue (eB mMod (eB mAdd (eV 4) (eV 6)) (eV 1))) aNil)) aNil)))
    (sIf (tE (eB (mIn true) (eV 5) (eV 3)))
    (sExpr (eMut mmApp (eV 3) (aCons (eV 5) aNil)))
    sNil))
    sNil
abbrev lsS (d : Fd) (n L : Nat) (s4 s5 s6 : Option SV) : Sl := [some (.d d.dic), some (.d (.int n)), some (.d (.int L)), some (.h 0), s4, s5, s6]
theorem lsB_run {L f : Nat} {acc : List (List Int)} {s5 s6 : Option SV} (hn : n ≤ 10000) (hL : L ≤ 4) (hf : f < n) (hz : acc.length ≤ 100000) :
    ∃ t5, lsB (lsS d n L (some (.d (.int (0 + (f : Int))))) s5 s6) [.lst (acc.map tI)] = some (.nx (lsS d n L (some (.d (.int (0 + (f : Int))))) t5 s6) [.lst ((if takes d.ring n L f = true then (if spanAt n L f ∈ acc then acc else acc ++ [spanAt n L f]) else acc).map tI)]) := by
  have c1 : tOr (tE (eB mLe (eB mAdd (eV 4) (eV 2)) (eV 1))) (tAnd (tE (eB mEq (eB mIx (eV 0) (eK (.str "shape"))) (eK (.str "ring")))) (tE (eB mLe (eV 2) (eV 1)))) (lsS d n L (some (.d (.int (0 + (f : Int))))) s5 s6) [.lst (acc.map tI)] = some (.ok (takes d.ring n L f), [.lst (acc.map tI)]) := by
    have e1 : takes d.ring n L f = (decide (0 + (f : Int) + L ≤ n) || (d.ring && decide ((L : Int) ≤ n))) := by
      unfold takes
      congr 1
      · exact decide_eq_decide.mpr (by omega)
      · congr 1
        exact decide_eq_decide.mpr (by omega)
    rw [e1]
    exact t_OrB (t_E rfl) fun _ => t_AndB (t_E (e_B (e_B rfl rfl dic_shape) rfl (isRing d.ring))) fun _ => t_E rfl
  unfold lsB
  cases ht : takes d.ring n L f with
  | false =>
    rw [ht] at c1
    exact ⟨s5, st_IfSkip c1⟩
  | true =>
    rw [ht] at c1
    have hn0 : 0 < n := by omega
    refine ⟨some (.d (tI (spanAt n L f))), (st_IfT c1).trans ?_⟩
    rw [if_pos rfl]
    refine (st_Seq (st_Set (x := .d (tI (spanAt n L f))) (o1 := [.lst (acc.map tI)]) ?_)).trans ?_
    · refine e_C1 (x := .d (lI (spanAt n L f))) ?_ rfl
      refine e_C1 (x := .d (lI ((List.range L).map fun k => ((f : Int) + (k : Nat)) % (n : Int)))) ?_ (o_sortI _)
      unfold lI
      refine e_LCm (enc := fun i : Nat => D.int (0 + (i : Int))) (enc1 := D.int) (fun k => ((f : Int) + (k : Nat)) % (n : Int)) (e_iRg1 (j := (L : Int)) rfl (by omega) (by omega)) (by rw [List.length_range]; exact small (by omega)) fun k hk => ⟨_, rfl, ?_⟩
      have := e_Mod (f := eB mAdd (eV 4) (eV 6)) (g := eV 1) (own := [.lst (acc.map tI)]) (sd := lsS d n L (some (.d (.int (0 + (f : Int))))) s5 (some (.d (.int (0 + (k : Int)))))) (x := 0 + (f : Int) + (0 + (k : Int))) (y := n) rfl rfl (by omega)
      have e2 : (0 + (f : Int) + (0 + (k : Int))) = (f : Int) + (k : Nat) := by omega
      rw [e2] at this
      exact this
    · have c2 : tE (eB (mIn true) (eV 5) (eV 3)) (lsS d n L (some (.d (.int (0 + (f : Int))))) (some (.d (tI (spanAt n L f)))) s6) [.lst (acc.map tI)] = some (.ok (!decide (spanAt n L f ∈ acc)), [.lst (acc.map tI)]) :=
        t_E (e_B rfl rfl (nin_h rfl (qT 59) (ok_tI 58)))
      by_cases hm : spanAt n L f ∈ acc
      · rw [if_pos hm]
        rw [decide_eq_true hm] at c2
        exact st_IfSkip c2
      · rw [if_neg hm]
        rw [decide_eq_false hm] at c2
        refine (st_IfT c2).trans ?_
        refine (st_Expr (e_App (xs := acc.map tI) rfl rfl rfl rfl (by rw [List.length_map]; exact small hz))).trans ?_
        rw [List.map_append]
        rfl
def lsAcc (ring : Bool) (n L : Nat) (pre : List Nat) : List (List Int) := dedup [] ((pre.filter (takes ring n L)).map (spanAt n L))
theorem dedup_snoc {α : Type} [BEq α] [LawfulBEq α] (x : α) : ∀ (xs acc : List α), dedup acc (xs ++ [x]) = if x ∈ dedup acc xs then dedup acc xs else dedup acc xs ++ [x]
  | [], acc => rfl
  | y :: xs, acc => dedup_snoc x xs _
theorem dedup_len {α : Type} [BEq α] [LawfulBEq α] : ∀ (xs acc : List α), (dedup acc xs).length ≤ acc.length + xs.length
  | [], acc => Nat.le_refl _
  | y :: xs, acc => by
    have := dedup_len xs (if y ∈ acc then acc else acc ++ [y])
    show (dedup (if y ∈ acc then acc else acc ++ [y]) xs).length ≤ _
    split at this
    · rename_i h; rw [if_pos h, List.length_cons]; omega
    · rename_i h; rw [if_neg h, List.length_cons]; rw [List.length_append] at this; simp at this; omega
theorem lspans_run {L : Nat} (hn : n ≤ 10000) (h1 : 1 ≤ L) (hL : L ≤ 4) : ∃ o, F__law_spans [.d d.dic, .d (.int n), .d (.int L)] [] = some (.ok (.d (.lst ((spansM d.ring n L).map tI))), o) := by
  obtain ⟨sd2, own2, ef, s4, s5, s6, rfl, rfl⟩ := for_pre (enc := fun i : Nat => D.int (0 + (i : Int))) (tg := tgN 4) (p := lsB)
    (fun pre sd own => ∃ s4 s5 s6, sd = lsS d n L s4 s5 s6 ∧ own = [.lst ((lsAcc d.ring n L pre).map tI)])
    (List.range n) (lsS d n L none none none) [.lst []] ⟨none, none, none, rfl, rfl⟩ (fun pre f post sd own e ⟨s4, s5, s6, h2, h3⟩ => by
      subst h2 h3
      have hf : f < n := by have : f ∈ List.range n := by rw [e]; simp
                            exact List.mem_range.mp this
      have hp : pre.length ≤ n := by have := congrArg List.length e; simp at this; omega
      have hl : (lsAcc d.ring n L pre).length ≤ 100000 := by
        have := dedup_len ((pre.filter (takes d.ring n L)).map (spanAt n L)) []
        unfold lsAcc
        have h4 := List.length_filter_le (takes d.ring n L) pre
        simp at this
        omega
      obtain ⟨t5, et⟩ := lsB_run (d := d) (n := n) (L := L) (f := f) (acc := lsAcc d.ring n L pre) (s5 := s5) (s6 := s6) hn hL hf hl
      refine ⟨_, rfl, _, _, .inl et, _, t5, s6, rfl, ?_⟩
      congr 3
      unfold lsAcc
      rw [List.filter_append]
      by_cases ht : takes d.ring n L f = true
      · rw [if_pos ht, List.filter_cons_of_pos ht, List.filter_nil, List.map_append, List.map_cons, List.map_nil, dedup_snoc]
      · rw [if_neg ht, List.filter_cons_of_neg ht, List.filter_nil, List.append_nil])
  refine ⟨[.lst ((lsAcc d.ring n L (List.range n)).map tI)], ?_⟩
  unfold F__law_spans
  refine run_rt ?_
  refine (st_Seq (sd1 := lsS d n L none none none) (o1 := [.lst []]) rfl).trans ?_
  refine (st_Seq (st_For (e_iRg1 (j := (n : Int)) rfl (by omega) (by omega)) ef)).trans ?_
  refine st_Ret (e_C1 (x := .h 0) rfl ?_)
  show ((some ((lsAcc d.ring n L (List.range n)).map tI)).bind fun ds => if (ds.all (shp (.U .I)) && ds.all full) = true then some (D.lst (srt (ltS (.U .I)) ds)) else none) = _
  have hne : ∀ x ∈ lsAcc d.ring n L (List.range n), x ≠ [] := fun x hx => by
    have : x ∈ lawSpans d.ring n L := by
      unfold lawSpans
      exact (srt_stb swo_lex _).perm.mem_iff.mpr hx
    rw [law_spans_eq h1] at this
    have := spansM_mem this
    intro z
    subst z
    simp at this
    omega
  have e := o_sortUI (own := []) hne
  have e : ((some ((lsAcc d.ring n L (List.range n)).map tI)).bind fun ds => if (ds.all (shp (.U .I)) && ds.all full) = true then some (D.lst (srt (ltS (.U .I)) ds)) else none) = _ := e
  rw [e]
  have : srt lexI (lsAcc d.ring n L (List.range n)) = spansM d.ring n L := law_spans_eq h1
  rw [this]
theorem c_lspans {L : Nat} (hn : n ≤ 10000) (h1 : 1 ≤ L) (hL : L ≤ 4) (sd : Sl) (own : Own) : callD 3 F__law_spans [.d d.dic, .d (.int n), .d (.int L)] sd own = some (.ok (.d (.lst ((spansM d.ring n L).map tI))), own) := by
  obtain ⟨o, e⟩ := lspans_run (d := d) hn h1 hL
  exact cD (ds := [d.dic, .int n, .int L]) rfl rfl e sd own
/-! ### apart -/
def laB : SM := (sSeq (sIf (tE (eB (mIn false) (eV 4) (eV 3)))
    (sRet (eK (.bl false)))
    sNil)
    (sIf (tE (eB mEq (eB mIx (eV 0) (eK (.str "gap"))) (eK (.int 1))))
    (sSeq (sSet 5 (eLst (aCons (eB mSub (eV 4) (eK (.int 1))) (aCons (eB mAdd (eV 4) (eK (.int 1))) aNil))))
    (sSeq (sIf (tE (eB mEq (eB mIx (eV 0) (eK (.str "shape"))) (eK (.str "ring"))))
    (sSet 5 (eLst (aCons (eB mMod (eB mSub (eV 4) (eK (.int 1))) (eV 1)) (aCons (eB mMod (eB mAdd (eV 4) (eK (.int 1))) (eV 1)) aNil))))
    sNil)
    (sIf (tE (eB mNe (eLC (iSeq (eV 5)) [6] (tgN 6) (tE (eB (mIn false) (eV 6) (eV 3))) (eV 6)) (eLst aNil)))
    (sRet (eK (.bl false)))
    sNil)))
    sNil))
abbrev laS (d : Fd) (n : Nat) (one two : List Int) (s4 s5 s6 : Option SV) : Sl := [some (.d d.dic), some (.d (.int n)), some (.d (tI one)), some (.d (tI two)), s4, s5, s6]
def apC (d : Fd) (n : Nat) (two : List Int) (c : Int) : Bool := !decide (c ∈ two) && !(d.gap && (sides d.ring n c).any fun x => decide (x ∈ two))
theorem ne_nil {own : Own} {l : List Int} : mNe own (.d (lI l)) (.d (.lst [])) = some (.bl (!decide (l = []))) := by
  show (if (okN 60 (lI l) && okN 60 (.lst [])) = true then some (D.bl (!eqN 60 (lI l) (lI []))) else none) = _
  have : okN 60 (lI l) = true := ok_ints 59 l
  rw [this, eq_lI]
  rfl
theorem laB_run {one two : List Int} {c : Int} {s5 s6 : Option SV} {own : Own} (hn : 0 < n) (h2 : two.length ≤ 4) :
    (apC d n two c = true ∧ ∃ t5, laB (laS d n one two (some (.d (.int c))) s5 s6) own = some (.nx (laS d n one two (some (.d (.int c))) t5 s6) own)) ∨
    (apC d n two c = false ∧ ∃ o, laB (laS d n one two (some (.d (.int c))) s5 s6) own = some (.rt (.d (.bl false)) o)) := by
  have c1 : tE (eB (mIn false) (eV 4) (eV 3)) (laS d n one two (some (.d (.int c))) s5 s6) own = some (.ok (decide (c ∈ two)), own) := by
    refine t_E (e_B rfl rfl ?_)
    rw [in_tI]
    simp
  have c2 : tE (eB mEq (eB mIx (eV 0) (eK (.str "gap"))) (eK (.int 1))) (laS d n one two (some (.d (.int c))) s5 s6) own = some (.ok d.gap, own) := t_E (e_B (e_B rfl rfl dic_gap) rfl (gap1 d))
  unfold laB apC
  by_cases h : c ∈ two
  · right
    rw [decide_eq_true h] at c1 ⊢
    exact ⟨rfl, own, st_IfEnd c1 rfl⟩
  · rw [decide_eq_false h] at c1 ⊢
    rw [st_Seq (st_IfSkip c1)]
    cases hg : d.gap with
    | false =>
      rw [hg] at c2
      exact .inl ⟨rfl, s5, st_IfSkip c2⟩
    | true =>
      rw [hg] at c2
      rw [st_IfT c2]
      have e5 : ∀ t5, (∃ o, sSeq (sSet 5 (eLst (aCons (eB mSub (eV 4) (eK (.int 1))) (aCons (eB mAdd (eV 4) (eK (.int 1))) aNil)))) (sSeq (sIf (tE (eB mEq (eB mIx (eV 0) (eK (.str "shape"))) (eK (.str "ring"))))
          (sSet 5 (eLst (aCons (eB mMod (eB mSub (eV 4) (eK (.int 1))) (eV 1)) (aCons (eB mMod (eB mAdd (eV 4) (eK (.int 1))) (eV 1)) aNil)))) sNil) t5) (laS d n one two (some (.d (.int c))) s5 s6) own = o ∧ o = t5 (laS d n one two (some (.d (.int c))) (some (.d (lI (sides d.ring n c)))) s6) own) := by
        intro t5
        refine ⟨_, rfl, ?_⟩
        refine (st_Seq (sd1 := laS d n one two (some (.d (.int c))) (some (.d (lI [c - 1, c + 1]))) s6) (o1 := own) rfl).trans ?_
        have c3 : tE (eB mEq (eB mIx (eV 0) (eK (.str "shape"))) (eK (.str "ring"))) (laS d n one two (some (.d (.int c))) (some (.d (lI [c - 1, c + 1]))) s6) own = some (.ok d.ring, own) := t_E (e_B (e_B rfl rfl dic_shape) rfl (isRing d.ring))
        cases hr : d.ring with
        | false =>
          rw [hr] at c3
          exact st_Seq (st_IfSkip c3)
        | true =>
          rw [hr] at c3
          refine st_Seq ((st_IfT c3).trans (st_Set (x := .d (lI (sides true n c))) ?_))
          rw [s_eLst, s_bind_ok (x := [.d (.int ((c - 1) % (n : Int))), .d (.int ((c + 1) % (n : Int)))]) (o1 := own)]
          · rfl
          · exact a_c (e_Mod (x := c - 1) rfl rfl (by omega)) (a_1 (e_Mod (x := c + 1) rfl rfl (by omega)))
      obtain ⟨o, e6, e7⟩ := e5 (sIf (tE (eB mNe (eLC (iSeq (eV 5)) [6] (tgN 6) (tE (eB (mIn false) (eV 6) (eV 3))) (eV 6)) (eLst aNil))) (sRet (eK (.bl false))) sNil)
      rw [e6, e7]
      have c4 : tE (eB mNe (eLC (iSeq (eV 5)) [6] (tgN 6) (tE (eB (mIn false) (eV 6) (eV 3))) (eV 6)) (eLst aNil)) (laS d n one two (some (.d (.int c))) (some (.d (lI (sides d.ring n c)))) s6) own = some (.ok ((sides d.ring n c).any fun x => decide (x ∈ two)), own) := by
        have e8 := e_LCf (own := own) (sd := laS d n one two (some (.d (.int c))) (some (.d (lI (sides d.ring n c)))) s6) (src := iSeq (eV 5)) (vs := [6]) (tg := tgN 6) (t := tE (eB (mIn false) (eV 6) (eV 3))) (f := eV 6) (enc := D.int) (enc1 := D.int) (fun x => decide (x ∈ two)) id (xs := sides d.ring n c) (e_iSeqL rfl)
          (small (by unfold sides; split <;> simp)) fun x hx => ⟨_, rfl, t_E (e_B rfl rfl (by rw [in_tI]; simp)), fun _ => rfl⟩
        refine t_E (e_B e8 rfl ?_)
        rw [List.map_id]
        refine ne_nil.trans ?_
        congr 2
        rw [Bool.eq_iff_iff]
        simp only [Bool.not_eq_true', decide_eq_false_iff_not, List.filter_eq_nil_iff, List.any_eq_true, decide_eq_true_eq]
        constructor
        · intro h
          apply Classical.byContradiction
          intro h2
          exact h fun x hx hx2 => h2 ⟨x, hx, hx2⟩
        · rintro ⟨x, hx, hx2⟩ h
          exact h x hx hx2
      cases ha : (sides d.ring n c).any fun x => decide (x ∈ two) with
      | true =>
        rw [ha] at c4
        exact .inr ⟨rfl, own, (st_IfT c4).trans rfl⟩
      | false =>
        rw [ha] at c4
        exact .inl ⟨rfl, _, st_IfSkip c4⟩
theorem apart_run {one two : List Int} (hn : 0 < n ∨ one = []) (h2 : two.length ≤ 4) : ∃ o, F__law_apart [.d d.dic, .d (.int n), .d (tI one), .d (tI two)] [] = some (.ok (.d (.bl (apM d n one two))), o) := by
  unfold F__law_apart
  have st : ∀ r, sSeq (sFor (iSeq (eV 2)) (tgN 4) laB) (sRet (eK (.bl true))) (laS d n one two none none none) [] = some r → runDef 7 (sSeq (sFor (iSeq (eV 2)) (tgN 4) laB) (sRet (eK (.bl true)))) [.d d.dic, .d (.int n), .d (tI one), .d (tI two)] [] = (match r with | .rt s o => some (.ok s, o) | _ => runDef 7 (sSeq (sFor (iSeq (eV 2)) (tgN 4) laB) (sRet (eK (.bl true)))) [.d d.dic, .d (.int n), .d (tI one), .d (tI two)] []) := fun r hr => by
    cases r with
    | rt s o => exact run_rt hr
    | _ => rfl
  rcases for_exit (enc := D.int) (tg := tgN 4) (p := laB) (fun pre sd own => own = [] ∧ (∃ s4 s5 s6, sd = laS d n one two s4 s5 s6) ∧ pre.all (apC d n two) = true) (fun pre c r => apC d n two c = false ∧ ∃ o, r = .rt (.d (.bl false)) o) one (laS d n one two none none none) [] ⟨rfl, ⟨none, none, none, rfl⟩, rfl⟩ (fun pre c post sd own e ⟨h1, ⟨s4, s5, s6, h3⟩, h4⟩ => by
      subst h1 h3
      have hn0 : 0 < n := by
        rcases hn with h | h
        · exact h
        · rw [h] at e; simp at e
      refine ⟨_, rfl, ?_⟩
      rcases laB_run (d := d) (one := one) (c := c) (s5 := s5) (s6 := s6) (own := []) hn0 h2 with ⟨h5, t5, e5⟩ | ⟨h5, o, e5⟩
      · exact .inl ⟨_, _, .inl e5, rfl, ⟨_, t5, s6, rfl⟩, by rw [List.all_append, h4]; simp [h5]⟩
      · exact .inr ⟨_, e5, rfl, h5, o, rfl⟩) with ⟨sd2, own2, ef, rfl, ⟨s4, s5, s6, rfl⟩, h4⟩ | ⟨pre, c, post, r, e, ef, h5, o, rfl⟩
  · refine ⟨[], (st _ ((st_Seq (st_For (e_iSeqT rfl) ef)).trans rfl)).trans ?_⟩
    have : apM d n one two = true := h4
    rw [this]
  · refine ⟨o, (st (.rt (.d (.bl false)) o) ?_).trans ?_⟩
    · rw [s_sSeq, st_For (e_iSeqT rfl) ef]
    · have : apM d n one two = false := by
        rw [← Bool.not_eq_true]
        intro h
        have := List.all_eq_true.mp (show one.all (apC d n two) = true from h) c (by rw [e]; simp)
        rw [h5] at this
        cases this
      rw [this]
end
end Mx
end T_Mx4
section T_Mx5
set_option Elab.async false
set_option linter.all false
set_option maxRecDepth 100000
set_option maxHeartbeats 4000000
namespace Mx
open PySem Gx Pg
section
variable {d : Fd} {n : Nat}
theorem c_apart {one two : List Int} (hn : 0 < n ∨ one = []) (h2 : two.length ≤ 4) (sd : Sl) (own : Own) : callD 4 F__law_apart [.d d.dic, .d (.int n), .d (tI one), .d (tI two)] sd own = some (.ok (.d (.bl (apM d n one two))), own) := by
  obtain ⟨o, e⟩ := apart_run (d := d) hn h2
  exact cD (ds := [d.dic, .int n, tI one, tI two]) rfl rfl e sd own
abbrev lpS (d : Fd) (n : Nat) (som : D) (s3 s4 s5 s6 s7 : Option SV) : Sl := [some (.d d.dic), some (.d (.int n)), some (.d som), s3, s4, s5, s6, s7]
def lpI : SM := (sIf (tAnd (tE (eCallD 4 F__law_apart (aCons (eV 0) (aCons (eV 1) (aCons (eV 4) (aCons (eV 5) aNil)))))) (tOr (tE (eB mLt (eB mIx (eB mIx (eV 0) (eK (.str "ships"))) (eK (.int 0))) (eB mIx (eB mIx (eV 0) (eK (.str "ships"))) (eK (.int 1))))) (tE (eB (mLtT (.U .I)) (eV 4) (eV 5)))))
    (sExpr (eMut mmApp (eV 3) (aCons (eTup (aCons (eV 4) (aCons (eV 5) aNil))) aNil)))
    sNil)
def lpB : SM := sFor (iSeq (eB mIx (eV 2) (eK (.int 1)))) (tgN 5) lpI
def lpP (d : Fd) (n b : Nat) (one two : List Int) : Bool := apM d n one two && (decide (d.a < b) || lexI one two)
def lpT (d : Fd) (n b : Nat) (one : List Int) (l : List (List Int)) : List (List (List Int)) := (l.filter (lpP d n b one)).map fun two => [one, two]
theorem free_nil (c : List Int) : free [] c = true := by
  unfold free
  simp
theorem spF_nil {L : Nat} : spF d n L [] = spansM d.ring n L := List.filter_eq_self.mpr fun c _ => free_nil c
theorem lpT_eq {b : Nat} {one : List Int} (hab : d.a ≤ b) (ha : 1 ≤ d.a) (h1 : one ∈ spansM d.ring n d.a) : lpT d n b one (spansM d.ring n b) = plT d n b [] one := by
  unfold lpT plT
  rw [spF_nil, List.filter_filter]
  congr 1
  refine List.filter_congr fun two h2 => ?_
  unfold lpP later
  rw [ap_eq (spansM_in h1 ha) (spansM_in h2 (by omega))]
  congr 2
  by_cases c : d.a = b
  · rw [decide_eq_true c, decide_eq_false (by omega)]; rfl
  · rw [decide_eq_false c, decide_eq_true (by omega)]; rfl
theorem lpI_run {b : Nat} {som : D} {one two : List Int} {acc : List (List (List Int))} {s6 s7 : Option SV} (hb : d.b = some b) (hn : 0 < n ∨ one = []) (h2 : two.length ≤ 4) (hz : acc.length ≤ 10000000) :
    lpI (lpS d n som (some (.h 0)) (some (.d (tI one))) (some (.d (tI two))) s6 s7) [.lst (acc.map tT)] = some (.nx (lpS d n som (some (.h 0)) (some (.d (tI one))) (some (.d (tI two))) s6 s7) [.lst ((acc ++ lpT d n b one [two]).map tT)]) := by
  have hobj : d.shipsD = .tup [.int d.a, .int b] := by unfold Fd.shipsD Fd.ships nI; rw [hb]; rfl
  have c1 : tAnd (tE (eCallD 4 F__law_apart (aCons (eV 0) (aCons (eV 1) (aCons (eV 4) (aCons (eV 5) aNil)))))) (tOr (tE (eB mLt (eB mIx (eB mIx (eV 0) (eK (.str "ships"))) (eK (.int 0))) (eB mIx (eB mIx (eV 0) (eK (.str "ships"))) (eK (.int 1))))) (tE (eB (mLtT (.U .I)) (eV 4) (eV 5))))
      (lpS d n som (some (.h 0)) (some (.d (tI one))) (some (.d (tI two))) s6 s7) [.lst (acc.map tT)] = some (.ok (lpP d n b one two), [.lst (acc.map tT)]) := by
    unfold lpP
    have e1 : decide (d.a < b) = decide ((d.a : Int) < b) := decide_eq_decide.mpr (by omega)
    rw [e1]
    refine t_AndB (t_E (e_CallD rfl (c_apart hn h2))) fun _ => t_OrB (t_E (e_B (x := .d (.int d.a)) (y := .d (.int b)) (o1 := [.lst (acc.map tT)]) ?_ ?_ rfl)) fun _ => t_E (e_B rfl rfl (o_ltI _ _))
    · exact e_B (x := .d (.tup [.int d.a, .int b])) (e_B rfl rfl (by rw [dic_ships, hobj])) rfl rfl
    · exact e_B (x := .d (.tup [.int d.a, .int b])) (e_B rfl rfl (by rw [dic_ships, hobj])) rfl rfl
  unfold lpI lpT
  cases h : lpP d n b one two with
  | true =>
    rw [h] at c1
    rw [st_IfT c1, List.filter_cons_of_pos h]
    refine (st_Expr (e_App (xs := acc.map tT) (y := tT [one, two]) rfl rfl rfl rfl (by rw [List.length_map, sizeL]; omega))).trans ?_
    rw [List.map_append]
    rfl
  | false =>
    rw [h] at c1
    rw [st_IfSkip c1, List.filter_cons_of_neg (by rw [h]; exact Bool.false_ne_true)]
    simp
theorem lpT_app {b : Nat} {one : List Int} {l m : List (List Int)} : lpT d n b one (l ++ m) = lpT d n b one l ++ lpT d n b one m := by
  unfold lpT
  rw [List.filter_append, List.map_append]
theorem lpT_len {b : Nat} {one : List Int} {l : List (List Int)} : (lpT d n b one l).length ≤ l.length := by
  unfold lpT
  rw [List.length_map]
  exact List.length_filter_le _ _
theorem lpB_run {b : Nat} {one : List Int} {acc : List (List (List Int))} {s5 s6 s7 : Option SV} (hb : d.b = some b) (hb4 : b ≤ 4) (hn : 0 < n ∨ one = []) (hz : acc.length + n + 1 ≤ 10000000) :
    ∃ t5, lpB (lpS d n (.lst [.lst ((spansM d.ring n d.a).map tI), .lst ((spansM d.ring n b).map tI)]) (some (.h 0)) (some (.d (tI one))) s5 s6 s7) [.lst (acc.map tT)] =
      some (.nx (lpS d n (.lst [.lst ((spansM d.ring n d.a).map tI), .lst ((spansM d.ring n b).map tI)]) (some (.h 0)) (some (.d (tI one))) t5 s6 s7) [.lst ((acc ++ lpT d n b one (spansM d.ring n b)).map tT)]) := by
  generalize hsom : D.lst [.lst ((spansM d.ring n d.a).map tI), .lst ((spansM d.ring n b).map tI)] = som
  obtain ⟨sd2, own2, ef, t5, rfl, rfl⟩ := for_pre (enc := tI) (tg := tgN 5) (p := lpI)
    (fun pre sd own => ∃ s5, sd = lpS d n som (some (.h 0)) (some (.d (tI one))) s5 s6 s7 ∧ own = [.lst ((acc ++ lpT d n b one pre).map tT)])
    (spansM d.ring n b) (lpS d n som (some (.h 0)) (some (.d (tI one))) s5 s6 s7) [.lst (acc.map tT)] ⟨s5, rfl, by simp [lpT]⟩ (fun pre two post sd own e ⟨s5, h1, h2⟩ => by
      subst h1 h2
      have hm : two ∈ spansM d.ring n b := by rw [e]; simp
      have hp : pre.length ≤ n + 1 := by
        have := congrArg List.length e
        have := spansM_len (ring := d.ring) (n := n) (L := b)
        simp at *
        omega
      have := lpT_len (d := d) (n := n) (b := b) (one := one) (l := pre)
      refine ⟨_, rfl, _, _, .inl (lpI_run (b := b) hb hn (by rw [spansM_mem hm]; exact hb4) (by rw [List.length_append]; omega)), some (.d (tI two)), rfl, ?_⟩
      rw [lpT_app, List.append_assoc])
  refine ⟨t5, ?_⟩
  subst hsom
  exact st_For (e_iSeqL (e_B rfl rfl rfl)) ef
theorem o_sortUUI {own : Own} {k : Nat} {l : List (List (List Int))} (hk : own[k]? = some (.lst (l.map tT))) (h : ∀ x ∈ l, x ≠ []) (hs : SrtO.Srtd (fun x y => ltS (.U (.U .I)) (tT x) (tT y)) l) : mSortT (.U (.U .I)) own (.h k) = some (.lst (l.map tT)) := by
  have h1 : lstV own (.h k) = some (l.map tT) := by
    show (match own[k]? with | some (.lst xs) => some xs | _ => none) = _
    rw [hk]
  unfold mSortT
  rw [h1, Option.bind_some]
  have h2 : (l.map tT).all (shp (.U (.U .I))) = true := by
    rw [List.all_map, List.all_eq_true]
    exact fun x _ => shp_tT x
  have h3 : (l.map tT).all full = true := by
    rw [List.all_map, List.all_eq_true]
    intro x hx
    cases x with
    | nil => exact absurd rfl (h [] hx)
    | cons => rfl
  rw [h2, h3, ← srt_map (lt := ltS (.U (.U .I))) tT l, srt_id _ hs]
  rfl
theorem lplaces_run (hd : d.ok) (hn : n ≤ 1000) : ∃ o, F__law_places [.d d.dic, .d (.int n)] [] = some (.ok (.d (.lst ((placesM d n []).map tT))), o) := by
  obtain ⟨ha1, ha4, hb⟩ := hd
  have l1 := spansM_len (ring := d.ring) (n := n) (L := d.a)
  cases hb0 : d.b with
  | none =>
    refine ⟨[], ?_⟩
    unfold F__law_places
    refine run_rt ?_
    have hobj : d.shipsD = .tup ([d.a].map nI) := by unfold Fd.shipsD Fd.ships; rw [hb0]; rfl
    refine (st_Seq (st_Set (e_LC0 (enc := nI) (xs := [d.a]) (fun L => D.lst ((spansM d.ring n L).map tI)) (e_iSeqT (e_B (d := .tup ([d.a].map nI)) rfl rfl (by rw [dic_ships, hobj]))) (small (by simp)) fun L hL => ⟨_, rfl, e_CallD rfl (c_lspans (by omega) (by rw [List.mem_singleton.mp hL]; exact ha1) (by rw [List.mem_singleton.mp hL]; exact ha4))⟩))).trans ?_
    refine st_IfEnd rfl ?_
    refine (st_Ret (e_LCm (enc := tI) (enc1 := tT) (fun c => [c]) (e_iSeqL (xs := (spansM d.ring n d.a).map tI) (e_B rfl rfl rfl)) (small (by omega)) fun c hc => ⟨_, rfl, rfl⟩)).trans ?_
    unfold placesM
    rw [hb0, spF_nil]
  | some b =>
    obtain ⟨hb1, hb4⟩ := hb b hb0
    refine ⟨[.lst ((placesM d n []).map tT)], ?_⟩
    unfold F__law_places
    refine run_rt ?_
    have hobj : d.shipsD = .tup ([d.a, b].map nI) := by unfold Fd.shipsD Fd.ships; rw [hb0]; rfl
    refine (st_Seq (st_Set (e_LC0 (enc := nI) (xs := [d.a, b]) (fun L => D.lst ((spansM d.ring n L).map tI)) (e_iSeqT (e_B (d := .tup ([d.a, b].map nI)) rfl rfl (by rw [dic_ships, hobj]))) (small (by simp)) fun L hL => ⟨_, rfl, e_CallD rfl (c_lspans (by omega) ?_ ?_)⟩))).trans ?_
    · rcases List.mem_cons.mp hL with rfl | hL
      · exact ha1
      · rw [List.mem_singleton.mp hL]; omega
    · rcases List.mem_cons.mp hL with rfl | hL
      · exact ha4
      · rw [List.mem_singleton.mp hL]; omega
    refine (st_Seq (st_IfSkip rfl)).trans ?_
    refine (st_Seq (sd1 := lpS d n (.lst [.lst ((spansM d.ring n d.a).map tI), .lst ((spansM d.ring n b).map tI)]) (some (.h 0)) none none none none) (o1 := [.lst []]) rfl).trans ?_
    have hpl : placesM d n [] = (spansM d.ring n d.a).flatMap fun one => lpT d n b one (spansM d.ring n b) := by
      have : placesM d n [] = (spF d n d.a []).flatMap (plT d n b []) := by unfold placesM; rw [hb0]; rfl
      rw [this, spF_nil]
      have e : ∀ (f g : List Int → List (List (List Int))) (l : List (List Int)), (∀ x ∈ l, f x = g x) → l.flatMap f = l.flatMap g := fun f g l h => by
        induction l with
        | nil => rfl
        | cons x l ih => rw [List.flatMap_cons, List.flatMap_cons, h x List.mem_cons_self, ih fun y hy => h y (List.mem_cons_of_mem _ hy)]
      exact e _ _ _ fun one h1 => (lpT_eq hb1 ha1 h1).symm
    obtain ⟨sd2, own2, ef, s4, s5, rfl, rfl⟩ := for_pre (enc := tI) (tg := tgN 4) (p := lpB)
      (fun pre sd own => ∃ s4 s5, sd = lpS d n (.lst [.lst ((spansM d.ring n d.a).map tI), .lst ((spansM d.ring n b).map tI)]) (some (.h 0)) s4 s5 none none ∧ own = [.lst ((pre.flatMap fun one => lpT d n b one (spansM d.ring n b)).map tT)])
      (spansM d.ring n d.a) (lpS d n (.lst [.lst ((spansM d.ring n d.a).map tI), .lst ((spansM d.ring n b).map tI)]) (some (.h 0)) none none none none) [.lst []] ⟨none, none, rfl, rfl⟩ (fun pre one post sd own e ⟨s4, s5, h1, h2⟩ => by
        subst h1 h2
        have hm : one ∈ spansM d.ring n d.a := by rw [e]; simp
        have hp : pre.length ≤ n + 1 := by
          have := congrArg List.length e
          simp at this
          omega
        have hlen := sum_small (fun one => lpT d n b one (spansM d.ring n b)) (n + 1) (n + 1) pre hp fun x _ => Nat.le_trans lpT_len spansM_len
        have hsq : (n + 1) * (n + 1) ≤ 1001 * 1001 := Nat.mul_le_mul (by omega) (by omega)
        have hn0 : 0 < n ∨ one = [] := by
          cases hone : one with
          | nil => exact .inr rfl
          | cons x t =>
            have := spansM_in hm ha1 x (by rw [hone]; simp)
            exact .inl (by omega)
        obtain ⟨t5, et⟩ := lpB_run (d := d) (n := n) (b := b) (one := one) (acc := pre.flatMap fun one => lpT d n b one (spansM d.ring n b)) (s5 := s5) (s6 := none) (s7 := none) hb0 hb4 hn0 (by omega)
        exact ⟨_, rfl, _, _, .inl et, _, t5, rfl, by rw [List.flatMap_append]; simp⟩)
    refine (st_Seq (st_For (e_iSeqL (e_B rfl rfl rfl)) ef)).trans ?_
    rw [← hpl]
    refine st_Ret (e_C1 (x := .h 0) rfl (o_sortUUI (k := 0) rfl ?_ ?_))
    · intro x hx
      rw [hpl] at hx
      obtain ⟨one, _, hx⟩ := List.mem_flatMap.mp hx
      unfold lpT at hx
      obtain ⟨two, _, rfl⟩ := List.mem_map.mp hx
      simp
    · rcases places_srtd (d := d) (n := n) (shot := []) ⟨ha1, ha4, hb⟩ with h | h
      · exact h
      · rw [hb0] at h; cases h
theorem c_lplaces (hd : d.ok) (hn : n ≤ 1000) (sd : Sl) (own : Own) : callD 2 F__law_places [.d d.dic, .d (.int n)] sd own = some (.ok (.d (.lst ((placesM d n []).map tT))), own) := by
  obtain ⟨o, e⟩ := lplaces_run hd hn
  exact cD (ds := [d.dic, .int n]) rfl rfl e sd own
/-! ## fleets made -/
end
end Mx
end T_Mx5
section T_Mx6
set_option Elab.async false
set_option linter.all false
set_option maxRecDepth 100000
set_option maxHeartbeats 4000000
namespace Mx
open PySem Gx Pg
theorem pick_ok : Draws F__law_pick := by
  rintro o m ⟨ns, i, c, s, rfl, h0, h1, hc⟩ hm hm2
  have m0 : (0 : Int) < m := by omega
  by_cases c0 : c = 0
  · subst c0
    by_cases hi : i < ns.length
    · have hv : L2.atI (ns.map D.int) i = some (.int (ns[i.toNat]'(by omega))) := by
        rw [atI_pos h0, List.getElem?_map, List.getElem?_eq_getElem (by omega)]; rfl
      generalize (ns[i.toNat]'(by omega)) = v at hv
      by_cases hb : (1000000000000000000 : Int) ≤ v
      · have v0 : 0 < v := by omega
        refine ⟨v % m, .lst [.lst (ns.map D.int), .int (i + 1), .int (v / m), .int s], Int.emod_nonneg _ (by omega), Int.emod_lt_of_pos _ m0, ⟨ns, i + 1, v / m, s, rfl, by omega, by omega, Int.ediv_nonneg (by omega) (by omega)⟩, ?_⟩
        have e2 : decide ((1000000000000000000 : Int) ≤ v) = true := by simpa using hb
        simp [F__law_pick, runDef, startD, o_ixh, atI_pos, hv, hi, setIx, L2.ixN, mPow, m2I, o_mod m0, o_fdiv m0 hm2, v0, e2]
      · have e2 : decide ((1000000000000000000 : Int) ≤ v) = false := by simpa using hb
        have q0 : (0 : Int) < 2147483629 := by decide
        have q1 : (0 : Int) < 2147483647 := by decide
        refine ⟨(((s * 48271 + v * 69621 + 11) % 2147483647) * 16807) % 2147483629 % m, .lst [.lst (ns.map D.int), .int (i + 1), .int 0, .int ((s * 48271 + v * 69621 + 11) % 2147483647)], Int.emod_nonneg _ (by omega), Int.emod_lt_of_pos _ m0, ⟨ns, i + 1, 0, _, rfl, by omega, by omega, by omega⟩, ?_⟩
        simp [F__law_pick, runDef, startD, o_ixh, atI_pos, hv, hi, setIx, L2.ixN, mPow, m2I, o_mod, m0, q0, q1, o_mulr, e2]
    · have q0 : (0 : Int) < 2147483629 := by decide
      have q1 : (0 : Int) < 2147483647 := by decide
      refine ⟨(((s * 48271 + 7) % 2147483647) * 16807) % 2147483629 % m, .lst [.lst (ns.map D.int), .int i, .int 0, .int ((s * 48271 + 7) % 2147483647)], Int.emod_nonneg _ (by omega), Int.emod_lt_of_pos _ m0, ⟨ns, i, 0, _, rfl, by omega, by omega, by omega⟩, ?_⟩
      simp [F__law_pick, runDef, startD, o_ixh, atI_pos, hi, setIx, L2.ixN, mPow, m2I, o_mod, m0, q0, q1, o_mulr]
  · have cp : 0 < c := by omega
    refine ⟨c % m, .lst [.lst (ns.map D.int), .int i, .int (c / m), .int s], Int.emod_nonneg _ (by omega), Int.emod_lt_of_pos _ m0, ⟨ns, i, c / m, s, rfl, by omega, by omega, Int.ediv_nonneg (by omega) (by omega)⟩, ?_⟩
    have c1 : (c == 0) = false := by simpa using c0
    simp [F__law_pick, runDef, startD, o_ixh, atI_pos, setIx, L2.ixN, o_mod m0, o_fdiv m0 hm2, cp, c1]
/-- a drawing in the zone -/
theorem draw {o : O} {m : Int} (R : Row o) (h1 : 1 ≤ m) (h2 : m < 1073741824) : ∃ (r : Nat) (o' : O), (r : Int) < m ∧ Row o' ∧ ∀ (f g : EM) (sd : Sl) (rest : Own), f sd (o :: rest) = some (.ok (.h 0), o :: rest) → g sd (o :: rest) = some (.ok (.d (.int m)), o :: rest) →
    eCallZ 2 F__law_pick (aCons f (aCons g aNil)) sd (o :: rest) = some (.ok (.d (.int r)), o' :: rest) := by
  obtain ⟨r, o', h3, h4, R', e⟩ := draw_all pick_ok R h1 h2
  obtain ⟨k, rfl⟩ := Int.eq_ofNat_of_zero_le h3
  refine ⟨k, o', h4, R', fun f g sd rest hf hg => ?_⟩
  rw [s_eCallZ, s_bind_ok (a_c hf (a_1 hg))]
  exact e sd rest
/-- .. where the arguments draw themselves -/
theorem draw2 {o : O} {m : Int} (R : Row o) (h1 : 1 ≤ m) (h2 : m < 1073741824) : ∃ (r : Nat) (o' : O), (r : Int) < m ∧ Row o' ∧ ∀ (sd : Sl) (rest : Own), callZ 2 F__law_pick [.h 0, .d (.int m)] sd (o :: rest) = some (.ok (.d (.int r)), o' :: rest) := by
  obtain ⟨r, o', h3, h4, R', e⟩ := draw_all pick_ok R h1 h2
  obtain ⟨k, rfl⟩ := Int.eq_ofNat_of_zero_le h3
  exact ⟨k, o', h4, R', e⟩
/-! ## fleets -/
theorem init_ok {d : Fd} (hd : d.ok) : F__law_made [.d d.dic] [] = some (.ok (.d d.obj), []) := by
  obtain ⟨ring, a, b, gap⟩ := d
  obtain ⟨h1, h4, hb⟩ := hd
  have ha : a = 1 ∨ a = 2 ∨ a = 3 ∨ a = 4 := by have h1 : 1 ≤ a := h1; have h4 : a ≤ 4 := h4; omega
  cases b with
  | none => rcases ha with rfl | rfl | rfl | rfl <;> cases ring <;> cases gap <;> kernel_rfl
  | some b =>
    obtain ⟨h5, h6⟩ := hb b rfl
    have h5 : a ≤ b := h5
    have hb' : b = 1 ∨ b = 2 ∨ b = 3 ∨ b = 4 := by have h1 : 1 ≤ a := h1; omega
    clear hb
    rcases ha with rfl | rfl | rfl | rfl <;> rcases hb' with rfl | rfl | rfl | rfl <;> first | omega | (cases ring <;> cases gap <;> kernel_rfl)
theorem c_made {d : Fd} (hd : d.ok) (sd : Sl) (own : Own) : callD 1 F__law_made [.d d.dic] sd own = some (.ok (.d d.obj), own) := cD (ds := [d.dic]) rfl rfl (init_ok hd) sd own
theorem prs_cons {f g : EM} {r : List (EM × EM)} {sd : Sl} {own o1 o2 o3 : Own} {a b : D} {k : L2.Key} {l : List (L2.Key × D)} (hf : f sd own = some (.ok (.d a), o1)) (hk : keyOf a = some k) (hg : g sd o1 = some (.ok (.d b), o2)) (hr : prs r sd o2 = some (.ok l, o3)) : prs ((f, g) :: r) sd own = some (.ok ((k, b) :: l), o3) := by
  unfold prs
  rw [s_bind_ok hf, s_bind_ok hg]
  simp only [hk]
  rw [s_bind_ok hr]
  rfl
theorem e_Disp {l : List (EM × EM)} {sd : Sl} {own o1 : Own} {ps : List (L2.Key × D)} (h : prs l sd own = some (.ok ps, o1)) (hz : ps.length ≤ 15) : eDisp l sd own = some (.ok (.d (.dic (mergeD ps ([], [])).1 (mergeD ps ([], [])).2)), o1) := by
  unfold eDisp
  rw [s_bind_ok h, s_ask, if_pos hz]
/-- the three ways to tell the ships -/
def shipsOf (x y k : Nat) : Nat × Option Nat := if k = 0 then (x, none) else if k = 1 then (min x y, some (max x y)) else (x, some x)
theorem min_max (x y : Nat) : (if (y : Int) < x then (y : Int) else x) = (min x y : Nat) ∧ (if (y : Int) > x then (y : Int) else x) = (max x y : Nat) := by
  constructor <;> split <;> omega
theorem at3 {a b c : D} {k : Nat} (h : k < 3) : L2.atI [a, b, c] (k : Int) = some (if k = 0 then a else if k = 1 then b else c) := by
  have : k = 0 ∨ k = 1 ∨ k = 2 := by omega
  rcases this with rfl | rfl | rfl <;> rfl
theorem at2 {a b : D} {k : Nat} (h : k < 2) : L2.atI [a, b] (k : Int) = some (if k = 0 then a else b) := by
  have : k = 0 ∨ k = 1 := by omega
  rcases this with rfl | rfl <;> rfl
theorem fleet_run {o : O} (R : Row o) : ∃ (d : Fd) (o' : O), d.ok ∧ Row o' ∧ F__law_fleet [.h 0] [o] = some (.ok (.d d.dic), [o']) := by
  obtain ⟨x, o1, hx, R1, e1⟩ := draw R (m := 4) (by decide) (by decide)
  obtain ⟨y, o2, hy, R2, e2⟩ := draw R1 (m := 4) (by decide) (by decide)
  obtain ⟨k, o3, hk, R3, e3⟩ := draw R2 (m := 3) (by decide) (by decide)
  obtain ⟨r, o4, hr, R4, e4⟩ := draw R3 (m := 2) (by decide) (by decide)
  obtain ⟨g, o5, hg, R5, e5⟩ := draw R4 (m := 2) (by decide) (by decide)
  refine ⟨⟨decide (r ≠ 0), (shipsOf (1 + x) (1 + y) k).1, (shipsOf (1 + x) (1 + y) k).2, decide (g ≠ 0)⟩, o5, ?_, R5, ?_⟩
  · unfold Fd.ok shipsOf
    have : k = 0 ∨ k = 1 ∨ k = 2 := by omega
    rcases this with rfl | rfl | rfl
    · exact ⟨by simp, by simp <;> omega, fun b h => by cases h⟩
    · refine ⟨by simp <;> omega, by simp <;> omega, fun b h => ?_⟩
      cases h
      constructor
      · simp <;> omega
      · omega
    · refine ⟨by simp, by simp <;> omega, fun b h => ?_⟩
      cases h
      constructor
      · simp
      · omega
  · unfold F__law_fleet
    refine run_rt ?_
    have p1 := e1 (eV 0) (eK (.int 4)) [some (.h 0), none, none, none] [] rfl rfl
    have p2 := e2 (eV 0) (eK (.int 4)) [some (.h 0), none, none, none] [] rfl rfl
    have s1 : sPar [1, 2] (aCons (eB mAdd (eK (.int 1)) (eCallZ 2 F__law_pick (aCons (eV 0) (aCons (eK (.int 4)) aNil)))) (aCons (eB mAdd (eK (.int 1)) (eCallZ 2 F__law_pick (aCons (eV 0) (aCons (eK (.int 4)) aNil)))) aNil)) [some (.h 0), none, none, none] [o] =
        some (.nx [some (.h 0), some (.d (.int (1 + x))), some (.d (.int (1 + y))), none] [o2]) := by
      rw [s_sPar, s_Sbind, a_c (e_B (x := .d (.int 1)) rfl p1 rfl) (a_1 (e_B (x := .d (.int 1)) rfl p2 rfl))]
      rfl
    refine (st_Seq s1).trans ?_
    have p3 := e3 (eV 0) (eK (.int 3)) [some (.h 0), some (.d (.int (1 + x))), some (.d (.int (1 + y))), none] [] rfl rfl
    have sh : eB mIx (eLst (aCons (eTup (aCons (eV 1) aNil)) (aCons (eTup (aCons (eCB (m2 mMin2) (aCons (eV 1) (aCons (eV 2) aNil))) (aCons (eCB (m2 mMax2) (aCons (eV 1) (aCons (eV 2) aNil))) aNil))) (aCons (eTup (aCons (eV 1) (aCons (eV 1) aNil))) aNil)))) (eCallZ 2 F__law_pick (aCons (eV 0) (aCons (eK (.int 3)) aNil)))
        [some (.h 0), some (.d (.int (1 + x))), some (.d (.int (1 + y))), none] [o2] = some (.ok (.d (.tup ((((shipsOf (1 + x) (1 + y) k).1) :: (shipsOf (1 + x) (1 + y) k).2.toList).map nI))), [o3]) := by
      refine e_B (x := .d (.lst [.tup [.int (1 + x)], .tup [.int (if (1 + y : Int) < 1 + x then 1 + y else 1 + x), .int (if (1 + y : Int) > 1 + x then 1 + y else 1 + x)], .tup [.int (1 + x), .int (1 + x)]])) rfl p3 ?_
      rw [o_ixl, at3 (by omega)]
      have : k = 0 ∨ k = 1 ∨ k = 2 := by omega
      obtain ⟨m1, m2⟩ := min_max (1 + x) (1 + y)
      rw [Int.natCast_add, Int.natCast_add] at m1 m2
      rcases this with rfl | rfl | rfl
      · unfold shipsOf nI
        simp
      · unfold shipsOf nI
        simp only [if_neg (by decide : ¬ (1 = 0)), if_pos]
        rw [show ((1 : Nat) : Int) = 1 from rfl] at m1 m2
        rw [m1, m2]
        rfl
      · unfold shipsOf nI
        simp
    refine (st_Seq (st_Set sh)).trans ?_
    generalize hss : D.tup ((((shipsOf (1 + x) (1 + y) k).1) :: (shipsOf (1 + x) (1 + y) k).2.toList).map nI) = ss
    have p4 := e4 (eV 0) (eK (.int 2)) [some (.h 0), some (.d (.int (1 + x))), some (.d (.int (1 + y))), some (.d ss)] [] rfl rfl
    have p5 := e5 (eV 0) (eK (.int 2)) [some (.h 0), some (.d (.int (1 + x))), some (.d (.int (1 + y))), some (.d ss)] [] rfl rfl
    refine st_Ret ?_
    have v1 : eB mIx (eLst (aCons (eK (.str "row")) (aCons (eK (.str "ring")) aNil))) (eCallZ 2 F__law_pick (aCons (eV 0) (aCons (eK (.int 2)) aNil))) [some (.h 0), some (.d (.int (1 + x))), some (.d (.int (1 + y))), some (.d ss)] [o3] = some (.ok (.d (.str (shapeS (decide (r ≠ 0))))), [o4]) := by
      refine e_B (x := .d (.lst [.str "row", .str "ring"])) rfl p4 ?_
      rw [o_ixl, at2 (by omega)]
      have : r = 0 ∨ r = 1 := by omega
      rcases this with rfl | rfl <;> rfl
    refine (e_Disp (prs_cons rfl (k := .inr "shape") rfl v1 (prs_cons (a := .str "ships") (b := ss) rfl (k := .inr "ships") rfl rfl (prs_cons (a := .str "gap") rfl (k := .inr "gap") rfl p5 rfl))) (by simp)).trans ?_
    have : (g : Int) = if decide (g ≠ 0) = true then 1 else 0 := by
      have : g = 0 ∨ g = 1 := by omega
      rcases this with rfl | rfl <;> rfl
    unfold Fd.dic Fd.shape Fd.shipsD Fd.ships Fd.gapI
    rw [hss, ← this]
    kernel_rfl
/-- a fleet drawn -/
theorem fleet_draw {o : O} (R : Row o) : ∃ (d : Fd) (o' : O), d.ok ∧ Row o' ∧ ∀ (f : EM) (sd : Sl) (rest : Own), f sd (o :: rest) = some (.ok (.h 0), o :: rest) → eCallZ 1 F__law_fleet (aCons f aNil) sd (o :: rest) = some (.ok (.d d.dic), o' :: rest) := by
  obtain ⟨d, o', hd, R', e⟩ := fleet_run R
  refine ⟨d, o', hd, R', fun f sd rest hf => ?_⟩
  rw [s_eCallZ, s_bind_ok (a_1 hf)]
  unfold callZ
  simp [row_flat R, row_flat R', e]
/-! ## checks -/
theorem from_run {x l h : Int} : F_is_from [.d (.int x), .d (.int l), .d (.int h)] [] = some (.ok (.d (.bl (decide (l ≤ x) && decide (x ≤ h)))), []) := by
  unfold F_is_from
  refine run_rt (st_Ret ?_)
  refine (e_And (a := true) (b := decide (l ≤ x) && decide (x ≤ h)) (e_CallD (xs := [.d (.int x)]) rfl (cD (ds := [.int x]) (o1 := []) rfl rfl rfl)) fun _ => ?_).trans rfl
  rw [s_eCh]
  rw [s_bind_ok (x := .d (.int l)) (o1 := []) rfl, s_bind_ok (x := .d (.int x)) (o1 := []) rfl, s_bind_ok (x := .bl (decide (l ≤ x))) (o1 := []) rfl]
  cases c : decide (l ≤ x) <;> rfl
theorem c_from {x l h : Int} (sd : Sl) (own : Own) : callD 3 F_is_from [.d (.int x), .d (.int l), .d (.int h)] sd own = some (.ok (.d (.bl (decide (l ≤ x) && decide (x ≤ h)))), own) := cD (ds := [.int x, .int l, .int h]) rfl rfl from_run sd own
/-- what is no number between -/
def noInt : D → Bool
  | .non => true
  | .bl _ => true
  | .str _ => true
  | .tup _ => true
  | .lst _ => true
  | _ => false
theorem from_no {x : D} {l h : Int} (hx : noInt x = true) : F_is_from [.d x, .d (.int l), .d (.int h)] [] = some (.ok (.d (.bl false)), []) := by
  unfold F_is_from
  refine run_rt (st_Ret ?_)
  refine (e_And (a := false) (b := false) (e_CallD (xs := [.d x]) rfl (cD (ds := [x]) (o1 := []) rfl rfl ?_)) fun z => by cases z)
  cases x <;> first | rfl | cases hx
theorem c_from_no {x : D} {l h : Int} (hx : noInt x = true) (sd : Sl) (own : Own) : callD 3 F_is_from [.d x, .d (.int l), .d (.int h)] sd own = some (.ok (.d (.bl false)), own) := cD (ds := [x, .int l, .int h]) rfl rfl (from_no hx) sd own
theorem checkn_ok {n h : Nat} (hn : n ≤ h) : F_check_number [.d (.int n), .d (.int h)] [] = some (.ok (.d .non), []) := by
  unfold F_check_number
  refine run_nx (sd := [some (.d (.int n)), some (.d (.int h))]) ?_
  refine (st_IfSkip ?_)
  have e : tNot (tE (eCallD 3 F_is_from (aCons (eV 0) (aCons (eK (.int 0)) (aCons (eV 1) aNil))))) [some (.d (.int n)), some (.d (.int h))] [] = some (.ok (!(decide ((0 : Int) ≤ n) && decide ((n : Int) ≤ h))), []) := t_Not (t_E (e_CallD rfl c_from))
  have : (!(decide ((0 : Int) ≤ n) && decide ((n : Int) ≤ h))) = false := by simp; omega
  rw [this] at e
  exact e
theorem c_checkn {n h : Nat} (hn : n ≤ h) (sd : Sl) (own : Own) : callD 2 F_check_number [.d (.int n), .d (.int h)] sd own = some (.ok (.d .non), own) := cD (ds := [.int n, .int h]) rfl rfl (checkn_ok hn) sd own
theorem st_RaiseIf {c : TM} {p q : SM} {sd : Sl} {own : Own} {k : Nat} {fs : List D} {sd1 : Sl} {o1 : Own} (h : c sd own = some (.ok true, own)) (hp : p sd own = some (.ex k fs sd1 o1)) : sIf c p q sd own = some (.ex k fs sd1 o1) := (st_IfT h).trans hp
/-- a number that is none -/
theorem checkn_bad {x : D} {h : Nat} (hx : F_is_from [.d x, .d (.int 0), .d (.int h)] [] = some (.ok (.d (.bl false)), [])) : F_check_number [.d x, .d (.int h)] [] = some (.ex 13 [], []) := by
  unfold F_check_number
  refine run_ex (sd := [some (.d x), some (.d (.int h))]) ?_
  refine st_RaiseIf (t_Not (t_E (e_CallD rfl (cD (ds := [x, .int 0, .int h]) rfl rfl hx)))) rfl
end Mx
end T_Mx6
section T_Mx7
set_option Elab.async false
set_option linter.all false
set_option maxRecDepth 100000
set_option maxHeartbeats 4000000
namespace Mx
open PySem Gx Pg
/-! ## enumerate -/
def SeqD (q : D) (ds : List D) : Prop := q = .lst ds ∨ q = .tup ds
theorem e_iEnum {f : EM} {sd : Sl} {own : Own} {q : D} {ds : List D} (h : f sd own = some (.ok (.d q), own)) (hq : SeqD q ds) : iEnum f sd own = some (.ok (ds.zipIdx.map fun p => D.tup [.int (p.2 : Nat), p.1]), own) := by
  unfold iEnum
  rw [s_bind_ok h]
  rcases hq with rfl | rfl <;> rfl
theorem zip_split {α : Type} : ∀ (l : List α) (k : Nat) {pre post : List (α × Nat)} {x : α} {i : Nat}, l.zipIdx k = pre ++ (x, i) :: post → i = k + pre.length ∧ l = pre.map (·.1) ++ x :: post.map (·.1) := by
  intro l
  induction l with
  | nil => intro k pre post x i e; simp at e
  | cons a l ih =>
    intro k pre post x i e
    rw [List.zipIdx_cons] at e
    cases pre with
    | nil =>
      rw [List.nil_append] at e
      obtain ⟨e1, e2⟩ := List.cons.inj e
      cases e1
      refine ⟨rfl, ?_⟩
      rw [List.map_nil, List.nil_append, ← e2]
      congr 1
      simp
    | cons p pre =>
      obtain ⟨e1, e2⟩ := List.cons.inj e
      obtain ⟨h1, h2⟩ := ih (k + 1) e2
      subst e1
      refine ⟨by rw [List.length_cons]; omega, ?_⟩
      rw [h2]
      rfl
/-! ## keys -/
theorem hasK_ints {c : Int} : ∀ l : List Int, hasK (.inl c) (l.map D.int) = decide (c ∈ l)
  | [] => rfl
  | i :: l => by
    show (decide (keyOf (.int i) = some (.inl c)) || hasK (.inl c) (l.map D.int)) = _
    rw [hasK_ints l]
    by_cases e : c = i
    · subst e; simp [keyOf]
    · have e2 : ¬ i = c := fun z => e z.symm
      simp [keyOf, e, e2]
theorem put_ints {c : Int} {v : D} {l : List Int} {xs : List D} (h : c ∉ l) : putKD (.inl c) v (l.map D.int) xs = ((l ++ [c]).map D.int, xs ++ [v]) := by
  unfold putKD
  rw [hasK_ints, decide_eq_false h, if_neg Bool.false_ne_true, List.map_append]
  rfl
theorem st_PutD {f g e : EM} {sd : Sl} {own : Own} {k : Nat} {l : List Int} {xs : List D} {c : Int} {v : D} (he : e sd own = some (.ok (.d v), own)) (hf : f sd own = some (.ok (.h k), own)) (hg : g sd own = some (.ok (.d (.int c)), own)) (hk : own[k]? = some (.dic (l.map D.int) xs)) (hc : c ∉ l) (hl : l.length < sizeLine) :
    sPutD f g e sd own = some (.nx sd (own.set k (.dic ((l ++ [c]).map D.int) (xs ++ [v])))) := by
  unfold sPutD
  rw [s_Sbind, he]
  simp only
  rw [s_Sbind, hf]
  simp only
  rw [s_Sbind, hg]
  simp only
  have : putDK own (.h k) (.d (.int c)) v = some (own.set k (.dic ((l ++ [c]).map D.int) (xs ++ [v]))) := by
    unfold putDK
    simp only [hk]
    show (some (Sum.inl c : L2.Key)).bind _ = _
    rw [Option.bind_some, List.length_map, if_pos hl, put_ints hc]
  rw [this]
  rfl
theorem in_hd {own : Own} {k : Nat} {c : Int} {l : List Int} {xs : List D} {neg : Bool} (hk : own[k]? = some (.dic (l.map D.int) xs)) (h : xs.length = l.length) : mIn neg own (.d (.int c)) (.h k) = some (.bl (decide (c ∈ l) != neg)) := by
  have e : dicV own (.h k) = some (l.map D.int, xs) := by
    show (match own[k]? with | some (.dic ks xs) => some (ks, xs) | _ => none) = _
    rw [hk]
  unfold mIn
  rw [e]
  show some (D.bl ((getK (.inl c) (l.map D.int) xs).isSome != neg)) = _
  rw [getK_ints l xs h]
/-! ## orders -/
def coB : SM := (sSeq (sIf (tOr (tNot (tE (eCallD 3 F_is_from (aCons (eV 4) (aCons (eK (.int 0)) (aCons (eB mSub (eV 0) (eK (.int 1))) aNil)))))) (tE (eB (mIn false) (eV 4) (eV 2))))
    (sRaise 16 (aCons (eV 3) aNil))
    sNil)
    (sPutD (eV 2) (eV 4) (eK (.bl true))))
theorem raise16 {sd : Sl} {own : Own} {i j : Nat} (h : sd[j]? = some (some (.d (.int i)))) (hi : i ≤ 1000) : sRaise 16 (aCons (eV j) aNil) sd own = some (.ex 16 [.int i] sd own) := by
  have e4 : decide ((i : Int).natAbs.log2 < 1920) = true := by
    have := Nat.log2_le_self i
    simp
    omega
  rw [s_sRaise, s_Sbind, a_1 (e_V h)]
  have : fldR 16 [.d (.int i)] = some [.int i] := by
    simp [fldR, flds, tellD]
    have := Nat.log2_le_self i
    omega
  simp only [this]
  rfl
/-- a good turn -/
theorem co_good {n : Nat} {c : Int} {i : Int} {q : D} {l : List Int} {vs : List D} (h0 : 0 ≤ c) (h1 : c < n) (hc : c ∉ l) (hv : vs.length = l.length) (hl : l.length ≤ 1000) :
    coB [some (.d (.int n)), some (.d q), some (.h 0), some (.d (.int i)), some (.d (.int c))] [.dic (l.map D.int) vs] = some (.nx [some (.d (.int n)), some (.d q), some (.h 0), some (.d (.int i)), some (.d (.int c))] [.dic ((l ++ [c]).map D.int) (vs ++ [.bl true])]) := by
  unfold coB
  have c1 : (decide ((0 : Int) ≤ c) && decide (c ≤ (n : Int) - 1)) = true := by simp; omega
  have e1 : tNot (tE (eCallD 3 F_is_from (aCons (eV 4) (aCons (eK (.int 0)) (aCons (eB mSub (eV 0) (eK (.int 1))) aNil))))) [some (.d (.int n)), some (.d q), some (.h 0), some (.d (.int i)), some (.d (.int c))] [.dic (l.map D.int) vs] = some (.ok false, [.dic (l.map D.int) vs]) := by
    refine t_Not (b := true) (t_E (e_CallD (xs := [.d (.int c), .d (.int 0), .d (.int ((n : Int) - 1))]) rfl fun sd own => ?_))
    have := c_from (x := c) (l := 0) (h := (n : Int) - 1) sd own
    rw [c1] at this
    exact this
  refine (st_Seq (st_IfSkip (t_Or e1 (t_E (e_B rfl rfl (by rw [in_hd rfl hv, decide_eq_false hc]; rfl)))))).trans ?_
  exact st_PutD (k := 0) (l := l) (xs := vs) (c := c) (v := .bl true) rfl rfl rfl rfl hc (small (by omega))
/-- what may not stand at this place -/
def badAt (n : Nat) (l : List Int) (d : D) : Prop := noInt d = true ∨ ∃ c : Int, d = .int c ∧ (c < 0 ∨ (n : Int) ≤ c ∨ c ∈ l)
theorem co_bad {n i : Nat} {d q : D} {l : List Int} {vs : List D} (hb : badAt n l d) (hv : vs.length = l.length) (hi : i ≤ 1000) :
    ∃ o, coB [some (.d (.int n)), some (.d q), some (.h 0), some (.d (.int i)), some (.d d)] [.dic (l.map D.int) vs] = some (.ex 16 [.int i] [some (.d (.int n)), some (.d q), some (.h 0), some (.d (.int i)), some (.d d)] o) := by
  refine ⟨[.dic (l.map D.int) vs], ?_⟩
  unfold coB
  have cond : tOr (tNot (tE (eCallD 3 F_is_from (aCons (eV 4) (aCons (eK (.int 0)) (aCons (eB mSub (eV 0) (eK (.int 1))) aNil)))))) (tE (eB (mIn false) (eV 4) (eV 2))) [some (.d (.int n)), some (.d q), some (.h 0), some (.d (.int i)), some (.d d)] [.dic (l.map D.int) vs] = some (.ok true, [.dic (l.map D.int) vs]) := by
    rcases hb with hb | ⟨c, rfl, hb⟩
    · exact t_Or1 (t_Not (b := false) (t_E (e_CallD (xs := [.d d, .d (.int 0), .d (.int ((n : Int) - 1))]) rfl (c_from_no hb))))
    · have e1 : tNot (tE (eCallD 3 F_is_from (aCons (eV 4) (aCons (eK (.int 0)) (aCons (eB mSub (eV 0) (eK (.int 1))) aNil))))) [some (.d (.int n)), some (.d q), some (.h 0), some (.d (.int i)), some (.d (.int c))] [.dic (l.map D.int) vs] = some (.ok (!(decide ((0 : Int) ≤ c) && decide (c ≤ (n : Int) - 1))), [.dic (l.map D.int) vs]) :=
        t_Not (t_E (e_CallD (xs := [.d (.int c), .d (.int 0), .d (.int ((n : Int) - 1))]) rfl c_from))
      cases h : (!(decide ((0 : Int) ≤ c) && decide (c ≤ (n : Int) - 1))) with
      | true => rw [h] at e1; exact t_Or1 e1
      | false =>
        rw [h] at e1
        have hm : c ∈ l := by
          simp at h
          rcases hb with hb | hb | hb
          · omega
          · omega
          · exact hb
        exact t_Or e1 (t_E (e_B rfl rfl (by rw [in_hd rfl hv, decide_eq_true hm]; rfl)))
  rw [s_sSeq, st_IfT cond, raise16 (i := i) rfl hi]
def Good (n : Nat) (l : List Int) : Prop := l.Nodup ∧ ∀ c ∈ l, 0 ≤ c ∧ c < n
theorem good_snoc {n : Nat} {l m : List Int} {c : Int} (h : Good n (l ++ c :: m)) : 0 ≤ c ∧ c < n ∧ c ∉ l := by
  have h2 := h.2 c (by simp)
  refine ⟨h2.1, h2.2, fun hm => ?_⟩
  exact (List.nodup_append.mp h.1).2.2 c hm c List.mem_cons_self rfl
theorem order_ok {n : Nat} {l : List Int} {q : D} (hq : SeqD q (l.map D.int)) (hg : Good n l) (hl : l.length ≤ 1000) : ∃ o, F_check_order [.d (.int n), .d q] [] = some (.ok (.d .non), o) := by
  obtain ⟨sd2, own2, ef, s3, s4, vs, hv, rfl, rfl⟩ := for_pre (enc := fun p : Int × Nat => D.tup [.int (p.2 : Nat), .int p.1]) (tg := tgU [3, 4]) (p := coB)
    (fun pre sd own => ∃ s3 s4 vs, vs.length = (pre.map (·.1)).length ∧ sd = [some (.d (.int n)), some (.d q), some (.h 0), s3, s4] ∧ own = [.dic ((pre.map (·.1)).map D.int) vs])
    l.zipIdx [some (.d (.int n)), some (.d q), some (.h 0), none, none] [.dic [] []] ⟨none, none, [], rfl, rfl, rfl⟩ (fun pre x post sd own e ⟨s3, s4, vs, hv, h1, h2⟩ => by
      subst h1 h2
      obtain ⟨c, i⟩ := x
      obtain ⟨e1, e2⟩ := zip_split l 0 e
      rw [e2] at hg
      obtain ⟨g1, g2, g3⟩ := good_snoc hg
      have hp : pre.length ≤ 1000 := by have := congrArg List.length e; simp at this; omega
      refine ⟨_, rfl, _, _, .inl (co_good (i := (i : Int)) g1 g2 g3 hv (by rw [List.length_map]; exact hp)), _, _, vs ++ [.bl true], ?_, rfl, ?_⟩
      · rw [List.map_append, List.length_append, List.length_append, hv]
        rfl
      · simp)
  refine ⟨[.dic ((l.zipIdx.map (·.1)).map D.int) vs], ?_⟩
  unfold F_check_order
  refine run_nx (sd := [some (.d (.int n)), some (.d q), some (.h 0), s3, s4]) ?_
  refine (st_Seq (sd1 := [some (.d (.int n)), some (.d q), some (.h 0), none, none]) (o1 := [.dic [] []]) rfl).trans ?_
  have e := e_iEnum (f := eV 1) (sd := [some (.d (.int n)), some (.d q), some (.h 0), none, none]) (own := [.dic [] []]) rfl hq
  have hm : ((l.map D.int).zipIdx.map fun p => D.tup [.int (p.2 : Nat), p.1]) = l.zipIdx.map fun p => D.tup [.int (p.2 : Nat), .int p.1] := by
    rw [List.zipIdx_map, List.map_map]
    rfl
  rw [hm] at e
  exact st_For e ef
theorem order_bad {n : Nat} {l : List Int} {q d : D} {more : List D} (hq : SeqD q (l.map D.int ++ d :: more)) (hg : Good n l) (hl : l.length ≤ 1000) (hb : badAt n l d) : ∃ o, F_check_order [.d (.int n), .d q] [] = some (.ex 16 [.int l.length], o) := by
  have start : ∀ r, forL (tgU [3, 4]) coB ((l.map D.int ++ d :: more).zipIdx.map fun p => D.tup [.int (p.2 : Nat), p.1]) [some (.d (.int n)), some (.d q), some (.h 0), none, none] [.dic [] []] = some r →
      sSeq (sSet 2 eDicH) (sFor (iEnum (eV 1)) (tgU [3, 4]) coB) (startD 5 [.d (.int n), .d q]) [] = some r := fun r hr => by
    refine (st_Seq (sd1 := [some (.d (.int n)), some (.d q), some (.h 0), none, none]) (o1 := [.dic [] []]) rfl).trans ?_
    exact st_For (e_iEnum (f := eV 1) (sd := [some (.d (.int n)), some (.d q), some (.h 0), none, none]) (own := [.dic [] []]) rfl hq) hr
  rcases for_exit (enc := fun p : D × Nat => D.tup [.int (p.2 : Nat), p.1]) (tg := tgU [3, 4]) (p := coB)
    (fun pre sd own => pre.length ≤ l.length ∧ ∃ s3 s4 vs, vs.length = pre.length ∧ sd = [some (.d (.int n)), some (.d q), some (.h 0), s3, s4] ∧ own = [.dic ((l.take pre.length).map D.int) vs])
    (fun pre x r => ∃ sd o, r = .ex 16 [.int l.length] sd o) (l.map D.int ++ d :: more).zipIdx [some (.d (.int n)), some (.d q), some (.h 0), none, none] [.dic [] []] ⟨Nat.zero_le _, none, none, [], rfl, rfl, rfl⟩ (fun pre x post sd own e ⟨hp, s3, s4, vs, hv, h1, h2⟩ => by
      subst h1 h2
      obtain ⟨y, i⟩ := x
      obtain ⟨e1, e2⟩ := zip_split _ 0 e
      have hi : i = pre.length := by omega
      subst hi
      have hy : (l.map D.int ++ d :: more)[pre.length]? = some y := by
        rw [e2, List.getElem?_append_right (by simp)]
        simp
      refine ⟨_, rfl, ?_⟩
      by_cases c : pre.length < l.length
      · left
        rw [List.getElem?_append_left (by simpa using c), List.getElem?_map, List.getElem?_eq_getElem c] at hy
        cases hy
        have hsplit : l = l.take pre.length ++ l[pre.length] :: l.drop (pre.length + 1) := by
          rw [List.getElem_cons_drop c, List.take_append_drop]
        have hg' := hg
        rw [hsplit] at hg'
        obtain ⟨g1, g2, g3⟩ := good_snoc hg'
        have hlen : (l.take pre.length).length = pre.length := by rw [List.length_take]; omega
        refine ⟨_, _, .inl (co_good (i := (pre.length : Int)) g1 g2 g3 (by rw [hv, hlen]) (by omega)), by rw [List.length_append]; simp; omega, _, _, vs ++ [.bl true], ?_, rfl, ?_⟩
        · rw [List.length_append, List.length_append, hv]; rfl
        · rw [List.length_append]
          show [O.dic ((l.take pre.length ++ [l[pre.length]]).map D.int) _] = _
          rw [List.take_append_getElem c]
          rfl
      · right
        have hpl : pre.length = l.length := by omega
        rw [hpl, List.getElem?_append_right (by simp)] at hy
        simp at hy
        subst hy
        have htake : l.take pre.length = l := by rw [hpl]; exact List.take_length
        rw [htake]
        obtain ⟨o, eo⟩ := co_bad (q := q) (i := pre.length) (vs := vs) hb (by rw [hv, hpl]) (by omega)
        exact ⟨_, eo, rfl, _, _, by rw [hpl]⟩) with ⟨sd2, own2, ef, hp, _⟩ | ⟨pre, x, post, r, e, ef, sd, o, rfl⟩
  · have := hp
    simp at this
    omega
  · refine ⟨o, ?_⟩
    unfold F_check_order
    exact run_ex (start _ ef)
/-! ## misses -/
def hitM (p : List (List Int)) (c : Int) : Bool := p.any fun s => decide (c ∈ s)
def missesM (p : List (List Int)) (l : List Int) : Nat := (l.takeWhile fun c => !hitM p c).length
theorem missesM_le {p : List (List Int)} {l : List Int} : missesM p l ≤ l.length := by
  unfold missesM
  exact (List.takeWhile_prefix _).length_le
theorem misses_all {p : List (List Int)} {l : List Int} (h : ∀ c ∈ l, hitM p c = false) : missesM p l = l.length := by
  unfold missesM
  have e : l.takeWhile (fun c => !hitM p c) = l := by
    have := List.takeWhile_append_of_pos (p := fun c => !hitM p c) (l₁ := l) (l₂ := []) fun c hc => by rw [h c hc]; rfl
    simpa using this
  rw [e]
theorem misses_at {p : List (List Int)} {l m : List Int} {c : Int} (h : ∀ c ∈ l, hitM p c = false) (hc : hitM p c = true) : missesM p (l ++ c :: m) = l.length := by
  unfold missesM
  rw [List.takeWhile_append_of_pos fun c hc => by rw [h c hc]; rfl, List.takeWhile_cons_of_neg (by rw [hc]; decide), List.append_nil]
def moB : SM := (sIf (tE (eCB (m1 mAny) (aCons (eLC (iSeq (eV 0)) [4] (tgN 4) tTrue (eB (mIn false) (eV 3) (eV 4))) aNil)))
    (sRet (eV 2))
    sNil)
theorem mo_cond {p : List (List Int)} {q : D} {i : Int} {c : Int} {s4 : Option SV} {own : Own} (hp : p.length ≤ 1000) :
    tE (eCB (m1 mAny) (aCons (eLC (iSeq (eV 0)) [4] (tgN 4) tTrue (eB (mIn false) (eV 3) (eV 4))) aNil)) [some (.d (tT p)), some (.d q), some (.d (.int i)), some (.d (.int c)), s4] own = some (.ok (hitM p c), own) := by
  refine t_E (e_C1 (e_LC0 (enc := tI) (fun s => D.bl (decide (c ∈ s))) (e_iSeqT rfl) (small (by omega)) fun s hs => ⟨_, rfl, ?_⟩) (any_bl _ _))
  refine e_B rfl rfl ?_
  rw [in_tI]
  simp
theorem misses_run {p : List (List Int)} {l : List Int} {q : D} (hq : SeqD q (l.map D.int)) (hp : p.length ≤ 1000) (hl : l.length ≤ 1000) : F_misses_of [.d (tT p), .d q] [] = some (.ok (.d (.int (missesM p l))), []) := by
  have hm : ((l.map D.int).zipIdx.map fun p => D.tup [.int (p.2 : Nat), p.1]) = l.zipIdx.map fun p => D.tup [.int (p.2 : Nat), .int p.1] := by
    rw [List.zipIdx_map, List.map_map]
    rfl
  have e := e_iEnum (f := eV 1) (sd := [some (.d (tT p)), some (.d q), none, none, none]) (own := []) rfl hq
  rw [hm] at e
  unfold F_misses_of
  refine run_rt ?_
  show sSeq (sFor (iEnum (eV 1)) (tgU [2, 3]) moB) (sRet (eCB (m1 mLen) (aCons (eV 1) aNil))) [some (.d (tT p)), some (.d q), none, none, none] [] = _
  rcases for_exit (enc := fun p : Int × Nat => D.tup [.int (p.2 : Nat), .int p.1]) (tg := tgU [2, 3]) (p := moB)
    (fun pre sd own => own = [] ∧ (∃ s2 s3 s4, sd = [some (.d (tT p)), some (.d q), s2, s3, s4]) ∧ ∀ x ∈ pre, hitM p x.1 = false) (fun pre x r => hitM p x.1 = true ∧ (∀ x ∈ pre, hitM p x.1 = false) ∧ ∃ o, o = [] ∧ r = .rt (.d (.int pre.length)) o)
    l.zipIdx [some (.d (tT p)), some (.d q), none, none, none] [] ⟨rfl, ⟨none, none, none, rfl⟩, fun x hx => by cases hx⟩ (fun pre x post sd own e ⟨h1, ⟨s2, s3, s4, h2⟩, h3⟩ => by
      subst h1 h2
      obtain ⟨c, i⟩ := x
      obtain ⟨e1, e2⟩ := zip_split _ 0 e
      refine ⟨_, rfl, ?_⟩
      have cd := mo_cond (p := p) (q := q) (i := (i : Int)) (c := c) (s4 := s4) (own := []) hp
      unfold moB
      cases h : hitM p c with
      | true =>
        rw [h] at cd
        refine .inr ⟨_, (st_IfT cd).trans rfl, rfl, rfl, h3, [], rfl, ?_⟩
        have : i = pre.length := by omega
        subst this
        rfl
      | false =>
        rw [h] at cd
        refine .inl ⟨_, _, .inl (st_IfSkip cd), rfl, ⟨_, _, s4, rfl⟩, fun x hx => ?_⟩
        rcases List.mem_append.mp hx with hx | hx
        · exact h3 x hx
        · rw [List.mem_singleton.mp hx]; exact h) with ⟨sd2, own2, ef, rfl, ⟨s2, s3, s4, rfl⟩, h3⟩ | ⟨pre, x, post, r, e9, ef, h1, h2, o, rfl, rfl⟩
  · refine (st_Seq (st_For e ef)).trans ?_
    have : missesM p l = l.length := misses_all fun c hc => by
      obtain ⟨i, hi⟩ := List.mem_iff_getElem?.mp hc
      have : (c, i) ∈ l.zipIdx := by
        rw [List.mem_iff_getElem?]
        exact ⟨i, by rw [List.getElem?_zipIdx, hi]; simp⟩
      exact h3 _ this
    rw [this]
    refine st_Ret ?_
    have : l.length = (l.map D.int).length := by simp
    rw [this]
    rcases hq with rfl | rfl <;> rfl
  · rw [s_sSeq, st_For e ef]
    obtain ⟨c, i⟩ := x
    obtain ⟨e1, e2⟩ := zip_split _ 0 e9
    have : missesM p l = pre.length := by
      rw [e2]
      refine (misses_at (fun c hc => ?_) h1).trans (by simp)
      obtain ⟨x, hx, rfl⟩ := List.mem_map.mp hc
      exact h2 x hx
    rw [this]
theorem c_misses {p : List (List Int)} {l : List Int} {q : D} (hq : SeqD q (l.map D.int)) (hp : p.length ≤ 1000) (hl : l.length ≤ 1000) (sd : Sl) (own : Own) : callD 2 F_misses_of [.d (tT p), .d q] sd own = some (.ok (.d (.int (missesM p l))), own) := cD (ds := [tT p, q]) rfl rfl (misses_run hq hp hl) sd own
end Mx
end T_Mx7
section T_Mx8
set_option Elab.async false
set_option linter.all false
set_option maxRecDepth 100000
set_option maxHeartbeats 4000000
namespace Mx
open PySem Gx Pg
/-! ## words -/
inductive Wd where
  | miss | hit | sunk
  deriving DecidableEq
def Wd.s : Wd → Str
  | .miss => "miss"
  | .hit => "hit"
  | .sunk => "sunk"
def wordM (p : List (List Int)) (c : Int) (shot : List Int) : Wd := match p.find? fun s => decide (c ∈ s) with
  | none => .miss
  | some s => if (s.filter fun x => !decide (x = c) && !decide (x ∈ shot)) = [] then .sunk else .hit
theorem wd_eq {own : Own} (a b : Wd) : mEq own (.d (.str a.s)) (.d (.str b.s)) = some (.bl (decide (a = b))) := by cases a <;> cases b <;> kernel_rfl
theorem wd_ne {own : Own} (a b : Wd) : mNe own (.d (.str a.s)) (.d (.str b.s)) = some (.bl (!decide (a = b))) := by cases a <;> cases b <;> kernel_rfl
theorem word_miss {p : List (List Int)} {c : Int} {shot : List Int} : wordM p c shot = .miss ↔ hitM p c = false := by
  unfold wordM hitM
  cases h : p.find? fun s => decide (c ∈ s) with
  | none =>
    rw [List.find?_eq_none] at h
    refine ⟨fun _ => ?_, fun _ => rfl⟩
    rw [← Bool.not_eq_true, List.any_eq_true]
    rintro ⟨s, hs, h2⟩
    exact h s hs h2
  | some s =>
    have h2 := List.find?_some h
    have h3 := List.mem_of_find?_eq_some h
    refine ⟨fun z => ?_, fun z => ?_⟩
    · simp only at z
      split at z <;> cases z
    · rw [← Bool.not_eq_true, List.any_eq_true] at z
      exact absurd ⟨s, h3, h2⟩ z
def lwB : SM := (sIf (tE (eB (mIn false) (eV 1) (eV 3)))
    (sSeq (sSet 4 (eLC (iSeq (eV 3)) [5] (tgN 5) (tAnd (tE (eB mNe (eV 5) (eV 1))) (tE (eB (mIn true) (eV 5) (eV 2)))) (eV 5)))
    (sRet (eIf (tE (eB mNe (eV 4) (eLst aNil))) (eK (.str "hit")) (eK (.str "sunk")))))
    sNil)
/-- the law's word, shot a list -/
theorem lword_run {p : List (List Int)} {c : Int} {shot : List Int} (hp : ∀ s ∈ p, s.length ≤ 1000) : F__law_word [.d (tT p), .d (.int c), .d (lI shot)] [] = some (.ok (.d (.str (wordM p c shot).s)), []) := by
  unfold F__law_word
  refine run_rt ?_
  show sSeq (sFor (iSeq (eV 0)) (tgN 3) lwB) (sRet (eK (.str "miss"))) [some (.d (tT p)), some (.d (.int c)), some (.d (lI shot)), none, none, none] [] = _
  rcases for_exit (enc := tI) (tg := tgN 3) (p := lwB)
    (fun pre sd own => own = [] ∧ (∃ s3 s4 s5, sd = [some (.d (tT p)), some (.d (.int c)), some (.d (lI shot)), s3, s4, s5]) ∧ ∀ s ∈ pre, c ∉ s)
    (fun pre s r => c ∈ s ∧ (∀ s ∈ pre, c ∉ s) ∧ r = .rt (.d (.str (if (s.filter fun x => !decide (x = c) && !decide (x ∈ shot)) = [] then Wd.sunk else Wd.hit).s)) [])
    p [some (.d (tT p)), some (.d (.int c)), some (.d (lI shot)), none, none, none] [] ⟨rfl, ⟨none, none, none, rfl⟩, fun s hs => by cases hs⟩ (fun pre s post sd own e ⟨h1, ⟨s3, s4, s5, h2⟩, h3⟩ => by
      subst h1 h2
      refine ⟨_, rfl, ?_⟩
      have cd : tE (eB (mIn false) (eV 1) (eV 3)) [some (.d (tT p)), some (.d (.int c)), some (.d (lI shot)), some (.d (tI s)), s4, s5] [] = some (.ok (decide (c ∈ s)), []) := by
        refine t_E (e_B rfl rfl ?_)
        rw [in_tI]
        simp
      unfold lwB
      by_cases h : c ∈ s
      · rw [decide_eq_true h] at cd
        right
        have hl : s.length ≤ 1000 := hp s (by rw [e]; simp)
        refine ⟨_, (st_IfT cd).trans ((st_Seq (st_Set (e_LCf (enc := D.int) (enc1 := D.int) (fun x => !decide (x = c) && !decide (x ∈ shot)) id (e_iSeqT rfl) (small (by omega)) fun x hx => ⟨_, rfl, ?_, fun _ => rfl⟩))).trans (st_Ret ?_)), rfl, h, h3, rfl⟩
        · refine t_AndB (t_E ?_) fun _ => t_E (e_B rfl rfl (by rw [in_lI]; simp))
          refine (show eB mNe _ _ _ _ = some (.ok (.d (.bl (!(x == c)))), []) from rfl).trans ?_
          rw [eqi]
        · rw [List.map_id]
          generalize s.filter (fun x => !decide (x = c) && !decide (x ∈ shot)) = fl
          have cd2 : tE (eB mNe (eV 4) (eLst aNil)) [some (.d (tT p)), some (.d (.int c)), some (.d (lI shot)), some (.d (tI s)), some (.d (.lst (fl.map D.int))), s5] [] = some (.ok (!decide (fl = [])), []) := t_E (e_B rfl rfl ne_nil)
          refine (e_If (x := .d (.str "hit")) (y := .d (.str "sunk")) cd2 (fun _ => rfl) (fun _ => rfl)).trans ?_
          by_cases hf : fl = []
          · rw [if_pos hf, decide_eq_true hf]; rfl
          · rw [if_neg hf, decide_eq_false hf]; rfl
      · rw [decide_eq_false h] at cd
        left
        refine ⟨_, _, .inl (st_IfSkip cd), rfl, ⟨_, s4, s5, rfl⟩, fun t ht => ?_⟩
        rcases List.mem_append.mp ht with ht | ht
        · exact h3 t ht
        · rw [List.mem_singleton.mp ht]; exact h) with ⟨sd2, own2, ef, rfl, ⟨s3, s4, s5, rfl⟩, h3⟩ | ⟨pre, s, post, r, e, ef, h1, h2, rfl⟩
  · refine (st_Seq (st_For (e_iSeqT rfl) ef)).trans ?_
    have : wordM p c shot = .miss := by
      unfold wordM
      rw [List.find?_eq_none.mpr fun s hs => by rw [decide_eq_false (h3 s hs)]; exact Bool.false_ne_true]
    rw [this]
    rfl
  · rw [s_sSeq, st_For (e_iSeqT rfl) ef]
    have : wordM p c shot = if (s.filter fun x => !decide (x = c) && !decide (x ∈ shot)) = [] then Wd.sunk else Wd.hit := by
      unfold wordM
      have hf : p.find? (fun s => decide (c ∈ s)) = some s := by
        rw [e, List.find?_append, List.find?_eq_none.mpr fun s hs => by rw [decide_eq_false (h2 s hs)]; exact Bool.false_ne_true, List.find?_cons_of_pos (p := fun s => decide (c ∈ s)) (decide_eq_true h1)]
        rfl
      rw [hf]
    rw [this]
theorem c_lword {p : List (List Int)} {c : Int} {shot : List Int} (hp : ∀ s ∈ p, s.length ≤ 1000) (sd : Sl) (own : Own) : callD 3 F__law_word [.d (tT p), .d (.int c), .d (lI shot)] sd own = some (.ok (.d (.str (wordM p c shot).s)), own) := cD (ds := [tT p, .int c, lI shot]) rfl rfl (lword_run hp) sd own
/-! ## the greatest common divisor -/
theorem gcd_step (a b : Nat) : Nat.gcd b (a % b) = Nat.gcd a b := by rw [Nat.gcd_comm b, ← Nat.gcd_rec, Nat.gcd_comm]
theorem wh_gcd {t : TM} (ht : ∀ (a b : Nat) (own : Own), t [some (.d (.int a)), some (.d (.int b))] own = some (.ok (decide (b ≠ 0)), own)) : ∀ (fuel a b : Nat) (own : Own), b < fuel →
    whL t (sPar [0, 1] (aCons (eV 1) (aCons (eB mMod (eV 0) (eV 1)) aNil))) fuel [some (.d (.int a)), some (.d (.int b))] own = some (.nx [some (.d (.int (Nat.gcd a b))), some (.d (.int 0))] own)
  | 0, a, b, own, h => absurd h (Nat.not_lt_zero _)
  | fuel + 1, a, b, own, h => by
    unfold whL
    rw [s_Sbind, ht]
    by_cases hb : b = 0
    · subst hb
      simp
    · rw [decide_eq_true hb]
      simp only
      have e : sPar [0, 1] (aCons (eV 1) (aCons (eB mMod (eV 0) (eV 1)) aNil)) [some (.d (.int a)), some (.d (.int b))] own = some (.nx [some (.d (.int b)), some (.d (.int ((a % b : Nat) : Int)))] own) := by
        rw [s_sPar, s_Sbind, a_c (x := .d (.int b)) rfl (a_1 (e_Mod (x := a) (y := b) rfl rfl (by omega)))]
        rfl
      rw [e]
      simp only
      rw [wh_gcd ht fuel b (a % b) own (by have := Nat.mod_lt a (show 0 < b by omega); omega), gcd_step]
theorem divisor_run {a b : Nat} (h : b < 1000) : F_divisor [.d (.int a), .d (.int b)] [] = some (.ok (.d (.int (Nat.gcd a b))), []) := by
  unfold F_divisor
  refine run_rt ?_
  refine (st_Seq (wh_gcd (fun a b own => ?_) 1000 a b [] h)).trans rfl
  refine (show tE (eB mNe _ _) _ _ = some (.ok (!((b : Int) == 0)), own) from rfl).trans ?_
  rw [eqi]
  by_cases hb : b = 0
  · subst hb; rfl
  · rw [decide_eq_false (by omega), decide_eq_true hb]; rfl
theorem common_run {a b : Nat} (h : b < 1000) : F__law_common [.d (.int a), .d (.int b)] [] = some (.ok (.d (.int (Nat.gcd a b))), []) := by
  unfold F__law_common
  refine run_rt ?_
  refine (st_Seq (wh_gcd (fun a b own => ?_) 1000 a b [] h)).trans rfl
  refine (show tE (eB mGt _ _) _ _ = some (.ok (decide ((0 : Int) < b)), own) from rfl).trans ?_
  by_cases hb : b = 0
  · subst hb; rfl
  · rw [decide_eq_true (by omega), decide_eq_true hb]
theorem c_divisor {a b : Nat} (h : b < 1000) (sd : Sl) (own : Own) : callD 2 F_divisor [.d (.int a), .d (.int b)] sd own = some (.ok (.d (.int (Nat.gcd a b))), own) := cD (ds := [.int a, .int b]) rfl rfl (divisor_run h) sd own
theorem c_common {a b : Nat} (h : b < 1000) (sd : Sl) (own : Own) : callD 2 F__law_common [.d (.int a), .d (.int b)] sd own = some (.ok (.d (.int (Nat.gcd a b))), own) := cD (ds := [.int a, .int b]) rfl rfl (common_run h) sd own
/-! ## longest -/
abbrev Pl := List (List Int)
def longStep (l : List Int) (acc : Option (Nat × Pl)) (p : Pl) : Option (Nat × Pl) := match acc with
  | none => some (missesM p l, p)
  | some (k, q) => if k < missesM p l then some (missesM p l, p) else some (k, q)
def longM (l : List Int) (ps : List Pl) : Option (Nat × Pl) := ps.foldl (longStep l) none
def encL : Option (Nat × Pl) → D
  | none => .non
  | some (k, p) => .tup [.int k, tT p]
def lgB : SM := (sSeq (sSet 5 (eCallD 2 F_misses_of (aCons (eV 4) (aCons (eV 2) aNil))))
    (sIf (tOr (tE (eB mIsN (eV 3) (eK .non))) (tE (eB mGt (eV 5) (eB mIx (eV 3) (eK (.int 0))))))
    (sSet 3 (eTup (aCons (eV 5) (aCons (eV 4) aNil))))
    sNil))
theorem lgB_run {d n q : D} {l : List Int} {acc : Option (Nat × Pl)} {p : Pl} {s5 : Option SV} (hq : SeqD q (l.map D.int)) (hp : p.length ≤ 1000) (hl : l.length ≤ 1000) :
    lgB [some (.d d), some (.d n), some (.d q), some (.d (encL acc)), some (.d (tT p)), s5] [] = some (.nx [some (.d d), some (.d n), some (.d q), some (.d (encL (longStep l acc p))), some (.d (tT p)), some (.d (.int (missesM p l)))] []) := by
  unfold lgB
  refine (st_Seq (st_Set (e_CallD rfl (c_misses hq hp hl)))).trans ?_
  cases acc with
  | none => exact st_IfT (t_Or1 rfl)
  | some kq =>
    obtain ⟨k, r⟩ := kq
    have cd : tOr (tE (eB mIsN (eV 3) (eK .non))) (tE (eB mGt (eV 5) (eB mIx (eV 3) (eK (.int 0))))) [some (.d d), some (.d n), some (.d q), some (.d (encL (some (k, r)))), some (.d (tT p)), some (.d (.int (missesM p l)))] [] = some (.ok (decide ((k : Int) < missesM p l)), []) := t_Or rfl rfl
    have es : longStep l (some (k, r)) p = if k < missesM p l then some (missesM p l, p) else some (k, r) := rfl
    rw [es]
    by_cases h : k < missesM p l
    · rw [if_pos h]
      rw [decide_eq_true (by omega)] at cd
      exact (st_IfT cd).trans rfl
    · rw [if_neg h]
      rw [decide_eq_false (by omega)] at cd
      exact st_IfSkip cd
theorem placesM_mem {d : Fd} {n : Nat} {shot : List Int} {p : Pl} (h : p ∈ placesM d n shot) : p.length ≤ 2 ∧ ∀ s ∈ p, s ∈ spansM d.ring n d.a ∨ ∃ b, d.b = some b ∧ s ∈ spansM d.ring n b := by
  unfold placesM at h
  cases hb : d.b with
  | none =>
    rw [hb] at h
    obtain ⟨c, hc, rfl⟩ := List.mem_map.mp h
    refine ⟨by simp, fun s hs => .inl ?_⟩
    rw [List.mem_singleton.mp hs]
    exact (List.mem_filter.mp hc).1
  | some b =>
    rw [hb] at h
    obtain ⟨one, h1, h⟩ := List.mem_flatMap.mp h
    obtain ⟨two, h2, rfl⟩ := List.mem_map.mp h
    refine ⟨by simp, fun s hs => ?_⟩
    rcases List.mem_cons.mp hs with rfl | hs
    · exact .inl (List.mem_filter.mp h1).1
    · rw [List.mem_singleton.mp hs]
      exact .inr ⟨b, rfl, (List.mem_filter.mp (List.mem_filter.mp (List.mem_filter.mp h2).1).1).1⟩
theorem places_cells {d : Fd} {n : Nat} {shot : List Int} {p : Pl} (hd : d.ok) (h : p ∈ placesM d n shot) : ∀ s ∈ p, s.length ≤ 4 ∧ s ≠ [] ∧ ∀ x ∈ s, 0 ≤ x ∧ x < n := by
  intro s hs
  obtain ⟨h1, h4, hb⟩ := hd
  rcases (placesM_mem h).2 s hs with h | ⟨b, hb0, h⟩
  · have e := spansM_mem h
    exact ⟨by omega, fun z => by rw [z] at e; simp at e; omega, spansM_in h h1⟩
  · obtain ⟨h5, h6⟩ := hb b hb0
    have e := spansM_mem h
    exact ⟨by omega, fun z => by rw [z] at e; simp at e; omega, spansM_in h (by omega)⟩
theorem longest_run {d : Fd} {n : Nat} {l : List Int} {q : D} (hd : d.ok) (hn : n ≤ 40) (hq : SeqD q (l.map D.int)) (hg : Good n l) (hl : l.length ≤ 1000) : F_longest [.d d.obj, .d (.int n), .d q] [] = some (.ok (.d (encL (longM l (placesM d n [])))), []) := by
  unfold F_longest
  refine run_rt ?_
  refine (st_Seq (st_Expr (e_CallD rfl (c_checkn (h := 40) hn)))).trans ?_
  obtain ⟨o, eo⟩ := order_ok hq hg hl
  refine (st_Seq (st_Expr (e_CallD (xs := [.d (.int n), .d q]) rfl (cD (ds := [.int n, q]) rfl rfl eo)))).trans ?_
  refine (st_Seq (st_Set rfl)).trans ?_
  obtain ⟨sd2, own2, ef, s4, s5, rfl, rfl⟩ := for_pre (enc := tT) (tg := tgN 4) (p := lgB)
    (fun pre sd own => ∃ s4 s5, sd = [some (.d d.obj), some (.d (.int n)), some (.d q), some (.d (encL (longM l pre))), s4, s5] ∧ own = []) (placesM d n []) [some (.d d.obj), some (.d (.int n)), some (.d q), some (.d .non), none, none] [] ⟨none, none, rfl, rfl⟩
    (fun pre p post sd own e ⟨s4, s5, h1, h2⟩ => by
      subst h1 h2
      have hm : p ∈ placesM d n [] := by rw [e]; simp
      refine ⟨_, rfl, _, _, .inl (lgB_run (s5 := s5) hq (by have := (placesM_mem hm).1; omega) hl), some (.d (tT p)), some (.d (.int (missesM p l))), ?_, rfl⟩
      unfold longM
      rw [List.foldl_append]
      rfl)
  refine (st_Seq (st_For (e_iSeqL (e_CallD rfl (c_places (shot := []) (vs := []) hd (by omega) rfl))) ef)).trans rfl
theorem longM_max {l : List Int} : ∀ (ps : List Pl), ps = [] ∧ longM l ps = none ∨ ∃ (j k : Nat) (p : Pl), longM l ps = some (k, p) ∧ ps[j]? = some p ∧ missesM p l = k ∧ (∀ q ∈ ps, missesM q l ≤ k) ∧ ∀ (i : Nat) (q : Pl), i < j → ps[i]? = some q → missesM q l ≠ k := by
  suffices H : ∀ (m : Nat) (ps : List Pl), ps.length = m → ps = [] ∧ longM l ps = none ∨ ∃ (j k : Nat) (p : Pl), longM l ps = some (k, p) ∧ ps[j]? = some p ∧ missesM p l = k ∧ (∀ q ∈ ps, missesM q l ≤ k) ∧ ∀ (i : Nat) (q : Pl), i < j → ps[i]? = some q → missesM q l ≠ k from fun ps => H _ ps rfl
  intro m
  induction m with
  | zero => intro ps h; exact .inl ⟨List.length_eq_zero_iff.mp h, by rw [List.length_eq_zero_iff.mp h]; rfl⟩
  | succ m ih =>
    intro ps0 hlen
    right
    obtain ⟨ps, p, rfl⟩ : ∃ ps p, ps0 = ps ++ [p] := ⟨ps0.dropLast, ps0.getLast (fun z => by rw [z] at hlen; cases hlen), (List.dropLast_concat_getLast _).symm⟩
    have ih := ih ps (by simpa using hlen)
    have e : longM l (ps ++ [p]) = longStep l (longM l ps) p := by unfold longM; rw [List.foldl_append]; rfl
    rcases ih with ⟨rfl, e1⟩ | ⟨j, k, r, e1, h1, h2, h3, h4⟩
    · refine ⟨0, missesM p l, p, by rw [e, e1]; rfl, rfl, rfl, fun q hq => ?_, fun i q hi => absurd hi (Nat.not_lt_zero _)⟩
      rw [List.nil_append, List.mem_singleton] at hq
      rw [hq]
      exact Nat.le_refl _
    · have hj : j < ps.length := (List.getElem?_eq_some_iff.mp h1).1
      by_cases c : k < missesM p l
      · refine ⟨ps.length, missesM p l, p, by rw [e, e1]; exact if_pos c, by simp, rfl, fun q hq => ?_, fun i q hi hq => ?_⟩
        · rcases List.mem_append.mp hq with hq | hq
          · have := h3 q hq; omega
          · rw [List.mem_singleton.mp hq]; exact Nat.le_refl _
        · rw [List.getElem?_append_left hi] at hq
          have := h3 q (List.mem_of_getElem? hq)
          omega
      · refine ⟨j, k, r, by rw [e, e1]; exact if_neg c, by rw [List.getElem?_append_left hj]; exact h1, h2, fun q hq => ?_, fun i q hi hq => ?_⟩
        · rcases List.mem_append.mp hq with hq | hq
          · exact h3 q hq
          · rw [List.mem_singleton.mp hq]; omega
        · rw [List.getElem?_append_left (by omega)] at hq
          exact h4 i q hi hq
end Mx
end T_Mx8
section T_Pg2
set_option Elab.async false
set_option linter.all false
set_option maxRecDepth 100000
set_option maxHeartbeats 8000000
set_option pp.maxSteps 300
namespace Pg
open PySem Gx
def F_word_at : FM := runDef 5
  ((sSeq (sFor (iSeq (eV 0)) (tgN 3) (sIf (tE (eB (mIn false) (eV 1) (eV 3)))
    (sRet (eIf (tE (eCB (m1 mAll) (aCons (eLC (iSeq (eV 3)) [4] (tgN 4) tTrue (eOr (eB mEq (eV 4) (eV 1)) (eB (mIn false) (eV 4) (eV 2)))) aNil))) (eK (.str "sunk")) (eK (.str "hit"))))
    sNil))
    (sRet (eK (.str "miss")))))
def F_fits : FM := runDef 5
  ((sSeq (sSet 2 eDicH)
    (sSeq (sFor (iSeq (eV 1)) (tgU [3, 4]) (sSeq (sIf (tE (eB mNe (eCallV 3 F_word_at (aCons (eV 0) (aCons (eV 3) (aCons (eV 2) aNil)))) (eV 4)))
    (sRet (eK (.bl false)))
    sNil)
    (sPutD (eV 2) (eV 3) (eK (.bl true)))))
    (sRet (eK (.bl true))))))
def F_check_seen : FM := runDef 5
  ((sSeq (sSet 2 eDicH)
    (sFor (iEnum (eV 1)) (tgU [3, 4]) (sSeq (sIf (tOr (tNot (tE (eCB (m2 mIsi) (aCons (eV 4) (aCons (eK (.ty 3)) aNil))))) (tOr (tE (eB mNe (eCB (m1 mLen) (aCons (eV 4) aNil)) (eK (.int 2)))) (tNot (tE (eCallD 3 F_is_from (aCons (eB mIx (eV 4) (eK (.int 0))) (aCons (eK (.int 0)) (aCons (eB mSub (eV 0) (eK (.int 1))) aNil))))))))
    (sRaise 15 (aCons (eV 3) aNil))
    sNil)
    (sSeq (sIf (tOr (tNot (tE (eCallD 2 F_is_one_of (aCons (eB mIx (eV 4) (eK (.int 1))) (aCons (eK (.tup [.str "miss", .str "hit", .str "sunk"])) aNil))))) (tE (eB (mIn false) (eB mIx (eV 4) (eK (.int 0))) (eV 2))))
    (sRaise 15 (aCons (eV 3) aNil))
    sNil)
    (sPutD (eV 2) (eB mIx (eV 4) (eK (.int 0))) (eK (.bl true))))))))
def F_all_left : FM := runDef 4
  ((sRet (eLC (iSeq (eCallD 3 F_all_places (aCons (eV 0) (aCons (eV 1) (aCons eDic0 aNil))))) [3] (tgN 3) (tE (eCallD 2 F_fits (aCons (eV 3) (aCons (eV 2) aNil)))) (eV 3))))
def F_left : FM := runDef 3
  ((sSeq (sExpr (eCallD 2 F_check_number (aCons (eV 1) (aCons (eK (.int 40)) aNil))))
    (sSeq (sExpr (eCallD 2 F_check_seen (aCons (eV 1) (aCons (eV 2) aNil))))
    (sRet (eCallD 3 F_all_left (aCons (eV 0) (aCons (eV 1) (aCons (eV 2) aNil))))))))
def F_shot_in : FM := runDef 3
  ((sRet (eDC (iSeq (eV 0)) [1, 2] (tgU [1, 2]) tTrue (eV 1) (eK (.bl true)))))
def F_surely : FM := runDef 12
  ((sSeq (sExpr (eCallD 2 F_check_number (aCons (eV 1) (aCons (eK (.int 40)) aNil))))
    (sSeq (sExpr (eCallD 2 F_check_seen (aCons (eV 1) (aCons (eV 2) aNil))))
    (sSeq (sPar [3, 4] (aCons (eCallD 3 F_all_left (aCons (eV 0) (aCons (eV 1) (aCons (eV 2) aNil)))) (aCons (eCallD 1 F_shot_in (aCons (eV 2) aNil)) aNil)))
    (sSeq (sIf (tE (eB mEq (eV 3) (eLst aNil)))
    (sRet (eK .non))
    sNil)
    (sSeq (sSet 5 (eDCH (iRg1 (aCons (eV 1) aNil)) [7] (tgN 7) (tE (eB (mIn true) (eV 7) (eV 4))) (eV 7) (eK (.int 0))))
    (sSeq (sFor (iSeq (eV 3)) (tgN 6) (sFor (iSeq (eLC2 (iSeq (eV 6)) [9, 10] (tgN 9) tTrue (iSeq (eV 9)) [10] (tgN 10) (tE (eB (mIn false) (eV 10) (eV 5))) (eV 10))) (tgN 7) (sAugD (fun i j => i + j) (eV 5) (eV 7) (eK (.int 1)))))
    (sFrzD 5 (sSeq (sSet 8 (eCB (m1 mTupC) (aCons (eLC (iItm (eV 5)) [7, 11] (tgU [7, 11]) (tE (eB mEq (eV 11) (eCB (m1 mLen) (aCons (eV 3) aNil)))) (eV 7)) aNil)))
    (sRet (eTup (aCons (eV 8) (aCons (eCB (m1 mTupC) (aCons (eLC (iItm (eV 5)) [7, 11] (tgU [7, 11]) (tE (eB mEq (eV 11) (eK (.int 0)))) (eV 7)) aNil)) aNil)))))))))))))
def F_parted : FM := runDef 5
  ((sSeq (sSet 3 eDicH)
    (sSeq (sFor (iSeq (eV 0)) (tgN 4) (sExpr (eMut mmApp (eSetd (eV 3) (eCallD 3 F_word_at (aCons (eV 4) (aCons (eV 1) (aCons (eV 2) aNil)))) (eLstH aNil)) (aCons (eV 4) aNil))))
    (sFrzD 3 (sRet (eV 3))))))
def F_telling : FM := runDef 8
  ((sSeq (sExpr (eCallD 2 F_check_number (aCons (eV 1) (aCons (eK (.int 40)) aNil))))
    (sSeq (sExpr (eCallD 2 F_check_seen (aCons (eV 1) (aCons (eV 2) aNil))))
    (sSeq (sPar [3, 4] (aCons (eCallD 3 F_all_left (aCons (eV 0) (aCons (eV 1) (aCons (eV 2) aNil)))) (aCons (eCallD 1 F_shot_in (aCons (eV 2) aNil)) aNil)))
    (sSeq (sSet 5 (eLC (iRg1 (aCons (eV 1) aNil)) [6] (tgN 6) (tE (eB (mIn true) (eV 6) (eV 4))) (eV 6)))
    (sSeq (sIf (tOr (tE (eB mEq (eV 3) (eLst aNil))) (tE (eB mEq (eV 5) (eLst aNil))))
    (sRet (eK .non))
    sNil)
    (sRet (eB mIx (eCB (m1 (mMinT (.P .I .I))) (aCons (eLC (iSeq (eV 5)) [6] (tgN 6) tTrue (eTup (aCons (eCB (m1 mMaxL) (aCons (eLC (iVal (eCallD 3 F_parted (aCons (eV 3) (aCons (eV 6) (aCons (eV 4) aNil))))) [7] (tgN 7) tTrue (eCB (m1 mLen) (aCons (eV 7) aNil))) aNil)) (aCons (eV 6) aNil)))) aNil)) (eK (.int 1))))))))))
def F__law_fits : FM := runDef 5
  ((sSeq (sSet 2 (eLstH aNil))
    (sSeq (sFor (iSeq (eV 1)) (tgU [3, 4]) (sSeq (sIf (tE (eB mNe (eCallV 3 F__law_word (aCons (eV 0) (aCons (eV 3) (aCons (eV 2) aNil)))) (eV 4)))
    (sRet (eK (.bl false)))
    sNil)
    (sExpr (eMut mmApp (eV 2) (aCons (eV 3) aNil)))))
    (sRet (eK (.bl true))))))
end Pg
end T_Pg2
section T_Pg3
set_option Elab.async false
set_option linter.all false
set_option maxRecDepth 100000
set_option maxHeartbeats 8000000
set_option pp.maxSteps 300
namespace Pg
open PySem Gx
def F_multiple : FM := runDef 2
  ((sRet (eB mMul (eB mFdiv (eV 0) (eCallD 2 F_divisor (aCons (eV 0) (aCons (eV 1) aNil)))) (eV 1))))
def F_is_part : FM := runDef 1
  ((sSeq (sIf (tOr (tNot (tE (eCB (m2 mIsi) (aCons (eV 0) (aCons (eK (.ty 3)) aNil))))) (tE (eB mEq (eCB (m1 mLen) (aCons (eV 0) aNil)) (eK (.int 0)))))
    (sRet (eK (.bl false)))
    sNil)
    (sSeq (sIf (tE (eCallD 2 F_is_one_of (aCons (eB mIx (eV 0) (eK (.int 0))) (aCons (eK (.tup [.str "every", .str "every_back"])) aNil))))
    (sRet (eAnd (eB mEq (eCB (m1 mLen) (aCons (eV 0) aNil)) (eK (.int 3))) (eAnd (eCallD 3 F_is_from (aCons (eB mIx (eV 0) (eK (.int 1))) (aCons (eK (.int 1)) (aCons (eK (.int 6)) aNil)))) (eCallD 3 F_is_from (aCons (eB mIx (eV 0) (eK (.int 2))) (aCons (eK (.int 0)) (aCons (eB mSub (eB mIx (eV 0) (eK (.int 1))) (eK (.int 1))) aNil)))))))
    sNil)
    (sRet (eAnd (eCallD 2 F_is_one_of (aCons (eB mIx (eV 0) (eK (.int 0))) (aCons (eK (.tup [.str "back", .str "cell"])) aNil))) (eAnd (eB mEq (eCB (m1 mLen) (aCons (eV 0) aNil)) (eK (.int 2))) (eCallD 3 F_is_from (aCons (eB mIx (eV 0) (eK (.int 1))) (aCons (eK (.int 0)) (aCons (eK (.int 5)) aNil))))))))))
def F_Plan_init : FM := runDef 4
  ((sSeq (sIf (tOr (tNot (tE (eCB (m2 mIsi) (aCons (eV 1) (aCons (eK (.ty 3)) aNil))))) (tE (eB mGt (eCB (m1 mLen) (aCons (eV 1) aNil)) (eK (.int 4)))))
    (sRaise 14 (aCons (eK .non) aNil))
    sNil)
    (sSeq (sFor (iEnum (eV 1)) (tgU [2, 3]) (sIf (tOr (tNot (tE (eCallD 1 F_is_part (aCons (eV 3) aNil)))) (tE (eB (mIn false) (eV 3) (eSl (eV 1) oNo (oSo (eV 2))))))
    (sRaise 14 (aCons (eV 2) aNil))
    sNil))
    (sFldS 1 0 (eV 0) (eV 1)))))
def F_cells_of : FM := runDef 3
  ((sSeq (sIf (tE (eB mEq (eB mIx (eV 0) (eK (.int 0))) (eK (.str "every"))))
    (sRet (eLstR3 (aCons (eB mIx (eV 0) (eK (.int 2))) (aCons (eV 1) (aCons (eB mIx (eV 0) (eK (.int 1))) aNil)))))
    sNil)
    (sSeq (sIf (tE (eB mEq (eB mIx (eV 0) (eK (.int 0))) (eK (.str "every_back"))))
    (sRet (eLstR3 (aCons (eB mSub (eB mSub (eV 1) (eK (.int 1))) (eB mIx (eV 0) (eK (.int 2)))) (aCons (eU mNeg (eK (.int 1))) (aCons (eU mNeg (eB mIx (eV 0) (eK (.int 1)))) aNil)))))
    sNil)
    (sSeq (sSet 2 (eIf (tE (eB mEq (eB mIx (eV 0) (eK (.int 0))) (eK (.str "cell")))) (eB mIx (eV 0) (eK (.int 1))) (eB mSub (eB mSub (eV 1) (eK (.int 1))) (eB mIx (eV 0) (eK (.int 1))))))
    (sRet (eIf (tE (eCh mLe mLt (eK (.int 0)) (eV 2) (eV 1))) (eLst (aCons (eV 2) aNil)) (eLst aNil)))))))
def F_shot_by : FM := runDef 4
  ((sRet (eDC2 (iSeq (eFld 1 0 (eV 0))) [2, 3] (tgN 2) tTrue (iSeq (eCallD 2 F_cells_of (aCons (eV 2) (aCons (eV 1) aNil)))) [3] (tgN 3) tTrue (eV 3) (eK (.bl true)))))
def F_cells : FM := runDef 2
  ((sSeq (sExpr (eCallD 2 F_check_number (aCons (eV 1) (aCons (eK (.int 10000)) aNil))))
    (sRet (eCB (m1 mSortK) (aCons (eCallD 2 F_shot_by (aCons (eV 0) (aCons (eV 1) aNil))) aNil)))))
def F_period_of : FM := runDef 3
  ((sSeq (sSet 1 (eK (.int 1)))
    (sSeq (sFor (iSeq (eFld 1 0 (eV 0))) (tgN 2) (sSet 1 (eCallD 2 F_multiple (aCons (eV 1) (aCons (eIf (tE (eB (mIn false) (eB mIx (eV 2) (eK (.int 0))) (eK (.tup [.str "every", .str "every_back"])))) (eB mIx (eV 2) (eK (.int 1))) (eK (.int 1))) aNil)))))
    (sRet (eV 1)))))
def F_count_of : FM := runDef 7
  ((sSeq (sSet 1 (eCallD 1 F_period_of (aCons (eV 0) aNil)))
    (sSeq (sSet 2 (eLC (iRg1 (aCons (eB mAdd (eK (.int 12)) (eB mMul (eK (.int 2)) (eV 1))) aNil)) [5] (tgN 5) tTrue (eCB (m1 mLen) (aCons (eCallD 2 F_shot_by (aCons (eV 0) (aCons (eV 5) aNil))) aNil))))
    (sSeq (sSet 3 (eDC (iRg2 (aCons (eK (.int 12)) (aCons (eB mAdd (eK (.int 12)) (eV 1)) aNil))) [5] (tgN 5) tTrue (eB mMod (eV 5) (eV 1)) (eB mSub (eB mIx (eV 2) (eB mAdd (eV 5) (eV 1))) (eB mIx (eV 2) (eV 5)))))
    (sSeq (sSet 4 (eK (.int 12)))
    (sSeq (whL (tAnd (tE (eB mGt (eV 4) (eK (.int 0)))) (tE (eB mEq (eB mSub (eB mIx (eV 2) (eB mAdd (eB mSub (eV 4) (eK (.int 1))) (eV 1))) (eB mIx (eV 2) (eB mSub (eV 4) (eK (.int 1))))) (eB mIx (eV 3) (eB mMod (eB mSub (eV 4) (eK (.int 1))) (eV 1)))))) (sAug (fun i j => i - j) 4 (eK (.int 1))) 1000)
    (sRet (eTup (aCons (eV 4) (aCons (eV 1) (aCons (eCB (m1 mTupC) (aCons (eLC (iRg1 (aCons (eV 1) aNil)) [6] (tgN 6) tTrue (eB mIx (eV 3) (eV 6))) aNil)) (aCons (eCB (m1 mTupC) (aCons (eSl (eV 2) oNo (oSo (eB mAdd (eV 4) (eV 1)))) aNil)) aNil))))))))))))
def F_count : FM := runDef 1
  ((sRet (eCallD 1 F_count_of (aCons (eV 0) aNil))))
def F__law_parts : FM := runDef 8
  ((sSeq (sSet 3 (eLstH aNil))
    (sSeq (sFor (iRg1 (aCons (eCallZ 2 F__law_pick (aCons (eV 0) (aCons (eB mAdd (eV 1) (eK (.int 1))) aNil))) aNil)) (tgN 4) (sSeq (sPar [5, 6] (aCons (eCallZ 2 F__law_pick (aCons (eV 0) (aCons (eK (.int 6)) aNil))) (aCons (eB mIx (eV 2) (eCallZ 2 F__law_pick (aCons (eV 0) (aCons (eCB (m1 mLen) (aCons (eV 2) aNil)) aNil)))) aNil)))
    (sSeq (sSet 7 (eTup (aCons (eB mIx (eLst (aCons (eK (.str "every")) (aCons (eK (.str "every_back")) aNil))) (eB mMod (eV 5) (eK (.int 2)))) (aCons (eV 6) (aCons (eCallZ 2 F__law_pick (aCons (eV 0) (aCons (eV 6) aNil))) aNil)))))
    (sSeq (sIf (tE (eB mGt (eV 5) (eK (.int 3))))
    (sSet 7 (eTup (aCons (eB mIx (eLst (aCons (eK (.str "cell")) (aCons (eK (.str "back")) aNil))) (eB mMod (eV 5) (eK (.int 2)))) (aCons (eCallZ 2 F__law_pick (aCons (eV 0) (aCons (eK (.int 6)) aNil))) aNil))))
    sNil)
    (sIf (tE (eB (mIn true) (eV 7) (eV 3)))
    (sExpr (eMut mmApp (eV 3) (aCons (eV 7) aNil)))
    sNil)))))
    (sRet (eCB (m1 mTupC) (aCons (eV 3) aNil))))))
def F__law_is_shot : FM := runDef 4
  ((sSeq (sFor (iSeq (eV 0)) (tgN 3) (sSeq (sIf (tAnd (tE (eB mEq (eB mIx (eV 3) (eK (.int 0))) (eK (.str "every")))) (tE (eB mEq (eB mMod (eV 2) (eB mIx (eV 3) (eK (.int 1)))) (eB mIx (eV 3) (eK (.int 2))))))
    (sRet (eK (.bl true)))
    sNil)
    (sSeq (sIf (tAnd (tE (eB mEq (eB mIx (eV 3) (eK (.int 0))) (eK (.str "every_back")))) (tE (eB mEq (eB mMod (eB mSub (eB mSub (eV 1) (eK (.int 1))) (eV 2)) (eB mIx (eV 3) (eK (.int 1)))) (eB mIx (eV 3) (eK (.int 2))))))
    (sRet (eK (.bl true)))
    sNil)
    (sIf (tOr (tE (eB mEq (eV 3) (eTup (aCons (eK (.str "cell")) (aCons (eV 2) aNil))))) (tE (eB mEq (eV 3) (eTup (aCons (eK (.str "back")) (aCons (eB mSub (eB mSub (eV 1) (eK (.int 1))) (eV 2)) aNil))))))
    (sRet (eK (.bl true)))
    sNil))))
    (sRet (eK (.bl false)))))
def F__law_cells : FM := runDef 3
  ((sRet (eLC (iRg1 (aCons (eV 1) aNil)) [2] (tgN 2) (tE (eCallD 3 F__law_is_shot (aCons (eV 0) (aCons (eV 1) (aCons (eV 2) aNil))))) (eV 2))))
def F__law_period : FM := runDef 3
  ((sSeq (sSet 1 (eK (.int 1)))
    (sSeq (sFor (iSeq (eV 0)) (tgN 2) (sIf (tE (eB mEq (eCB (m1 mLen) (aCons (eV 2) aNil)) (eK (.int 3))))
    (sSet 1 (eB mFdiv (eB mMul (eV 1) (eB mIx (eV 2) (eK (.int 1)))) (eCallD 2 F__law_common (aCons (eV 1) (aCons (eB mIx (eV 2) (eK (.int 1))) aNil)))))
    sNil))
    (sRet (eV 1)))))
end Pg
end T_Pg3
section T_Ny1
set_option Elab.async false
set_option linter.all false
set_option maxRecDepth 100000
set_option maxHeartbeats 4000000
set_option pp.maxSteps 2000
namespace Ny
open PySem Gx Pg
theorem pick_ok : Draws F__law_pick := Mx.pick_ok
theorem callD_of {n : Nat} {Ff : FM} {xs : List SV} {ds : List D} {z : D} {o' : Own} (hd : dats xs = some ds) (hl : xs.length = n) (h : Ff xs [] = some (.ok (.d z), o')) (sd : Sl) (own : Own) : callD n Ff xs sd own = some (.ok (.d z), own) := by
  unfold callD
  rw [if_neg (fun z => z hl)]
  simp [hd, h, resD]
theorem callD_ex {n : Nat} {Ff : FM} {xs : List SV} {ds : List D} {c : Nat} {fs : List D} {o' : Own} (hd : dats xs = some ds) (hl : xs.length = n) (h : Ff xs [] = some (.ex c fs, o')) (sd : Sl) (own : Own) : callD n Ff xs sd own = some (.ex c fs, own) := by
  unfold callD
  rw [if_neg (fun z => z hl)]
  simp [hd, h]
/-- a part: every (back or not), step, place; back or cell, place -/
inductive Pt where
  | ev (b : Bool) (s p : Int) | sh (b : Bool) (j : Int)
  deriving DecidableEq
def Pt.toD : Pt → D
  | .ev false s p => .tup [.str "every", .int s, .int p]
  | .ev true s p => .tup [.str "every_back", .int s, .int p]
  | .sh false j => .tup [.str "cell", .int j]
  | .sh true j => .tup [.str "back", .int j]
def Pt.ok : Pt → Prop
  | .ev _ s p => 1 ≤ s ∧ s ≤ 6 ∧ 0 ≤ p ∧ p < s
  | .sh _ j => 0 ≤ j ∧ j < 6
def Pt.okS (ss : List Int) (x : Pt) : Prop := x.ok ∧ (match x with
  | .ev _ s _ => s ∈ ss
  | .sh _ _ => True)
theorem k1 : PyData.strOk ("every" : Str) = true := by decide +kernel
theorem k2 : PyData.strOk ("every_back" : Str) = true := by decide +kernel
theorem k3 : PyData.strOk ("cell" : Str) = true := by decide +kernel
theorem k4 : PyData.strOk ("back" : Str) = true := by decide +kernel
theorem ne12 : (("every" : Str) == "every_back") = false := by decide +kernel
theorem ne21 : (("every_back" : Str) == "every") = false := by decide +kernel
theorem ne13 : (("every" : Str) == "cell") = false := by decide +kernel
theorem ne14 : (("every" : Str) == "back") = false := by decide +kernel
theorem ne23 : (("every_back" : Str) == "cell") = false := by decide +kernel
theorem ne24 : (("every_back" : Str) == "back") = false := by decide +kernel
theorem ne31 : (("cell" : Str) == "every") = false := by decide +kernel
theorem ne41 : (("back" : Str) == "every") = false := by decide +kernel
theorem ne32 : (("cell" : Str) == "every_back") = false := by decide +kernel
theorem ne42 : (("back" : Str) == "every_back") = false := by decide +kernel
theorem ne34 : (("cell" : Str) == "back") = false := by decide +kernel
theorem ne43 : (("back" : Str) == "cell") = false := by decide +kernel
theorem pt_okN : ∀ x : Pt, okN 59 x.toD = true
  | .ev false s p => by show ([D.str "every", .int s, .int p]).all (okN 58) = true; simp [okN, k1]
  | .ev true s p => by show ([D.str "every_back", .int s, .int p]).all (okN 58) = true; simp [okN, k2]
  | .sh false j => by show ([D.str "cell", .int j]).all (okN 58) = true; simp [okN, k3]
  | .sh true j => by show ([D.str "back", .int j]).all (okN 58) = true; simp [okN, k4]
theorem pt_eqN (x y : Pt) : eqN 60 x.toD y.toD = decide (x = y) := by
  rcases x with ⟨_ | _, s, p⟩ | ⟨_ | _, j⟩ <;> rcases y with ⟨_ | _, s', p'⟩ | ⟨_ | _, j'⟩ <;>
    simp [Pt.toD, eqN, eqAll, ne12, ne21, ne13, ne14, ne23, ne24, ne31, ne41, ne32, ne42, ne34, ne43, Bool.decide_and] <;> rfl
theorem one_of {x : Str} {ys : List D} {b : Bool} (h : mIn false [] (.d (.str x)) (.d (.tup ys)) = some (.bl b)) : F_is_one_of [.d (.str x), .d (.tup ys)] [] = some (.ok (.d (.bl b)), []) := by
  simp [F_is_one_of, runDef, startD, mIsi, datV, tyOf, isTy, h]
theorem from_ {x l h : Int} : F_is_from [.d (.int x), .d (.int l), .d (.int h)] [] = some (.ok (.d (.bl (decide (l ≤ x ∧ x ≤ h)))), []) := by
  have e : F_is_integer [.d (.int x)] [] = some (.ok (.d (.bl true)), []) := rfl
  have e2 := callD_of (n := 1) (ds := [.int x]) rfl rfl e
  by_cases c1 : l ≤ x
  · by_cases c2 : x ≤ h
    · have d1 : decide (l ≤ x) = true := by simpa using c1
      simp [F_is_from, runDef, startD, e2, d1, c1, c2]
    · have d1 : decide (l ≤ x) = true := by simpa using c1
      simp [F_is_from, runDef, startD, e2, d1, c1, c2]
  · have d1 : decide (l ≤ x) = false := by simpa using c1
    simp [F_is_from, runDef, startD, e2, d1, c1]
theorem part_ok {x : Pt} (h : x.ok) : F_is_part [.d x.toD] [] = some (.ok (.d (.bl true)), []) := by
  have o1 : ∀ sd own, callD 2 F_is_one_of [.d (.str "every"), .d (.tup [.str "every", .str "every_back"])] sd own = some (.ok (.d (.bl true)), own) := callD_of rfl rfl (one_of (by kernel_rfl))
  have o2 : ∀ sd own, callD 2 F_is_one_of [.d (.str "every_back"), .d (.tup [.str "every", .str "every_back"])] sd own = some (.ok (.d (.bl true)), own) := callD_of rfl rfl (one_of (by kernel_rfl))
  have o3 : ∀ sd own, callD 2 F_is_one_of [.d (.str "cell"), .d (.tup [.str "every", .str "every_back"])] sd own = some (.ok (.d (.bl false)), own) := callD_of rfl rfl (one_of (by kernel_rfl))
  have o4 : ∀ sd own, callD 2 F_is_one_of [.d (.str "back"), .d (.tup [.str "every", .str "every_back"])] sd own = some (.ok (.d (.bl false)), own) := callD_of rfl rfl (one_of (by kernel_rfl))
  have o5 : ∀ sd own, callD 2 F_is_one_of [.d (.str "cell"), .d (.tup [.str "back", .str "cell"])] sd own = some (.ok (.d (.bl true)), own) := callD_of rfl rfl (one_of (by kernel_rfl))
  have o6 : ∀ sd own, callD 2 F_is_one_of [.d (.str "back"), .d (.tup [.str "back", .str "cell"])] sd own = some (.ok (.d (.bl true)), own) := callD_of rfl rfl (one_of (by kernel_rfl))
  have fr : ∀ (x l h : Int) (sd : Sl) (own : Own), callD 3 F_is_from [.d (.int x), .d (.int l), .d (.int h)] sd own = some (.ok (.d (.bl (decide (l ≤ x ∧ x ≤ h)))), own) := fun x l h => callD_of (ds := [.int x, .int l, .int h]) rfl rfl from_
  rcases x with ⟨_ | _, s, p⟩ | ⟨_ | _, j⟩
  · obtain ⟨h1, h2, h3, h4⟩ := h
    have d1 : decide (1 ≤ s ∧ s ≤ 6) = true := by simp; omega
    have d2 : decide (0 ≤ p ∧ p ≤ s - 1) = true := by simp; omega
    simp [F_is_part, runDef, startD, Pt.toD, mIsi, datV, tyOf, isTy, atI_pos, o1, fr, d1, d2]
  · obtain ⟨h1, h2, h3, h4⟩ := h
    have d1 : decide (1 ≤ s ∧ s ≤ 6) = true := by simp; omega
    have d2 : decide (0 ≤ p ∧ p ≤ s - 1) = true := by simp; omega
    simp [F_is_part, runDef, startD, Pt.toD, mIsi, datV, tyOf, isTy, atI_pos, o2, fr, d1, d2]
  · obtain ⟨h1, h2⟩ := h
    have d1 : decide (0 ≤ j ∧ j ≤ 5) = true := by simp; omega
    simp [F_is_part, runDef, startD, Pt.toD, mIsi, datV, tyOf, isTy, atI_pos, o3, o5, fr, d1]
  · obtain ⟨h1, h2⟩ := h
    have d1 : decide (0 ≤ j ∧ j ≤ 5) = true := by simp; omega
    simp [F_is_part, runDef, startD, Pt.toD, mIsi, datV, tyOf, isTy, atI_pos, o4, o6, fr, d1]

/-- what the loop over the parts says of the part at i -/
def stepB : SM := sIf (tOr (tNot (tE (eCallD 1 F_is_part (aCons (eV 3) aNil)))) (tE (eB (mIn false) (eV 3) (eSl (eV 1) oNo (oSo (eV 2))))))
    (sRaise 14 (aCons (eV 2) aNil))
    sNil
theorem step_good {xs : List D} {i : Nat} {d : D} {own : Own} (hp : F_is_part [.d d] [] = some (.ok (.d (.bl true)), [])) (hi : i ≤ xs.length) (h1 : okN 60 d = true) (h2 : (xs.take i).all (okN 59) = true) (h3 : ((xs.take i).any fun z => eqN 60 z d) = false) :
    stepB [some (.h 0), some (.d (.tup xs)), some (.d (.int i)), some (.d d)] own = some (.nx [some (.h 0), some (.d (.tup xs)), some (.d (.int i)), some (.d d)] own) := by
  have e1 := callD_of (n := 1) (ds := [d]) rfl rfl hp
  have e2 := cut_to (xs := xs) (k := i) (by omega) (by omega)
  have e3 : mIn false own (.d d) (.d (.tup (xs.take i))) = some (.bl false) := by
    rw [in_tup h1 h2, h3]; rfl
  simp [stepB, e1, e2, e3]

def Good (xs : List D) (i : Nat) : Prop := ∃ d, xs[i]? = some d ∧ F_is_part [.d d] [] = some (.ok (.d (.bl true)), []) ∧ okN 60 d = true ∧ (xs.take i).all (okN 59) = true ∧ ((xs.take i).any fun z => eqN 60 z d) = false
theorem enum_drop {xs : List D} {i : Nat} {d : D} (h : xs[i]? = some d) : (enumD xs).drop i = .tup [.int i, d] :: (enumD xs).drop (i + 1) := by
  have hi : i < (enumD xs).length := by
    rw [enumD_len]
    exact (List.getElem?_eq_some_iff.mp h).1
  have e : (enumD xs)[i]? = some (.tup [.int i, d]) := by
    unfold enumD
    rw [List.getElem?_map, List.getElem?_zipIdx, h]
    simp
  rw [List.drop_eq_getElem_cons hi]
  congr 1
  rw [List.getElem?_eq_getElem hi] at e
  exact Option.some.inj e
theorem loop_good {xs : List D} {own : Own} : ∀ n : Nat, (∀ i < n, Good xs i) → ∃ a b, forL (tgU [2, 3]) stepB (enumD xs) [some (.h 0), some (.d (.tup xs)), none, none] own = forL (tgU [2, 3]) stepB ((enumD xs).drop n) [some (.h 0), some (.d (.tup xs)), a, b] own
  | 0, _ => ⟨none, none, rfl⟩
  | n + 1, h => by
    obtain ⟨a, b, e⟩ := loop_good n fun i hi => h i (Nat.lt_succ_of_lt hi)
    obtain ⟨d, hd, h1, h2, h3, h4⟩ := h n (Nat.lt_succ_self n)
    have hl := (List.getElem?_eq_some_iff.mp hd).1
    refine ⟨some (.d (.int n)), some (.d d), ?_⟩
    rw [e, enum_drop hd, forL_1]
    have st := step_good (own := own) h1 (by omega) h2 h3 h4
    simp [st]
theorem init_ok {xs : List D} (h : ∀ i < xs.length, Good xs i) (hl : xs.length ≤ 4) : F_Plan_init [.h 0, .d (.tup xs)] [.ins 1 []] = some (.ok (.d .non), [.ins 1 [.d (.tup xs)]]) := by
  obtain ⟨a, b, e⟩ := loop_good (own := [.ins 1 []]) xs.length h
  have e0 : decide ((4 : Int) < xs.length) = false := by simp; omega
  have e2 : (enumD xs).drop xs.length = [] := List.drop_of_length_le (by rw [enumD_len]; exact Nat.le_refl _)
  rw [e2] at e
  unfold stepB at e
  simp [F_Plan_init, runDef, startD, mIsi, datV, tyOf, isTy, e0, e, putFld]
theorem makeD_of {x z : D} {o' : Own} {o : O} (h : F_Plan_init [.h 0, .d x] [.ins 1 []] = some (.ok (.d .non), o')) (h0 : o'[0]? = some o) (hz : frzO o = some z) (sd : Sl) (own : Own) : makeD 1 1 F_Plan_init [.d x] sd own = some (.ok (.d z), own) := by
  simp [makeD, h, h0, hz]
/-- what steps may be drawn of -/
def Steps (ss : List Int) : Prop := ss ≠ [] ∧ ss.length < 100 ∧ ∀ s ∈ ss, 1 ≤ s ∧ s ≤ 6
theorem steps_at {ss : List Int} {r : Int} (h : Steps ss) (h0 : 0 ≤ r) (h1 : r < ss.length) : ∃ s, 1 ≤ s ∧ s ≤ 6 ∧ L2.atI (ss.map D.int) r = some (.int s) := by
  have hr : r.toNat < ss.length := by omega
  obtain ⟨a, b⟩ := h.2.2 _ (List.getElem_mem hr)
  refine ⟨ss[r.toNat], a, b, ?_⟩
  rw [atI_pos h0, List.getElem?_map, List.getElem?_eq_getElem hr]; rfl
theorem at0 {a b : D} : L2.atI [a, b] 0 = some a := rfl
def lastB : SM := sIf (tE (eB (mIn true) (eV 7) (eV 3)))
    (sExpr (eMut mmApp (eV 3) (aCons (eV 7) aNil)))
    sNil
def partB : SM := (sSeq (sPar [5, 6] (aCons (eCallZ 2 F__law_pick (aCons (eV 0) (aCons (eK (.int 6)) aNil))) (aCons (eB mIx (eV 2) (eCallZ 2 F__law_pick (aCons (eV 0) (aCons (eCB (m1 mLen) (aCons (eV 2) aNil)) aNil)))) aNil)))
    (sSeq (sSet 7 (eTup (aCons (eB mIx (eLst (aCons (eK (.str "every")) (aCons (eK (.str "every_back")) aNil))) (eB mMod (eV 5) (eK (.int 2)))) (aCons (eV 6) (aCons (eCallZ 2 F__law_pick (aCons (eV 0) (aCons (eV 6) aNil))) aNil)))))
    (sSeq (sIf (tE (eB mGt (eV 5) (eK (.int 3))))
    (sSet 7 (eTup (aCons (eB mIx (eLst (aCons (eK (.str "cell")) (aCons (eK (.str "back")) aNil))) (eB mMod (eV 5) (eK (.int 2)))) (aCons (eCallZ 2 F__law_pick (aCons (eV 0) (aCons (eK (.int 6)) aNil))) aNil))))
    sNil)
    lastB)))
theorem pts_all (pts : List Pt) : (pts.map Pt.toD).all (okN 59) = true := by
  rw [List.all_map, List.all_eq_true]
  exact fun x _ => pt_okN x
theorem pts_any (pts : List Pt) (x : Pt) : ((pts.map Pt.toD).any fun z => eqN 60 z x.toD) = decide (x ∈ pts) := by
  rw [List.any_map]
  induction pts with
  | nil => rfl
  | cons y ys ih =>
    rw [List.any_cons, ih]
    show (eqN 60 y.toD x.toD || decide (x ∈ ys)) = decide (x ∈ y :: ys)
    rw [pt_eqN]
    by_cases c : y = x
    · subst c; simp
    · have : ¬ x = y := fun z => c z.symm
      simp [c, this]
theorem part_put {mo : D} {ss : List Int} {pts : List Pt} {o : O} {x : Pt} {a b c : Option SV} (hl : pts.length ≤ 100) :
    ∃ pts', lastB [some (.h 0), some (.d mo), some (.d (.lst (ss.map D.int))), some (.h 1), a, b, c, some (.d x.toD)] [o, .lst (pts.map Pt.toD)] =
      some (.nx [some (.h 0), some (.d mo), some (.d (.lst (ss.map D.int))), some (.h 1), a, b, c, some (.d x.toD)] [o, .lst (pts'.map Pt.toD)]) ∧ (pts' = pts ∨ (x ∉ pts ∧ pts' = pts ++ [x])) := by
  have e : mIn true [o, O.lst (pts.map Pt.toD)] (.d x.toD) (.h 1) = some (.bl (decide (x ∈ pts) != true)) := by
    rw [in_h (xs := pts.map Pt.toD) rfl (okN_mono 59 _ (pt_okN x)) (pts_all pts), pts_any]
  by_cases h : x ∈ pts
  · refine ⟨pts, ?_, .inl rfl⟩
    have e2 : (decide (x ∈ pts) != true) = false := by simp [h]
    rw [e2] at e
    simp [lastB, e]
  · refine ⟨pts ++ [x], ?_, .inr ⟨h, rfl⟩⟩
    have e2 : (decide (x ∈ pts) != true) = true := by simp [h]
    rw [e2] at e
    have hz : pts.length < 16777216 := by omega
    simp [lastB, e, lstV, mmApp, sizeL, hz]
theorem part_step {mo : D} {ss : List Int} (hS : Steps ss) {o : O} {pts : List Pt} {x a b c : Option SV} (R : Row o) (hl : pts.length ≤ 100) :
    ∃ (o' : O) (p : Pt) (pts' : List Pt) (a' b' c' : Option SV), partB [some (.h 0), some (.d mo), some (.d (.lst (ss.map D.int))), some (.h 1), x, a, b, c] [o, .lst (pts.map Pt.toD)] =
      some (.nx [some (.h 0), some (.d mo), some (.d (.lst (ss.map D.int))), some (.h 1), x, a', b', c'] [o', .lst (pts'.map Pt.toD)]) ∧ Row o' ∧ p.okS ss ∧ (pts' = pts ∨ (p ∉ pts ∧ pts' = pts ++ [p])) := by
  obtain ⟨r1, o1, h1, h1', R1, e1⟩ := draw_all pick_ok (m := 6) R (by omega) (by omega)
  have hlen : 1 ≤ ss.length := by cases ss with | nil => exact absurd rfl hS.1 | cons x t => simp
  obtain ⟨r2, o2, h2, h2', R2, e2⟩ := draw_all pick_ok (m := (ss.length : Int)) R1 (by omega) (by have := hS.2.1; omega)
  obtain ⟨st, hs1, hs2, es⟩ := steps_at hS h2 h2'
  have hst : st ∈ ss := by
    rw [atI_pos h2, List.getElem?_map] at es
    obtain ⟨y, e, e'⟩ := Option.map_eq_some_iff.mp es
    cases e'
    exact List.mem_of_getElem? e
  obtain ⟨r3, o3, h3, h3', R3, e3⟩ := draw_all pick_ok (m := st) R2 (by omega) (by omega)
  have q2 : (0 : Int) < 2 := by decide
  by_cases hb : 3 < r1
  · obtain ⟨r4, o4, h4, h4', R4, e4⟩ := draw_all pick_ok (m := 6) R3 (by omega) (by omega)
    have hd : decide (3 < r1) = true := by simpa using hb
    by_cases hm : r1 % 2 = 0
    · obtain ⟨pts', ep, hp⟩ := part_put (mo := mo) (ss := ss) (o := o4) (x := .sh false r4) (a := x) (b := some (.d (.int r1))) (c := some (.d (.int st))) hl
      refine ⟨o4, .sh false r4, pts', some (.d (.int r1)), some (.d (.int st)), some (.d (Pt.sh false r4).toD), ?_, R4, ⟨⟨h4, h4'⟩, trivial⟩, hp⟩
      simp only [Pt.toD] at ep
      simp [partB, Pt.toD, e1, e2, e3, e4, es, o_mod q2, two_at h1, at0, hm, hd, sizeL]
      exact ep
    · obtain ⟨pts', ep, hp⟩ := part_put (mo := mo) (ss := ss) (o := o4) (x := .sh true r4) (a := x) (b := some (.d (.int r1))) (c := some (.d (.int st))) hl
      refine ⟨o4, .sh true r4, pts', some (.d (.int r1)), some (.d (.int st)), some (.d (Pt.sh true r4).toD), ?_, R4, ⟨⟨h4, h4'⟩, trivial⟩, hp⟩
      simp only [Pt.toD] at ep
      simp [partB, Pt.toD, e1, e2, e3, e4, es, o_mod q2, two_at h1, at0, hm, hd, sizeL]
      exact ep
  · have hd : decide (3 < r1) = false := by simpa using hb
    by_cases hm : r1 % 2 = 0
    · obtain ⟨pts', ep, hp⟩ := part_put (mo := mo) (ss := ss) (o := o3) (x := .ev false st r3) (a := x) (b := some (.d (.int r1))) (c := some (.d (.int st))) hl
      refine ⟨o3, .ev false st r3, pts', some (.d (.int r1)), some (.d (.int st)), some (.d (Pt.ev false st r3).toD), ?_, R3, ⟨⟨hs1, hs2, h3, h3'⟩, hst⟩, hp⟩
      simp only [Pt.toD] at ep
      simp [partB, Pt.toD, e1, e2, e3, es, o_mod q2, two_at h1, at0, hm, hd, sizeL]
      exact ep
    · obtain ⟨pts', ep, hp⟩ := part_put (mo := mo) (ss := ss) (o := o3) (x := .ev true st r3) (a := x) (b := some (.d (.int r1))) (c := some (.d (.int st))) hl
      refine ⟨o3, .ev true st r3, pts', some (.d (.int r1)), some (.d (.int st)), some (.d (Pt.ev true st r3).toD), ?_, R3, ⟨⟨hs1, hs2, h3, h3'⟩, hst⟩, hp⟩
      simp only [Pt.toD] at ep
      simp [partB, Pt.toD, e1, e2, e3, es, o_mod q2, two_at h1, at0, hm, hd, sizeL]
      exact ep
theorem parts_ok {mo : Nat} (hmo : mo ≤ 100) {ss : List Int} (hS : Steps ss) {o : O} (R : Row o) : ∃ (pts : List Pt) (o' : O) (rest : Own), Row o' ∧ pts.Nodup ∧ pts.length ≤ mo ∧ (∀ x ∈ pts, x.okS ss) ∧ F__law_parts [.h 0, .d (.int mo), .d (.lst (ss.map D.int))] [o] = some (.ok (.d (.tup (pts.map Pt.toD))), o' :: rest) := by
  obtain ⟨n, o1, n0, n1, R1, e1⟩ := draw_all pick_ok (m := (mo : Int) + 1) R (by omega) (by omega)
  have rg : rgOk 0 n = true := rg_ok n0 (by omega)
  have lp := forL_inv (tg := tgN 4) (p := partB) (J := fun xs sd own => ∃ (o : O) (pts : List Pt) (x a b c : Option SV), sd = [some (.h 0), some (.d (.int mo)), some (.d (.lst (ss.map D.int))), some (.h 1), x, a, b, c] ∧ own = [o, .lst (pts.map Pt.toD)] ∧ Row o ∧ pts.Nodup ∧ (∀ x ∈ pts, x.okS ss) ∧ pts.length + xs.length ≤ mo)
    (rgD 0 n.toNat) [some (.h 0), some (.d (.int mo)), some (.d (.lst (ss.map D.int))), some (.h 1), none, none, none, none] [o1, .lst []] ⟨o1, [], none, none, none, none, rfl, rfl, R1, List.nodup_nil, fun x h => by simp at h, by unfold rgD; simp; omega⟩
    (fun d xs sd own ⟨o, pts, x, a, b, c, e1, e2, R, nd, ok, hl⟩ => by
      subst e1 e2
      rw [List.length_cons] at hl
      obtain ⟨o', p, pts', a', b', c', ep, R', okp, hp⟩ := part_step (mo := .int mo) hS (x := some (.d d)) (a := a) (b := b) (c := c) R (show pts.length ≤ 100 by omega)
      refine ⟨_, rfl, _, _, .inl ep, o', pts', some (.d d), a', b', c', rfl, rfl, R', ?_⟩
      rcases hp with rfl | ⟨h1, rfl⟩
      · exact ⟨nd, ok, by omega⟩
      · refine ⟨?_, fun y hy => ?_, by rw [List.length_append, List.length_singleton]; omega⟩
        · rw [List.nodup_append]
          exact ⟨nd, by simp, fun a ha b hb => by
            rw [List.mem_singleton] at hb
            subst hb
            intro z
            subst z
            exact h1 ha⟩
        · rcases List.mem_append.mp hy with hy | hy
          · exact ok y hy
          · rw [List.mem_singleton] at hy
            subst hy
            exact okp)
  obtain ⟨sd2, own2, el, o2, pts, x, a, b, c, e3, e4, R2, nd, ok, hl⟩ := lp
  subst e3 e4
  refine ⟨pts, o2, [.lst (pts.map Pt.toD)], R2, nd, by simpa using hl, ok, ?_⟩
  unfold partB lastB at el
  have et : mTupC [o2, O.lst (pts.map Pt.toD)] (.h 1) = some (.tup (pts.map Pt.toD)) := o_tuph rfl
  simp [F__law_parts, runDef, startD, e1, rg, el, et, sizeL]
def tD (pts : List Pt) : D := .tup (pts.map Pt.toD)
def plan (pts : List Pt) : D := .obj 1 [tD pts]
theorem parts_draw {mo : Nat} (hmo : mo ≤ 100) {ss : List Int} (hS : Steps ss) {o : O} (R : Row o) : ∃ (pts : List Pt) (o' : O), Row o' ∧ pts.Nodup ∧ pts.length ≤ mo ∧ (∀ x ∈ pts, x.okS ss) ∧ ∀ sd rest, callZ 3 F__law_parts [.h 0, .d (.int mo), .d (.lst (ss.map D.int))] sd (o :: rest) = some (.ok (.d (tD pts)), o' :: rest) := by
  obtain ⟨pts, o', r, R', nd, hl, ok, e⟩ := parts_ok hmo hS R
  refine ⟨pts, o', R', nd, hl, ok, fun sd rest => ?_⟩
  unfold callZ
  simp [row_flat R, row_flat R', e, tD] at e ⊢
theorem eq59 (x y : Pt) : eqN 59 x.toD y.toD = decide (x = y) := by
  rw [← eqN_mono 59 _ _ (pt_okN x) (pt_okN y), pt_eqN]
theorem eq_all : ∀ (p q : List Pt), eqAll (eqN 59) (p.map Pt.toD) (q.map Pt.toD) = decide (p = q)
  | [], [] => rfl
  | [], y :: q => rfl
  | x :: p, [] => rfl
  | x :: p, y :: q => by
    show (eqN 59 x.toD y.toD && eqAll (eqN 59) (p.map Pt.toD) (q.map Pt.toD)) = decide (x :: p = y :: q)
    rw [eq59, eq_all p q]
    by_cases c1 : x = y <;> by_cases c2 : p = q <;> simp [c1, c2]
theorem ok_tD (p : List Pt) : okN 60 (tD p) = true := pts_all p
theorem eq_tD (p q : List Pt) : eqN 60 (tD p) (tD q) = decide (p = q) := eq_all p q
theorem mEq_tD {own : Own} (p q : List Pt) : mEq own (.d (tD p)) (.d (tD q)) = some (.bl (decide (p = q))) := by
  show (if (okN 60 (tD p) && okN 60 (tD q)) = true then some (D.bl (eqN 60 (tD p) (tD q))) else none) = _
  rw [ok_tD, ok_tD, eq_tD]; rfl
theorem mNe_tD {own : Own} (p q : List Pt) : mNe own (.d (tD p)) (.d (tD q)) = some (.bl (!decide (p = q))) := by
  show (if (okN 60 (tD p) && okN 60 (tD q)) = true then some (D.bl (!eqN 60 (tD p) (tD q))) else none) = _
  rw [ok_tD, ok_tD, eq_tD]; rfl
theorem good_pts {pts : List Pt} (nd : pts.Nodup) (ok : ∀ x ∈ pts, x.ok) : ∀ i < (pts.map Pt.toD).length, Good (pts.map Pt.toD) i := by
  intro i hi
  rw [List.length_map] at hi
  refine ⟨pts[i].toD, by simp [hi], part_ok (ok _ (List.getElem_mem hi)), okN_mono 59 _ (pt_okN _), ?_, ?_⟩
  · rw [← List.map_take]; exact pts_all _
  · rw [← List.map_take, pts_any]
    simp only [decide_eq_false_iff_not]
    intro h
    have nd2 : (pts.take i ++ pts.drop i).Nodup := by rw [List.take_append_drop]; exact nd
    exact (List.nodup_append.mp nd2).2.2 _ h pts[i] (by rw [List.drop_eq_getElem_cons hi]; exact List.mem_cons_self ..) rfl
theorem plan_made {pts : List Pt} (nd : pts.Nodup) (ok : ∀ x ∈ pts, x.ok) (hl : pts.length ≤ 4) (sd : Sl) (own : Own) : makeD 1 1 F_Plan_init [.d (tD pts)] sd own = some (.ok (.d (plan pts)), own) :=
  makeD_of (o := .ins 1 [.d (tD pts)]) (init_ok (good_pts nd ok) (by simpa using hl)) rfl rfl sd own
end Ny
end T_Ny1
section T_Ny2
set_option Elab.async false
set_option linter.all false
set_option maxRecDepth 100000
set_option maxHeartbeats 4000000
set_option pp.maxSteps 2000
namespace Ny
open PySem Gx Pg
/-! ## counts of cells -/
/-- whether a part hits cell c of n -/
def hit (n c : Int) : Pt → Bool
  | .ev false s p => decide (c % s = p)
  | .ev true s p => decide ((n - 1 - c) % s = p)
  | .sh false j => decide (j = c)
  | .sh true j => decide (j = n - 1 - c)
def shot (pts : List Pt) (n c : Nat) : Bool := pts.any (hit n c)
def cellsN (pts : List Pt) (n : Nat) : List Nat := (List.range n).filter (shot pts n)
def cnt (pts : List Pt) (n : Nat) : Nat := (cellsN pts n).length
def cf (f : Nat → Bool) (n : Nat) : Nat := ((List.range n).filter f).length
theorem cf_add (f : Nat → Bool) (a b : Nat) : cf f (a + b) = cf f a + cf (fun i => f (a + i)) b := by
  unfold cf
  rw [List.range_add, List.filter_append, List.length_append, List.filter_map, List.length_map]
  rfl
theorem cf_congr {f g : Nat → Bool} {n : Nat} (h : ∀ i < n, f i = g i) : cf f n = cf g n := by
  unfold cf
  rw [List.filter_congr fun x hx => h x (List.mem_range.mp hx)]
theorem any_congr {pts : List Pt} {f g : Pt → Bool} (h : ∀ x ∈ pts, f x = g x) : pts.any f = pts.any g := by
  induction pts with
  | nil => rfl
  | cons y ys ih => rw [List.any_cons, List.any_cons, h y (by simp), ih fun x hx => h x (by simp [hx])]
/-- P is a multiple of the part's step -/
def Pt.dv (P : Nat) : Pt → Prop
  | .ev _ s _ => s ∣ (P : Int)
  | .sh _ _ => True
def Per (pts : List Pt) (P : Nat) : Prop := 0 < P ∧ ∀ x ∈ pts, x.ok ∧ x.dv P
theorem mod_add {a s P : Int} (h : s ∣ P) : (a + P) % s = a % s := by
  obtain ⟨k, rfl⟩ := h
  exact Int.add_mul_emod_self_left a s k
theorem hit_low {n P c : Nat} {x : Pt} (hn : 12 ≤ n) (hc : c < 6) (h : x.ok) (hp : x.dv P) : hit ((n + P : Nat) : Int) c x = hit n c x := by
  rcases x with ⟨_ | _, s, p⟩ | ⟨_ | _, j⟩
  · rfl
  · show decide ((((n + P : Nat) : Int) - 1 - c) % s = p) = decide (((n : Int) - 1 - c) % s = p)
    rw [show ((n + P : Nat) : Int) - 1 - c = ((n : Int) - 1 - c) + P by omega, mod_add (s := s) hp]
  · rfl
  · obtain ⟨h1, h2⟩ := h
    simp only [hit]
    congr 1
    exact propext ⟨fun e => by omega, fun e => by omega⟩
theorem hit_high {n P c : Nat} {x : Pt} (hc : 6 ≤ c) (h : x.ok) (hp : x.dv P) : hit ((n + P : Nat) : Int) ((c + P : Nat) : Int) x = hit n c x := by
  rcases x with ⟨_ | _, s, p⟩ | ⟨_ | _, j⟩
  · show decide (((c + P : Nat) : Int) % s = p) = decide ((c : Int) % s = p)
    rw [show ((c + P : Nat) : Int) = (c : Int) + P by omega, mod_add (s := s) hp]
  · show decide ((((n + P : Nat) : Int) - 1 - ((c + P : Nat) : Int)) % s = p) = decide (((n : Int) - 1 - c) % s = p)
    rw [show ((n + P : Nat) : Int) - 1 - ((c + P : Nat) : Int) = (n : Int) - 1 - c by omega]
  · obtain ⟨h1, h2⟩ := h
    simp only [hit]
    congr 1
    exact propext ⟨fun e => by omega, fun e => by omega⟩
  · simp only [hit]
    congr 1
    exact propext ⟨fun e => by omega, fun e => by omega⟩
theorem hit_mid {n P c : Nat} {x : Pt} (hn : 12 ≤ n) (hc : 6 ≤ c) (hc2 : c < 6 + P) (h : x.ok) (hp : x.dv P) : hit ((n + P + P : Nat) : Int) c x = hit ((n + P : Nat) : Int) c x := by
  rcases x with ⟨_ | _, s, p⟩ | ⟨_ | _, j⟩
  · rfl
  · show decide ((((n + P + P : Nat) : Int) - 1 - c) % s = p) = decide ((((n + P : Nat) : Int) - 1 - c) % s = p)
    rw [show ((n + P + P : Nat) : Int) - 1 - c = (((n + P : Nat) : Int) - 1 - c) + P by omega, mod_add (s := s) hp]
  · rfl
  · obtain ⟨h1, h2⟩ := h
    simp only [hit]
    congr 1
    exact propext ⟨fun e => by omega, fun e => by omega⟩
/-- what a period more gives, from twelve cells on -/
def gain (pts : List Pt) (P n : Nat) : Nat := cf (fun i => shot pts (n + P) (6 + i)) P
theorem cnt_gain {pts : List Pt} {P n : Nat} (h : Per pts P) (hn : 12 ≤ n) : cnt pts (n + P) = cnt pts n + gain pts P n := by
  have e1 : cnt pts (n + P) = cf (shot pts (n + P)) (6 + (P + (n - 6))) := by
    show cf _ (n + P) = _
    rw [show 6 + (P + (n - 6)) = n + P by omega]
  have e2 : cnt pts n = cf (shot pts n) (6 + (n - 6)) := by
    show cf _ n = _
    rw [show 6 + (n - 6) = n by omega]
  rw [e1, e2, cf_add, cf_add, cf_add (shot pts n)]
  have a1 : cf (shot pts (n + P)) 6 = cf (shot pts n) 6 := cf_congr fun c hc => any_congr fun x hx => hit_low hn hc (h.2 x hx).1 (h.2 x hx).2
  have a2 : cf (fun i => shot pts (n + P) (6 + (P + i))) (n - 6) = cf (fun i => shot pts n (6 + i)) (n - 6) := cf_congr fun i hi => by
    show shot pts (n + P) (6 + (P + i)) = shot pts n (6 + i)
    rw [show 6 + (P + i) = 6 + i + P by omega]
    exact any_congr fun x hx => hit_high (by omega) (h.2 x hx).1 (h.2 x hx).2
  rw [a1, a2]
  show _ = _ + gain pts P n
  unfold gain
  omega
theorem gain_per {pts : List Pt} {P n : Nat} (h : Per pts P) (hn : 12 ≤ n) : gain pts P (n + P) = gain pts P n :=
  cf_congr fun i hi => any_congr fun x hx => hit_mid hn (by omega) (by omega) (h.2 x hx).1 (h.2 x hx).2
theorem gain_mod {pts : List Pt} {P : Nat} (h : Per pts P) {n : Nat} (hn : 12 ≤ n) : gain pts P n = gain pts P (12 + (n - 12) % P) := by
  have key : ∀ k m, 12 ≤ m → gain pts P (m + k * P) = gain pts P m := by
    intro k
    induction k with
    | zero => intro m _; simp
    | succ k ih =>
      intro m hm
      rw [show m + (k + 1) * P = (m + k * P) + P by rw [Nat.succ_mul]; omega, gain_per h (by omega), ih m hm]
  have e : n = (12 + (n - 12) % P) + (n - 12) / P * P := by
    have := Nat.div_add_mod (n - 12) P
    rw [Nat.mul_comm] at this
    omega
  conv => lhs; rw [e]
  exact key _ _ (by omega)
end Ny
end T_Ny2
section T_Ny3
set_option Elab.async false
set_option linter.all false
set_option maxRecDepth 100000
set_option maxHeartbeats 4000000
set_option pp.maxSteps 2000
namespace Ny
open PySem Gx Pg
/-! ## the program's cells of a part -/
def cellsP (n : Nat) : Pt → List Int
  | .ev false s p => Gx.stepI p s (stepN p n s)
  | .ev true s p => Gx.stepI ((n : Int) - 1 - p) (-s) (stepN ((n : Int) - 1 - p) (-1) (-s))
  | .sh false j => if 0 ≤ j ∧ j < n then [j] else []
  | .sh true j => if 0 ≤ (n : Int) - 1 - j ∧ (n : Int) - 1 - j < n then [(n : Int) - 1 - j] else []
theorem size_nat (a b c : Int) : Builtin.Range.rangeSize a b c = (stepN a b c : Int) := PyProof.Rows.rangeSize_toNat a b c
theorem size_le (a b c : Int) : stepN a b c ≤ (b - a).toNat + (a - b).toNat := PyProof.Rows.rangeSize_toNat_le a b c
theorem fits {i : Int} (h : -1000000 ≤ i) (h2 : i ≤ 1000000) : Builtin.Range.rangeFitsLong i = true := by
  unfold Builtin.Range.rangeFitsLong
  rw [Bool.and_eq_true, decide_eq_true_eq, decide_eq_true_eq]
  exact ⟨Int.le_trans (by decide) h, Int.lt_of_le_of_lt h2 (by decide)⟩
theorem stepOk_up {a b s : Int} (ha : -100000 ≤ a) (ha2 : a ≤ 100000) (hb : -100000 ≤ b) (hb2 : b ≤ 100000) (hs : 1 ≤ s) (hs2 : s ≤ 6) : stepOk a b s = true := by
  have z := size_le a b s
  refine decide_eq_true ⟨by omega, by omega, ?_, size_nat a b s, by omega⟩
  unfold Builtin.Range.small
  rw [size_nat]
  simp [fits (i := a) (by omega) (by omega), fits (i := b) (by omega) (by omega), fits (i := s) (by omega) (by omega), fits (i := (stepN a b s : Int)) (by omega) (by omega), fits (i := b + (s - 1)) (by omega) (by omega)]
  exact .inr (.inl (by omega))
theorem stepOk_down {a b s : Int} (ha : -100000 ≤ a) (ha2 : a ≤ 100000) (hb : -100000 ≤ b) (hb2 : b ≤ 100000) (hs : 1 ≤ s) (hs2 : s ≤ 6) : stepOk a b (-s) = true := by
  have z := size_le a b (-s)
  refine decide_eq_true ⟨by omega, by omega, ?_, size_nat a b (-s), by omega⟩
  unfold Builtin.Range.small
  rw [size_nat]
  simp [fits (i := a) (by omega) (by omega), fits (i := b) (by omega) (by omega), fits (i := -s) (by omega) (by omega), fits (i := (stepN a b (-s) : Int)) (by omega) (by omega), fits (i := b + (-s + 1)) (by omega) (by omega)]
  exact .inr (.inl (by omega))
theorem cellsP_len {n : Nat} {x : Pt} (h : x.ok) (hn : n ≤ 20000) : (cellsP n x).length ≤ n + 6 := by
  rcases x with ⟨_ | _, s, p⟩ | ⟨_ | _, j⟩
  · obtain ⟨h1, h2, h3, h4⟩ := h
    have z := size_le p n s
    unfold cellsP Gx.stepI
    rw [List.length_map, List.length_range]
    omega
  · obtain ⟨h1, h2, h3, h4⟩ := h
    have z := size_le ((n : Int) - 1 - p) (-1) (-s)
    unfold cellsP Gx.stepI
    rw [List.length_map, List.length_range]
    omega
  · show (if 0 ≤ j ∧ j < n then [j] else []).length ≤ n + 6
    split
    · simp
    · simp
  · show (if 0 ≤ (n : Int) - 1 - j ∧ (n : Int) - 1 - j < n then [(n : Int) - 1 - j] else []).length ≤ n + 6
    split
    · simp
    · simp
theorem mem_up {a b s x : Int} (hs : 1 ≤ s) : x ∈ Gx.stepI a s (stepN a b s) ↔ a ≤ x ∧ x < b ∧ (x - a) % s = 0 := by
  unfold Gx.stepI
  rw [List.mem_map]
  have e : (stepN a b s : Int) = if a < b then (b - a - 1) / s + 1 else 0 := by
    rw [← size_nat]; unfold Builtin.Range.rangeSize; rw [if_pos (by omega)]
  constructor
  · rintro ⟨k, hk, rfl⟩
    rw [List.mem_range] at hk
    have hk : (k : Int) < stepN a b s := by omega
    rw [e] at hk
    split at hk
    · have h1 : (k : Int) ≤ (b - a - 1) / s := by omega
      have h2 := (Int.le_ediv_iff_mul_le (by omega : (0 : Int) < s)).mp h1
      have h3 : (0 : Int) ≤ k * s := Int.mul_nonneg (by omega) (by omega)
      refine ⟨by omega, by omega, ?_⟩
      rw [show a + (k : Int) * s - a = k * s by omega]
      exact Int.mul_emod_left _ _
    · omega
  · rintro ⟨h1, h2, h3⟩
    have h4 := Int.mul_ediv_add_emod (x - a) s
    rw [h3] at h4
    have h5 : 0 ≤ (x - a) / s := Int.ediv_nonneg (by omega) (by omega)
    refine ⟨((x - a) / s).toNat, ?_, ?_⟩
    · rw [List.mem_range]
      have h6 : (x - a) / s ≤ (b - a - 1) / s := Int.ediv_le_ediv (by omega) (by omega)
      rw [if_pos (by omega)] at e
      omega
    · rw [Int.toNat_of_nonneg h5, Int.mul_comm]; omega
theorem mem_down {a b s x : Int} (hs : 1 ≤ s) : x ∈ Gx.stepI a (-s) (stepN a b (-s)) ↔ b < x ∧ x ≤ a ∧ (a - x) % s = 0 := by
  unfold Gx.stepI
  rw [List.mem_map]
  have e : (stepN a b (-s) : Int) = if a > b then (a - b - 1) / s + 1 else 0 := by
    rw [← size_nat]; unfold Builtin.Range.rangeSize; rw [if_neg (by omega), Int.neg_neg]
  constructor
  · rintro ⟨k, hk, rfl⟩
    rw [List.mem_range] at hk
    have hk : (k : Int) < stepN a b (-s) := by omega
    rw [e] at hk
    rw [Int.mul_neg]
    split at hk
    · have h1 : (k : Int) ≤ (a - b - 1) / s := by omega
      have h2 := (Int.le_ediv_iff_mul_le (by omega : (0 : Int) < s)).mp h1
      have h3 : (0 : Int) ≤ k * s := Int.mul_nonneg (by omega) (by omega)
      refine ⟨by omega, by omega, ?_⟩
      rw [show a - (a + -((k : Int) * s)) = k * s by omega]
      exact Int.mul_emod_left _ _
    · omega
  · rintro ⟨h1, h2, h3⟩
    have h4 := Int.mul_ediv_add_emod (a - x) s
    rw [h3] at h4
    have h5 : 0 ≤ (a - x) / s := Int.ediv_nonneg (by omega) (by omega)
    refine ⟨((a - x) / s).toNat, ?_, ?_⟩
    · rw [List.mem_range]
      have h6 : (a - x) / s ≤ (a - b - 1) / s := Int.ediv_le_ediv (by omega) (by omega)
      rw [if_pos (by omega)] at e
      omega
    · rw [Int.toNat_of_nonneg h5, Int.mul_neg, Int.mul_comm]; omega
theorem mem_cellsP {n : Nat} {x : Pt} (h : x.ok) {c : Int} : c ∈ cellsP n x ↔ 0 ≤ c ∧ c < n ∧ hit n c x = true := by
  rcases x with ⟨_ | _, s, p⟩ | ⟨_ | _, j⟩
  · obtain ⟨h1, h2, h3, h4⟩ := h
    show c ∈ Gx.stepI p s (stepN p n s) ↔ 0 ≤ c ∧ c < n ∧ decide (c % s = p) = true
    rw [mem_up h1, decide_eq_true_eq]
    constructor
    · rintro ⟨a, b, e⟩
      refine ⟨by omega, b, ?_⟩
      rw [← Int.emod_emod_of_dvd c (Int.dvd_refl s)]
      have := Int.emod_emod_of_dvd c (Int.dvd_refl s)
      have e2 : c = p + s * ((c - p) / s) := by have := Int.mul_ediv_add_emod (c - p) s; omega
      rw [Int.emod_emod_of_dvd _ (Int.dvd_refl s), e2, Int.add_mul_emod_self_left]
      exact Int.emod_eq_of_lt h3 h4
    · rintro ⟨a, b, e⟩
      have e2 := Int.mul_ediv_add_emod c s
      have h5 : 0 ≤ c / s := Int.ediv_nonneg a (by omega)
      have h6 : 0 ≤ s * (c / s) := Int.mul_nonneg (by omega) h5
      refine ⟨by omega, b, ?_⟩
      rw [show c - p = s * (c / s) by omega]
      exact Int.mul_emod_right _ _
  · obtain ⟨h1, h2, h3, h4⟩ := h
    show c ∈ Gx.stepI ((n : Int) - 1 - p) (-s) (stepN ((n : Int) - 1 - p) (-1) (-s)) ↔ 0 ≤ c ∧ c < n ∧ decide (((n : Int) - 1 - c) % s = p) = true
    rw [mem_down h1, decide_eq_true_eq]
    generalize hd : (n : Int) - 1 - c = d
    rw [show (n : Int) - 1 - p - c = d - p by omega]
    constructor
    · rintro ⟨a, b, e⟩
      refine ⟨by omega, by omega, ?_⟩
      have e2 : d = p + s * ((d - p) / s) := by have := Int.mul_ediv_add_emod (d - p) s; omega
      rw [e2, Int.add_mul_emod_self_left]
      exact Int.emod_eq_of_lt h3 h4
    · rintro ⟨a, b, e⟩
      have e2 := Int.mul_ediv_add_emod d s
      have h5 : 0 ≤ d / s := Int.ediv_nonneg (by omega) (by omega)
      have h6 : 0 ≤ s * (d / s) := Int.mul_nonneg (by omega) h5
      refine ⟨by omega, by omega, ?_⟩
      rw [show d - p = s * (d / s) by omega]
      exact Int.mul_emod_right _ _
  · show c ∈ (if 0 ≤ j ∧ j < n then [j] else []) ↔ 0 ≤ c ∧ c < n ∧ decide (j = c) = true
    rw [decide_eq_true_eq]
    split
    · rw [List.mem_singleton]; omega
    · simp; omega
  · show c ∈ (if 0 ≤ (n : Int) - 1 - j ∧ (n : Int) - 1 - j < n then [(n : Int) - 1 - j] else []) ↔ 0 ≤ c ∧ c < n ∧ decide (j = (n : Int) - 1 - c) = true
    rw [decide_eq_true_eq]
    split
    · rw [List.mem_singleton]; omega
    · simp; omega
/-! ## the keys of a dict of cells -/
def addK (ks : List Int) (c : Int) : List Int := if c ∈ ks then ks else ks ++ [c]
def kd (ks : List Int) : List D × List D := (ks.map D.int, ks.map fun _ => D.bl true)
def keysP (pts : List Pt) (n : Nat) : List Int := pts.foldl (fun ks x => (cellsP n x).foldl addK ks) []
theorem mem_addK {ks : List Int} {c d : Int} : d ∈ addK ks c ↔ d ∈ ks ∨ d = c := by
  unfold addK
  split
  · constructor
    · exact .inl
    · rintro (h | rfl)
      · exact h
      · assumption
  · simp
theorem nodup_addK {ks : List Int} {c : Int} (h : ks.Nodup) : (addK ks c).Nodup := by
  unfold addK
  split
  · exact h
  · rw [List.nodup_append]
    exact ⟨h, by simp, fun a ha b hb => by
      rw [List.mem_singleton] at hb
      subst hb
      intro z
      subst z
      contradiction⟩
theorem mem_foldK : ∀ (cs ks : List Int) (d : Int), d ∈ cs.foldl addK ks ↔ d ∈ ks ∨ d ∈ cs
  | [], ks, d => by simp
  | c :: cs, ks, d => by
    rw [List.foldl_cons, mem_foldK cs, mem_addK, List.mem_cons]
    constructor
    · rintro ((h | h) | h)
      · exact .inl h
      · exact .inr (.inl h)
      · exact .inr (.inr h)
    · rintro (h | h | h)
      · exact .inl (.inl h)
      · exact .inl (.inr h)
      · exact .inr h
theorem nodup_foldK : ∀ (cs ks : List Int), ks.Nodup → (cs.foldl addK ks).Nodup
  | [], _, h => h
  | c :: cs, _, h => nodup_foldK cs _ (nodup_addK h)
theorem len_addK {ks : List Int} {c : Int} : (addK ks c).length ≤ ks.length + 1 := by unfold addK; split <;> simp
theorem len_foldK : ∀ (cs ks : List Int), (cs.foldl addK ks).length ≤ ks.length + cs.length
  | [], _ => by simp
  | c :: cs, ks => by
    have h1 := len_foldK cs (addK ks c)
    have h2 := len_addK (ks := ks) (c := c)
    rw [List.foldl_cons, List.length_cons]
    omega
theorem hasK_ints {c : Int} : ∀ ks : List Int, hasK (.inl c) (ks.map D.int) = decide (c ∈ ks)
  | [] => by simp [hasK]
  | k :: ks => by
    show (decide (keyOf (D.int k) = some (Sum.inl c)) || hasK (.inl c) (ks.map D.int)) = _
    rw [hasK_ints ks]
    show (decide (some (Sum.inl k) = some (Sum.inl c)) || decide (c ∈ ks)) = _
    by_cases e : c = k
    · subst e; simp
    · have e2 : ¬ (some (Sum.inl k : L2.Key) = some (Sum.inl c)) := fun z => e (by cases z; rfl)
      simp [e, e2]
theorem setK_trues {c : Int} : ∀ ks : List Int, setK (.inl c) (.bl true) (ks.map D.int) (ks.map fun _ => D.bl true) = ks.map fun _ => D.bl true
  | [] => rfl
  | k :: ks => by
    show (if keyOf (D.int k) = some (Sum.inl c) then D.bl true else D.bl true) :: setK (.inl c) (.bl true) (ks.map D.int) (ks.map fun _ => D.bl true) = _
    rw [setK_trues ks, ite_self]
    rfl
theorem put_kd (ks : List Int) (c : Int) : putKD (.inl c) (.bl true) (kd ks).1 (kd ks).2 = kd (addK ks c) := by
  unfold putKD kd addK
  simp only [hasK_ints]
  by_cases h : c ∈ ks
  · simp only [if_pos h, decide_eq_true h, if_true, setK_trues]
  · rw [if_neg h, if_neg (by simpa using h)]
    simp [keyD]
theorem dcL_kd {tg : GM} {sd0 : Sl} {own : Own} {fk : EM} (hk : ∀ c : Int, ∃ sd1, tg (.int c) sd0 = some sd1 ∧ fk sd1 own = some (.ok (.d (.int c)), own)) : ∀ (cs ks : List Int), dcL tg tTrue fk (eK (.bl true)) sd0 (cs.map D.int) (kd ks) own = some (kd (cs.foldl addK ks), own)
  | [], _ => rfl
  | c :: cs, ks => by
    obtain ⟨sd1, e1, e2⟩ := hk c
    rw [List.map_cons]
    unfold dcL
    rw [e1]
    show (match fk sd1 own with
        | some (.ok (.d c), o2) => (match keyOf c with
          | some k => (match (eK (.bl true)) sd1 o2 with
            | some (.ok (.d d), o3) => dcL tg tTrue fk (eK (.bl true)) sd0 (cs.map D.int) (putKD k d (kd ks).1 (kd ks).2) o3
            | _ => none)
          | none => none)
        | _ => none) = _
    rw [e2]
    show dcL tg tTrue fk (eK (.bl true)) sd0 (cs.map D.int) (putKD (.inl c) (.bl true) (kd ks).1 (kd ks).2) own = _
    rw [put_kd, dcL_kd hk cs]
    rfl
end Ny
end T_Ny3
section T_Ny4
set_option Elab.async false
set_option linter.all false
set_option maxRecDepth 100000
set_option maxHeartbeats 4000000
set_option pp.maxSteps 2000
namespace Ny
open PySem Gx Pg Mx
theorem e_LstR3 {f : AM} {sd : Sl} {own o1 : Own} {i j c : Int} (h : f sd own = some (.ok [.d (.int i), .d (.int j), .d (.int c)], o1)) (ok : stepOk i j c = true) : eLstR3 f sd own = some (.ok (.d (lI (Gx.stepI i c (stepN i j c)))), o1) := by
  unfold eLstR3
  rw [s_bind_ok h]
  rw [s_ask]
  simp only [if_pos ok]
  rfl
theorem e_ChB {m m' : Own → SV → SV → Option D} {f g h : EM} {sd : Sl} {own : Own} {x y w : SV} {a b : Bool} (hf : f sd own = some (.ok x, own)) (hg : g sd own = some (.ok y, own)) (hm : m own x y = some (.bl a)) (hh : h sd own = some (.ok w, own)) (hm' : m' own y w = some (.bl b)) :
    eCh m m' f g h sd own = some (.ok (.d (.bl (a && b))), own) := by
  unfold eCh
  rw [s_bind_ok hf, s_bind_ok hg]
  have : M.ask (fun own => m own x y) sd own = some (.ok (.bl a), own) := by rw [s_ask, hm]
  rw [s_bind_ok this]
  cases a with
  | false => rfl
  | true =>
    show (h.bind fun w => M.ask fun own => (m' own y w).map SV.d) sd own = _
    rw [s_bind_ok hh, s_ask, hm']
    rfl
theorem cells_one {c : Int} {n : Nat} {s0 : Option SV} : (eIf (tE (eCh mLe mLt (eK (.int 0)) (eV 2) (eV 1))) (eLst (aCons (eV 2) aNil)) (eLst aNil)) [s0, some (.d (.int n)), some (.d (.int c))] [] = some (.ok (.d (lI (if 0 ≤ c ∧ c < n then [c] else []))), []) := by
  have e := e_If (c := tE (eCh mLe mLt (eK (.int 0)) (eV 2) (eV 1))) (f := eLst (aCons (eV 2) aNil)) (g := eLst aNil) (sd := [s0, some (.d (.int n)), some (.d (.int c))]) (own := []) (b := decide (0 ≤ c) && decide (c < n)) (x := .d (lI [c])) (y := .d (lI []))
    (t_E (e_ChB (x := .d (.int 0)) (y := .d (.int c)) (w := .d (.int n)) rfl rfl rfl rfl rfl)) (fun _ => rfl) (fun _ => rfl)
  rw [e]
  by_cases h1 : 0 ≤ c <;> by_cases h2 : c < n <;> simp [h1, h2]
theorem cells_of_run {n : Nat} {x : Pt} (h : x.ok) (hn : n ≤ 20000) : F_cells_of [.d x.toD, .d (.int n)] [] = some (.ok (.d (lI (cellsP n x))), []) := by
  rcases x with ⟨_ | _, s, p⟩ | ⟨_ | _, j⟩
  · obtain ⟨h1, h2, h3, h4⟩ := h
    unfold F_cells_of
    refine run_rt (st_IfEnd (t_E (e_B (x := .d (.str "every")) (y := .d (.str "every")) rfl rfl (by kernel_rfl))) (st_Ret ?_))
    exact e_LstR3 (i := p) (j := n) (c := s) rfl (stepOk_up (by omega) (by omega) (by omega) (by omega) h1 h2)
  · obtain ⟨h1, h2, h3, h4⟩ := h
    unfold F_cells_of
    refine run_rt ((st_Seq (st_IfSkip (t_E (e_B (x := .d (.str "every_back")) (y := .d (.str "every")) rfl rfl (by kernel_rfl))))).trans ?_)
    refine st_IfEnd (t_E (e_B (x := .d (.str "every_back")) (y := .d (.str "every_back")) rfl rfl (by kernel_rfl))) (st_Ret ?_)
    exact e_LstR3 (i := (n : Int) - 1 - p) (j := -1) (c := -s) rfl (stepOk_down (by omega) (by omega) (by omega) (by omega) h1 h2)
  · unfold F_cells_of
    refine run_rt ((st_Seq (st_IfSkip (t_E (e_B (x := .d (.str "cell")) (y := .d (.str "every")) rfl rfl (by kernel_rfl))))).trans ?_)
    refine (st_Seq (st_IfSkip (t_E (e_B (x := .d (.str "cell")) (y := .d (.str "every_back")) rfl rfl (by kernel_rfl))))).trans ?_
    refine (st_Seq (st_Set (e_If (b := true) (x := .d (.int j)) (y := .d .non) (t_E (e_B (x := .d (.str "cell")) (y := .d (.str "cell")) rfl rfl (by kernel_rfl))) (fun _ => rfl) (fun z => by cases z)))).trans ?_
    exact st_Ret cells_one
  · unfold F_cells_of
    refine run_rt ((st_Seq (st_IfSkip (t_E (e_B (x := .d (.str "back")) (y := .d (.str "every")) rfl rfl (by kernel_rfl))))).trans ?_)
    refine (st_Seq (st_IfSkip (t_E (e_B (x := .d (.str "back")) (y := .d (.str "every_back")) rfl rfl (by kernel_rfl))))).trans ?_
    refine (st_Seq (st_Set (e_If (b := false) (x := .d .non) (y := .d (.int ((n : Int) - 1 - j))) (t_E (e_B (x := .d (.str "back")) (y := .d (.str "cell")) rfl rfl (by kernel_rfl))) (fun z => by cases z) (fun _ => rfl)))).trans ?_
    exact st_Ret cells_one
theorem c_cells_of {n : Nat} {x : Pt} (h : x.ok) (hn : n ≤ 20000) (sd : Sl) (own : Own) : callD 2 F_cells_of [.d x.toD, .d (.int n)] sd own = some (.ok (.d (lI (cellsP n x))), own) := cD (ds := [x.toD, .int n]) rfl rfl (cells_of_run h hn) sd own
/-! ## the dict of a plan's cells -/
theorem keys_step_len {n : Nat} {x : Pt} {ks : List Int} (h : x.ok) (hn : n ≤ 20000) : ((cellsP n x).foldl addK ks).length ≤ ks.length + (n + 6) := by
  have h1 := len_foldK (cellsP n x) ks
  have h2 := cellsP_len h hn
  omega
theorem dc2_kd {n : Nat} (hn : n ≤ 20000) {tg : GM} {src1 : IM} {vs1 : List Nat} {tg1 : GM} {fk : EM} {sd0 : Sl} {own : Own}
    (h0 : ∀ x : Pt, x.ok → ∃ sd1, tg x.toD sd0 = some sd1 ∧ src1 sd1 own = some (.ok ((cellsP n x).map D.int), own) ∧ ∀ c : Int, ∃ sd2, tg1 (.int c) (wipeD sd1 vs1) = some sd2 ∧ fk sd2 own = some (.ok (.d (.int c)), own)) :
    ∀ (pts : List Pt) (ks : List Int), (∀ x ∈ pts, x.ok) → ks.length + pts.length * (n + 6) ≤ 1000000 → dc2L tg tTrue src1 vs1 tg1 tTrue fk (eK (.bl true)) sd0 (pts.map Pt.toD) (kd ks) own = some (kd (pts.foldl (fun ks x => (cellsP n x).foldl addK ks) ks), own)
  | [], _, _, _ => rfl
  | x :: pts, ks, ok, hl => by
    obtain ⟨sd1, e1, e2, e3⟩ := h0 x (ok x List.mem_cons_self)
    have l1 := keys_step_len (ks := ks) (ok x List.mem_cons_self) hn
    have l2 := cellsP_len (ok x List.mem_cons_self) hn
    rw [List.length_cons, Nat.succ_mul] at hl
    have ih := dc2_kd hn h0 pts ((cellsP n x).foldl addK ks) (fun y hy => ok y (List.mem_cons_of_mem _ hy)) (by omega)
    rw [List.map_cons]
    unfold dc2L
    rw [e1]
    show (match src1 sd1 own with
      | some (.ok ys, o2) => (if (kd ks).1.length + ys.length < sizeLine then (match dcL tg1 tTrue fk (eK (.bl true)) (wipeD sd1 vs1) ys (kd ks) o2 with
          | some (a', o3) => dc2L tg tTrue src1 vs1 tg1 tTrue fk (eK (.bl true)) sd0 (pts.map Pt.toD) a' o3
          | none => none) else none)
      | _ => none) = _
    rw [e2]
    simp only
    rw [if_pos (by unfold kd; simp only [List.length_map]; rw [sizeL]; omega), dcL_kd e3]
    exact ih
def shotD (pts : List Pt) (n : Nat) : D := .dic (kd (keysP pts n)).1 (kd (keysP pts n)).2
theorem shot_by_run {n : Nat} {pts : List Pt} (ok : ∀ x ∈ pts, x.ok) (hl : pts.length ≤ 4) (hn : n ≤ 20000) : F_shot_by [.d (plan pts), .d (.int n)] [] = some (.ok (.d (shotD pts n)), []) := by
  unfold F_shot_by
  refine run_rt (st_Ret ?_)
  unfold eDC2
  have hs : iSeq (eFld 1 0 (eV 0)) [some (.d (plan pts)), some (.d (.int n)), none, none] [] = some (.ok (pts.map Pt.toD), []) := e_iSeqT rfl
  show M.bind _ _ [some (.d (plan pts)), some (.d (.int n)), none, none] [] = _
  rw [s_bind_ok hs]
  have e := dc2_kd (n := n) hn (tg := tgN 2) (src1 := iSeq (eCallD 2 F_cells_of (aCons (eV 2) (aCons (eV 1) aNil)))) (vs1 := [3]) (tg1 := tgN 3) (fk := eV 3) (sd0 := wipeD [some (.d (plan pts)), some (.d (.int n)), none, none] [2, 3]) (own := [])
    (fun x hx => ⟨_, rfl, e_iSeqL (e_CallD (xs := [.d x.toD, .d (.int n)]) rfl (c_cells_of hx hn)), fun c => ⟨_, rfl, rfl⟩⟩) pts [] ok (by
      have : pts.length * (n + 6) ≤ 4 * (n + 6) := Nat.mul_le_mul_right _ hl
      simp only [List.length_nil]; omega)
  have e : dc2L (tgN 2) tTrue (iSeq (eCallD 2 F_cells_of (aCons (eV 2) (aCons (eV 1) aNil)))) [3] (tgN 3) tTrue (eV 3) (eK (.bl true)) (wipeD [some (.d (plan pts)), some (.d (.int n)), none, none] [2, 3]) (pts.map Pt.toD) ([], []) [] = _ := e
  rw [e]
  rfl
theorem c_shot {n : Nat} {pts : List Pt} (ok : ∀ x ∈ pts, x.ok) (hl : pts.length ≤ 4) (hn : n ≤ 20000) (sd : Sl) (own : Own) : callD 2 F_shot_by [.d (plan pts), .d (.int n)] sd own = some (.ok (.d (shotD pts n)), own) := cD (ds := [plan pts, .int n]) rfl rfl (shot_by_run ok hl hn) sd own
/-! ## which cells they are -/
theorem mem_keys {n : Nat} : ∀ (pts : List Pt) (ks : List Int) (c : Int), (∀ x ∈ pts, x.ok) → (c ∈ pts.foldl (fun ks x => (cellsP n x).foldl addK ks) ks ↔ c ∈ ks ∨ (0 ≤ c ∧ c < n ∧ pts.any (hit n c) = true))
  | [], ks, c, _ => by simp
  | x :: pts, ks, c, ok => by
    rw [List.foldl_cons, mem_keys pts _ c fun y hy => ok y (List.mem_cons_of_mem _ hy), mem_foldK, mem_cellsP (ok x List.mem_cons_self), List.any_cons, Bool.or_eq_true]
    constructor
    · rintro ((h | h) | h)
      · exact .inl h
      · exact .inr ⟨h.1, h.2.1, .inl h.2.2⟩
      · exact .inr ⟨h.1, h.2.1, .inr h.2.2⟩
    · rintro (h | ⟨h1, h2, h3 | h3⟩)
      · exact .inl (.inl h)
      · exact .inl (.inr ⟨h1, h2, h3⟩)
      · exact .inr ⟨h1, h2, h3⟩
theorem nodup_keys {n : Nat} : ∀ (pts : List Pt) (ks : List Int), ks.Nodup → (pts.foldl (fun ks x => (cellsP n x).foldl addK ks) ks).Nodup
  | [], _, h => h
  | x :: pts, ks, h => nodup_keys pts _ (nodup_foldK _ _ h)
def cellsI (pts : List Pt) (n : Nat) : List Int := (cellsN pts n).map fun c : Nat => (c : Int)
theorem cellsI_lt (pts : List Pt) (n : Nat) : (cellsI pts n).Pairwise (· < ·) := by
  unfold cellsI cellsN
  rw [List.pairwise_map]
  exact (List.pairwise_lt_range.filter _).imp fun h => by omega
theorem mem_cellsI {pts : List Pt} {n : Nat} {c : Int} : c ∈ cellsI pts n ↔ 0 ≤ c ∧ c < n ∧ pts.any (hit n c) = true := by
  unfold cellsI cellsN shot
  rw [List.mem_map]
  constructor
  · rintro ⟨k, h, rfl⟩
    rw [List.mem_filter, List.mem_range] at h
    exact ⟨by omega, by omega, h.2⟩
  · rintro ⟨h1, h2, h3⟩
    refine ⟨c.toNat, ?_, by omega⟩
    rw [List.mem_filter, List.mem_range]
    refine ⟨by omega, ?_⟩
    rw [show ((c.toNat : Nat) : Int) = c by omega]
    exact h3
theorem keys_perm {pts : List Pt} {n : Nat} (ok : ∀ x ∈ pts, x.ok) : (keysP pts n).Perm (cellsI pts n) := by
  have nd : (cellsI pts n).Nodup := (cellsI_lt pts n).imp fun h => by omega
  refine (List.perm_ext_iff_of_nodup (nodup_keys pts [] .nil) nd).mpr fun c => ?_
  rw [mem_keys pts [] c ok, mem_cellsI]
  simp
theorem keys_sort {pts : List Pt} {n : Nat} (ok : ∀ x ∈ pts, x.ok) : isort (keysP pts n) = cellsI pts n :=
  rise_uniq ((isort_perm _).trans (keys_perm ok)) (isort_le _) ((cellsI_lt pts n).imp fun h => by omega)
theorem keys_len {pts : List Pt} {n : Nat} (ok : ∀ x ∈ pts, x.ok) : (keysP pts n).length = cnt pts n := by
  rw [(keys_perm ok).length_eq]
  unfold cellsI cnt
  rw [List.length_map]
theorem cnt_le {pts : List Pt} {n : Nat} : cnt pts n ≤ n := by
  unfold cnt cellsN
  have := List.length_filter_le (shot pts n) (List.range n)
  rw [List.length_range] at this
  exact this
end Ny
end T_Ny4
section T_Ny5
set_option Elab.async false
set_option linter.all false
set_option maxRecDepth 100000
set_option maxHeartbeats 4000000
set_option pp.maxSteps 2000
namespace Ny
open PySem Gx Pg Mx
theorem p62 : (1000000 : Int) < 2 ^ 62 := by decide
theorem rgD_nat (a n : Nat) : rgD a n = (List.range n).map fun i : Nat => D.int ((a + i : Nat) : Int) := by
  unfold rgD
  exact List.map_congr_left fun i _ => by rw [Int.natCast_add]
theorem e_rg1 {f : EM} {sd : Sl} {own : Own} {n : Nat} (h : f sd own = some (.ok (.d (.int n)), own)) (hn : n ≤ 100000) : iRg1 (aCons f aNil) sd own = some (.ok ((List.range n).map fun i : Nat => D.int (i : Int)), own) := by
  rw [e_iRg1 h (by omega) (by have := p62; omega)]
  simp
theorem e_rg2 {f g : EM} {sd : Sl} {own : Own} {a b : Nat} (h : f sd own = some (.ok (.d (.int a)), own)) (hg : g sd own = some (.ok (.d (.int b)), own)) (ha : a ≤ 100000) (hb : b ≤ 100000) : iRg2 (aCons f (aCons g aNil)) sd own = some (.ok ((List.range (b - a)).map fun i : Nat => D.int ((a + i : Nat) : Int)), own) := by
  have hh := a_c h (a_1 hg)
  unfold iRg2
  rw [s_bind_ok hh]
  show (if rgOk a b = true then M.ret (rgD a ((b : Int) - a).toNat) else M.fail) sd own = _
  rw [if_pos (by unfold rgOk; have := p62; exact decide_eq_true ⟨by omega, by omega, by omega, by omega⟩), show ((b : Int) - a).toNat = b - a by omega, rgD_nat]
  rfl
theorem st_Aug {g : Int → Int → Int} {i : Nat} {f : EM} {sd : Sl} {own : Own} {k m : Int} (h : sd[i]? = some (some (.d (.int k)))) (hf : f sd own = some (.ok (.d (.int m)), own)) : sAug g i f sd own = some (.nx (sd.set i (some (.d (.int (g k m))))) own) := by
  unfold sAug
  rw [h]
  simp only
  rw [s_Sbind, hf]
theorem e_Sl0 {f g : EM} {sd : Sl} {own : Own} {xs : List D} {k : Nat} (hf : f sd own = some (.ok (.d (.lst xs)), own)) (hg : g sd own = some (.ok (.d (.int k)), own)) (hk : k ≤ xs.length) : eSl f oNo (oSo g) sd own = some (.ok (.d (.lst (xs.take k))), own) := by
  rw [s_eSl, s_bind_ok hf]
  show M.bind oNo _ sd own = _
  unfold M.bind oNo M.ret
  simp only
  rw [s_oSo, s_bind_ok hg]
  simp only [M.ret, M.ask, s_mSll]
  rw [cut_to (by omega) (by omega)]
  simp
theorem at_map {f : Nat → D} {N i : Nat} (h : i < N) {z : Int} (hz : z = (i : Int)) : L2.atI ((List.range N).map f) z = some (f i) := by
  subst hz
  rw [atI_pos (by omega), Int.toNat_natCast, List.getElem?_map, List.getElem?_range h]
  rfl
/-! ## the period -/
def perStep (P : Nat) : Pt → Nat
  | .ev _ s _ => Nat.lcm P s.toNat
  | .sh _ _ => P
def perN (pts : List Pt) : Nat := pts.foldl perStep 1
theorem perStep_60 {P : Nat} {x : Pt} (h : x.ok) (hp : P ∣ 60) : perStep P x ∣ 60 := by
  rcases x with ⟨b, s, p⟩ | ⟨b, j⟩
  · obtain ⟨h1, h2, _⟩ := h
    have : s.toNat ∣ 60 := by
      have : s.toNat = 1 ∨ s.toNat = 2 ∨ s.toNat = 3 ∨ s.toNat = 4 ∨ s.toNat = 5 ∨ s.toNat = 6 := by omega
      rcases this with h | h | h | h | h | h <;> rw [h] <;> decide
    exact Nat.lcm_dvd hp this
  · exact hp
theorem le_60 {P : Nat} (h : P ∣ 60) : 0 < P ∧ P ≤ 60 := ⟨Nat.pos_of_dvd_of_pos h (by decide), Nat.le_of_dvd (by decide) h⟩
theorem perStep_dvd {P : Nat} {x : Pt} : P ∣ perStep P x := by
  cases x with
  | ev b s p => exact Nat.dvd_lcm_left _ _
  | sh b j => exact Nat.dvd_refl _
theorem perStep_own {P : Nat} {x : Pt} (h : x.ok) : x.dv (perStep P x) := by
  rcases x with ⟨b, s, p⟩ | ⟨b, j⟩
  · obtain ⟨h1, h2, _⟩ := h
    show s ∣ ((Nat.lcm P s.toNat : Nat) : Int)
    have : ((s.toNat : Nat) : Int) ∣ ((Nat.lcm P s.toNat : Nat) : Int) := Int.natCast_dvd_natCast.mpr (Nat.dvd_lcm_right _ _)
    rwa [show ((s.toNat : Nat) : Int) = s by omega] at this
  · trivial
theorem dv_trans {P Q : Nat} {x : Pt} (h : P ∣ Q) (hx : x.dv P) : x.dv Q := by
  rcases x with ⟨b, s, p⟩ | ⟨b, j⟩
  · exact Int.dvd_trans (show s ∣ (P : Int) from hx) (Int.natCast_dvd_natCast.mpr h)
  · trivial
theorem per_fold : ∀ (pts : List Pt) (P : Nat), (∀ x ∈ pts, x.ok) → P ∣ 60 → pts.foldl perStep P ∣ 60 ∧ P ∣ pts.foldl perStep P ∧ ∀ x ∈ pts, x.dv (pts.foldl perStep P)
  | [], P, _, h => ⟨h, Nat.dvd_refl _, fun x hx => by cases hx⟩
  | x :: pts, P, ok, h => by
    have hx := ok x List.mem_cons_self
    obtain ⟨a, b, c⟩ := per_fold pts (perStep P x) (fun y hy => ok y (List.mem_cons_of_mem _ hy)) (perStep_60 hx h)
    refine ⟨a, Nat.dvd_trans perStep_dvd b, fun y hy => ?_⟩
    rcases List.mem_cons.mp hy with rfl | hy
    · exact dv_trans b (perStep_own hx)
    · exact c y hy
theorem per_ok {pts : List Pt} (ok : ∀ x ∈ pts, x.ok) : perN pts ∣ 60 ∧ Per pts (perN pts) := by
  obtain ⟨a, _, c⟩ := per_fold pts 1 ok (by decide)
  exact ⟨a, (le_60 a).1, fun x hx => ⟨ok x hx, c x hx⟩⟩
theorem per_le {pts : List Pt} (ok : ∀ x ∈ pts, x.ok) : 0 < perN pts ∧ perN pts ≤ 60 := le_60 (per_ok ok).1
theorem lcm_div {a b : Nat} : a / Nat.gcd a b * b = Nat.lcm a b := by
  unfold Nat.lcm
  rw [Nat.div_mul_right_comm (Nat.gcd_dvd_left a b)]
theorem multiple_run {a b : Nat} (h0 : 0 < b) (h : b < 1000) : F_multiple [.d (.int a), .d (.int b)] [] = some (.ok (.d (.int (Nat.lcm a b))), []) := by
  unfold F_multiple
  refine run_rt (st_Ret ?_)
  have hg : 0 < Nat.gcd a b := Nat.gcd_pos_of_pos_right a h0
  have hgl : Nat.gcd a b ≤ b := Nat.gcd_le_right a h0
  have e1 : eB mFdiv (eV 0) (eCallD 2 F_divisor (aCons (eV 0) (aCons (eV 1) aNil))) [some (.d (.int a)), some (.d (.int b))] [] = some (.ok (.d (.int ((a / Nat.gcd a b : Nat)))), []) := by
    refine e_B rfl (e_CallD rfl (c_divisor h)) ?_
    rw [o_fdiv (by omega) (by omega), ← Int.natCast_ediv]
  refine e_B e1 rfl ?_
  rw [o_mulr (by have : (-(2 ^ 64) : Int) < 0 := by decide
                 omega) (by have : (1000 : Int) < 2 ^ 64 := by decide
                            omega), ← Int.natCast_mul, lcm_div]
theorem c_multiple {a b : Nat} (h0 : 0 < b) (h : b < 1000) (sd : Sl) (own : Own) : callD 2 F_multiple [.d (.int a), .d (.int b)] sd own = some (.ok (.d (.int (Nat.lcm a b))), own) := cD (ds := [.int a, .int b]) rfl rfl (multiple_run h0 h) sd own
theorem period_run {pts : List Pt} (ok : ∀ x ∈ pts, x.ok) : F_period_of [.d (plan pts)] [] = some (.ok (.d (.int (perN pts))), []) := by
  unfold F_period_of
  refine run_rt ?_
  refine (st_Seq (st_Set (x := .d (.int 1)) rfl)).trans ?_
  have hs : iSeq (eFld 1 0 (eV 0)) [some (.d (plan pts)), some (.d (.int 1)), none] [] = some (.ok (pts.map Pt.toD), []) := e_iSeqT rfl
  obtain ⟨sd2, own2, e, rfl, ⟨s2, rfl⟩, _⟩ := for_fold (enc := Pt.toD) (tg := tgN 2) (p := sSet 1 (eCallD 2 F_multiple (aCons (eV 1) (aCons (eIf (tE (eB (mIn false) (eB mIx (eV 2) (eK (.int 0))) (eK (.tup [.str "every", .str "every_back"])))) (eB mIx (eV 2) (eK (.int 1))) (eK (.int 1))) aNil))))
    (fun (P : Nat) sd own => own = [] ∧ (∃ s2, sd = [some (.d (plan pts)), some (.d (.int P)), s2]) ∧ P ∣ 60) perStep pts 1 [some (.d (plan pts)), some (.d (.int 1)), none] [] ⟨rfl, ⟨none, rfl⟩, by decide⟩
    (fun P x sd own hx ⟨h1, ⟨s2, h2⟩, h3⟩ => by
      subst h1 h2
      have hok := ok x hx
      refine ⟨_, rfl, _, _, .inl (st_Set (x := .d (.int (perStep P x))) ?_), rfl, ⟨_, rfl⟩, perStep_60 hok h3⟩
      rcases x with ⟨_ | _, s, p⟩ | ⟨_ | _, j⟩
      · obtain ⟨a1, a2, _⟩ := hok
        have es : s = ((s.toNat : Nat) : Int) := by omega
        have ei := e_If (c := tE (eB (mIn false) (eB mIx (eV 2) (eK (.int 0))) (eK (.tup [.str "every", .str "every_back"])))) (f := eB mIx (eV 2) (eK (.int 1))) (g := eK (.int 1)) (sd := [some (.d (plan pts)), some (.d (.int P)), some (.d (Pt.ev false s p).toD)]) (own := []) (b := true) (x := .d (.int ((s.toNat : Nat) : Int))) (y := .d .non)
          (t_E (e_B (x := .d (.str "every")) (y := .d (.tup [.str "every", .str "every_back"])) rfl rfl (by kernel_rfl))) (fun _ => (show eB mIx (eV 2) (eK (.int 1)) [some (.d (plan pts)), some (.d (.int P)), some (.d (Pt.ev false s p).toD)] [] = some (.ok (.d (.int s)), []) from rfl).trans (by rw [← es])) (fun z => by cases z)
        exact e_CallD (a_c rfl (a_1 ei)) (c_multiple (by omega) (by omega))
      · obtain ⟨a1, a2, _⟩ := hok
        have es : s = ((s.toNat : Nat) : Int) := by omega
        have ei := e_If (c := tE (eB (mIn false) (eB mIx (eV 2) (eK (.int 0))) (eK (.tup [.str "every", .str "every_back"])))) (f := eB mIx (eV 2) (eK (.int 1))) (g := eK (.int 1)) (sd := [some (.d (plan pts)), some (.d (.int P)), some (.d (Pt.ev true s p).toD)]) (own := []) (b := true) (x := .d (.int ((s.toNat : Nat) : Int))) (y := .d .non)
          (t_E (e_B (x := .d (.str "every_back")) (y := .d (.tup [.str "every", .str "every_back"])) rfl rfl (by kernel_rfl))) (fun _ => (show eB mIx (eV 2) (eK (.int 1)) [some (.d (plan pts)), some (.d (.int P)), some (.d (Pt.ev true s p).toD)] [] = some (.ok (.d (.int s)), []) from rfl).trans (by rw [← es])) (fun z => by cases z)
        exact e_CallD (a_c rfl (a_1 ei)) (c_multiple (by omega) (by omega))
      · have ei := e_If (c := tE (eB (mIn false) (eB mIx (eV 2) (eK (.int 0))) (eK (.tup [.str "every", .str "every_back"])))) (f := eB mIx (eV 2) (eK (.int 1))) (g := eK (.int 1)) (sd := [some (.d (plan pts)), some (.d (.int P)), some (.d (Pt.sh false j).toD)]) (own := []) (b := false) (x := .d .non) (y := .d (.int 1))
          (t_E (e_B (x := .d (.str "cell")) (y := .d (.tup [.str "every", .str "every_back"])) rfl rfl (by kernel_rfl))) (fun z => by cases z) (fun _ => rfl)
        exact (e_CallD (a_c (f := eV 1) (x := .d (.int P)) rfl (a_1 ei)) (c_multiple (a := P) (b := 1) (by omega) (by omega))).trans (by rw [Nat.lcm_one_right]; rfl)
      · have ei := e_If (c := tE (eB (mIn false) (eB mIx (eV 2) (eK (.int 0))) (eK (.tup [.str "every", .str "every_back"])))) (f := eB mIx (eV 2) (eK (.int 1))) (g := eK (.int 1)) (sd := [some (.d (plan pts)), some (.d (.int P)), some (.d (Pt.sh true j).toD)]) (own := []) (b := false) (x := .d .non) (y := .d (.int 1))
          (t_E (e_B (x := .d (.str "back")) (y := .d (.tup [.str "every", .str "every_back"])) rfl rfl (by kernel_rfl))) (fun z => by cases z) (fun _ => rfl)
        exact (e_CallD (a_c (f := eV 1) (x := .d (.int P)) rfl (a_1 ei)) (c_multiple (a := P) (b := 1) (by omega) (by omega))).trans (by rw [Nat.lcm_one_right]; rfl))
  refine (st_Seq (st_For hs e)).trans ?_
  exact st_Ret rfl
theorem c_period {pts : List Pt} (ok : ∀ x ∈ pts, x.ok) (sd : Sl) (own : Own) : callD 1 F_period_of [.d (plan pts)] sd own = some (.ok (.d (.int (perN pts))), own) := cD (ds := [plan pts]) rfl rfl (period_run ok) sd own
/-! ## cells -/
theorem o_sortK {own : Own} {pts : List Pt} {n : Nat} (ok : ∀ x ∈ pts, x.ok) : mSortK own (.d (shotD pts n)) = some (lI (cellsI pts n)) := by
  show (intsD ((keysP pts n).map D.int)).map (fun is => D.lst ((isort is).map D.int)) = _
  rw [ints_of_map, Option.map_some, keys_sort ok]
  rfl
theorem cells_run {n : Nat} {pts : List Pt} (ok : ∀ x ∈ pts, x.ok) (hl : pts.length ≤ 4) (hn : n ≤ 10000) : F_cells [.d (plan pts), .d (.int n)] [] = some (.ok (.d (lI (cellsI pts n))), []) := by
  unfold F_cells
  refine run_rt ((st_Seq (st_Expr (e_CallD rfl (c_checkn (h := 10000) hn)))).trans ?_)
  exact st_Ret (e_C1 (e_CallD (xs := [.d (plan pts), .d (.int n)]) rfl (c_shot ok hl (by omega))) (o_sortK ok))
theorem c_cells {n : Nat} {pts : List Pt} (ok : ∀ x ∈ pts, x.ok) (hl : pts.length ≤ 4) (hn : n ≤ 10000) (sd : Sl) (own : Own) : callD 2 F_cells [.d (plan pts), .d (.int n)] sd own = some (.ok (.d (lI (cellsI pts n))), own) := cD (ds := [plan pts, .int n]) rfl rfl (cells_run ok hl hn) sd own
theorem unM_ints (l : List Int) : unM (l.map D.int) = l.map D.int := by cases l <;> rfl
theorem o_len {own : Own} {pts : List Pt} {n : Nat} (ok : ∀ x ∈ pts, x.ok) : mLen own (.d (shotD pts n)) = some (.int (cnt pts n)) := by
  show some (D.int ((unM ((keysP pts n).map D.int)).length : Nat)) = _
  rw [unM_ints, List.length_map, keys_len ok]
theorem e_cnt {f g : EM} {sd : Sl} {own : Own} {pts : List Pt} {n : Nat} (ok : ∀ x ∈ pts, x.ok) (hl : pts.length ≤ 4) (hn : n ≤ 20000) (hf : f sd own = some (.ok (.d (plan pts)), own)) (hg : g sd own = some (.ok (.d (.int n)), own)) : eCB (m1 mLen) (aCons (eCallD 2 F_shot_by (aCons f (aCons g aNil))) aNil) sd own = some (.ok (.d (.int (cnt pts n))), own) :=
  e_C1 (e_CallD (a_c hf (a_1 hg)) (c_shot ok hl hn)) (o_len ok)
end Ny
end T_Ny5
section T_Ny6
set_option Elab.async false
set_option linter.all false
set_option maxRecDepth 100000
set_option maxHeartbeats 4000000
set_option pp.maxSteps 2000
namespace Ny
open PySem Gx Pg Mx
/-! ## what a period more gives, by the remainder -/
def gm (pts : List Pt) (P r : Nat) : Nat := gain pts P (r + 12 * P)
theorem gain_key {pts : List Pt} {P : Nat} (h : Per pts P) : ∀ k m, 12 ≤ m → gain pts P (m + k * P) = gain pts P m
  | 0, m, _ => by simp
  | k + 1, m, hm => by
    rw [show m + (k + 1) * P = (m + k * P) + P by rw [Nat.succ_mul]; omega, gain_per h (by omega), gain_key h k m hm]
theorem gain_gm {pts : List Pt} {P n : Nat} (h : Per pts P) (hn : 12 ≤ n) : gain pts P n = gm pts P (n % P) := by
  have hP := h.1
  have h12 : 12 * 1 ≤ 12 * P := Nat.mul_le_mul_left 12 hP
  unfold gm
  rw [← gain_key h 12 n hn, ← gain_key h (n / P) (n % P + 12 * P) (by omega)]
  congr 1
  have := Nat.div_add_mod n P
  rw [Nat.mul_comm] at this
  omega
/-- the gain holds from n on -/
def okAt (pts : List Pt) (P n : Nat) : Prop := cnt pts (n + P) = cnt pts n + gm pts P (n % P)
instance (pts : List Pt) (P n : Nat) : Decidable (okAt pts P n) := inferInstanceAs (Decidable (_ = _))
theorem okAt_12 {pts : List Pt} {P n : Nat} (h : Per pts P) (hn : 12 ≤ n) : okAt pts P n := by
  unfold okAt
  rw [cnt_gain h hn, gain_gm h hn]
def goN (pts : List Pt) (P : Nat) : Nat → Nat
  | 0 => 0
  | k + 1 => if okAt pts P k then goN pts P k else k + 1
def startN (pts : List Pt) (P : Nat) : Nat := goN pts P 12
theorem goN_le (pts : List Pt) (P : Nat) : ∀ k, goN pts P k ≤ k
  | 0 => Nat.le_refl _
  | k + 1 => by
    unfold goN
    split
    · exact Nat.le_succ_of_le (goN_le pts P k)
    · exact Nat.le_refl _
theorem goN_ok (pts : List Pt) (P : Nat) : ∀ k n, goN pts P k ≤ n → n < k → okAt pts P n
  | 0, n, _, h => by omega
  | k + 1, n, h1, h2 => by
    unfold goN at h1
    split at h1
    · by_cases e : n = k
      · subst e; assumption
      · exact goN_ok pts P k n h1 (by omega)
    · omega
theorem goN_no (pts : List Pt) (P : Nat) : ∀ k, 0 < goN pts P k → ¬ okAt pts P (goN pts P k - 1)
  | 0, h => by unfold goN at h; omega
  | k + 1, h => by
    unfold goN at h ⊢
    split
    · rw [if_pos (by assumption)] at h
      exact goN_no pts P k h
    · simpa using by assumption
theorem start_le {pts : List Pt} {P : Nat} : startN pts P ≤ 12 := goN_le pts P 12
theorem start_ok {pts : List Pt} {P n : Nat} (h : Per pts P) (hn : startN pts P ≤ n) : okAt pts P n := by
  by_cases c : n < 12
  · exact goN_ok pts P 12 n hn c
  · exact okAt_12 h (by omega)
theorem cnt_times {pts : List Pt} {P m : Nat} (h : Per pts P) (hm : startN pts P ≤ m) : ∀ t, cnt pts (m + t * P) = cnt pts m + t * gm pts P (m % P)
  | 0 => by simp
  | t + 1 => by
    have e : okAt pts P (m + t * P) := start_ok h (by omega)
    unfold okAt at e
    rw [Nat.add_mul_mod_self_right] at e
    rw [show m + (t + 1) * P = m + t * P + P by rw [Nat.succ_mul]; omega, e, cnt_times h hm t, Nat.succ_mul]
    omega
/-! ## a dict with values by the key -/
theorem getK_ints {g : Nat → D} {r : Nat} : ∀ {l : List Nat}, r ∈ l → getK (.inl (r : Int)) (l.map fun k : Nat => D.int k) (l.map g) = some (g r)
  | [], h => by cases h
  | k :: l, h => by
    show (if (Sum.inl (r : Int) : L2.Key) = .inl (k : Int) then some (g k) else getK (.inl (r : Int)) (l.map fun k : Nat => D.int k) (l.map g)) = _
    by_cases e : r = k
    · subst e; rw [if_pos rfl]
    · rw [if_neg (fun z => e (by injection z with z; omega))]
      exact getK_ints (by rcases List.mem_cons.mp h with h | h; exact absurd h e; exact h)
theorem dc_vals {α : Type} {enc : α → D} {tg : GM} {fk fv : EM} {sd0 : Sl} {own : Own} (k : α → Int) (v : α → D) : ∀ (xs : List α) (l : List Int) (vs : List D), (l ++ xs.map k).Nodup →
    (∀ x ∈ xs, ∃ sd1, tg (enc x) sd0 = some sd1 ∧ fk sd1 own = some (.ok (.d (.int (k x))), own) ∧ fv sd1 own = some (.ok (.d (v x)), own)) →
    dcL tg tTrue fk fv sd0 (xs.map enc) (l.map D.int, vs) own = some (((l ++ xs.map k).map D.int, vs ++ xs.map v), own)
  | [], l, vs, _, _ => by
    show some ((l.map D.int, vs), own) = _
    simp
  | x :: xs, l, vs, hn, h => by
    obtain ⟨sd1, e1, e4, e5⟩ := h x List.mem_cons_self
    have hc : k x ∉ l := fun z => (List.nodup_append.mp hn).2.2 _ z _ (by simp) rfl
    have ih := dc_vals (enc := enc) (tg := tg) (fk := fk) (fv := fv) (sd0 := sd0) (own := own) k v xs (l ++ [k x]) (vs ++ [v x]) (by simpa using hn) (fun y hy => h y (List.mem_cons_of_mem _ hy))
    rw [List.map_cons]
    unfold dcL
    rw [e1]
    show (match fk sd1 own with
        | some (.ok (.d c), o2) => (match keyOf c with
          | some k => (match fv sd1 o2 with
            | some (.ok (.d d), o3) => dcL tg tTrue fk fv sd0 (xs.map enc) (putKD k d (l.map D.int) vs) o3
            | _ => none)
          | none => none)
        | _ => none) = _
    rw [e4]
    show (match fv sd1 own with
            | some (.ok (.d d), o3) => dcL tg tTrue fk fv sd0 (xs.map enc) (putKD (.inl (k x)) d (l.map D.int) vs) o3
            | _ => none) = _
    rw [e5]
    show dcL tg tTrue fk fv sd0 (xs.map enc) (putKD (.inl (k x)) (v x) (l.map D.int) vs) own = _
    rw [put_ints hc, ih]
    simp
theorem e_DCv {α : Type} {enc : α → D} {src : IM} {is : List Nat} {tg : GM} {fk fv : EM} {sd : Sl} {own : Own} {xs : List α} (k : α → Int) (v : α → D) (hs : src sd own = some (.ok (xs.map enc), own)) (hz : xs.length < sizeLine) (hn : (xs.map k).Nodup)
    (h : ∀ x ∈ xs, ∃ sd1, tg (enc x) (wipeD sd is) = some sd1 ∧ fk sd1 own = some (.ok (.d (.int (k x))), own) ∧ fv sd1 own = some (.ok (.d (v x)), own)) :
    eDC src is tg tTrue fk fv sd own = some (.ok (.d (.dic ((xs.map k).map D.int) (xs.map v))), own) := by
  have := dc_vals (sd0 := wipeD sd is) (own := own) k v xs [] [] (by simpa using hn) h
  have e : dcL tg tTrue fk fv (wipeD sd is) (xs.map enc) ([], []) own = _ := this
  have e2 : dcM src is tg tTrue fk fv sd own = some (.ok ((xs.map k).map D.int, xs.map v), own) := by
    unfold dcM
    rw [s_bind_ok hs, List.length_map, if_pos hz, e]
    simp
  unfold eDC
  rw [s_bind_ok e2]
  rfl
def gkeys (P : Nat) : List Nat := (List.range P).map fun i => (12 + i) % P
theorem gkeys_nodup {P : Nat} : (gkeys P).Nodup := by
  unfold gkeys
  rw [List.Nodup, List.pairwise_map]
  refine List.Pairwise.imp_of_mem (fun {i j} hi hj hlt e => ?_) List.pairwise_lt_range
  rw [List.mem_range] at hi hj
  have e2 := Nat.sub_mod_eq_zero_of_mod_eq e.symm
  rw [show 12 + j - (12 + i) = j - i by omega, Nat.mod_eq_of_lt (by omega)] at e2
  omega
theorem mem_gkeys {P r : Nat} (h : r < P) : r ∈ gkeys P := by
  unfold gkeys
  rw [List.mem_map]
  refine ⟨(r + 12 * P - 12) % P, ?_, ?_⟩
  · rw [List.mem_range]; exact Nat.mod_lt _ (by omega)
  · have h1 : 12 * 1 ≤ 12 * P := Nat.mul_le_mul_left 12 (by omega)
    rw [Nat.add_mod, Nat.mod_mod, ← Nat.add_mod, show 12 + (r + 12 * P - 12) = r + 12 * P by omega, Nat.add_mul_mod_self_right, Nat.mod_eq_of_lt h]
def gainD (pts : List Pt) (P : Nat) : D := .dic ((gkeys P).map fun k : Nat => D.int k) ((gkeys P).map fun r => D.int (gm pts P r))
theorem o_gain {own : Own} {pts : List Pt} {P r : Nat} (h : r < P) {z : Int} (hz : z = (r : Int)) : mIx own (.d (gainD pts P)) (.d (.int z)) = some (.int (gm pts P r)) := by
  subst hz
  have hu : unM ((gkeys P).map fun k : Nat => D.int (k : Int)) = (gkeys P).map fun k : Nat => D.int (k : Int) := by
    have := unM_ints ((gkeys P).map fun k : Nat => (k : Int))
    rw [List.map_map] at this
    exact this
  have e : dicV own (.d (gainD pts P)) = some ((gkeys P).map fun k : Nat => D.int (k : Int), (gkeys P).map fun r => D.int (gm pts P r)) := by
    show some (unM _, _) = _
    rw [hu]
  unfold mIx
  simp only [e]
  exact getK_ints (g := fun r => D.int (gm pts P r)) (mem_gkeys h)
end Ny
end T_Ny6
section T_Ny7
set_option Elab.async false
set_option linter.all false
set_option maxRecDepth 100000
set_option maxHeartbeats 4000000
set_option pp.maxSteps 2000
namespace Ny
open PySem Gx Pg Mx
def numF (pts : List Pt) (i : Nat) : D := D.int (cnt pts i)
def numsD (pts : List Pt) (N : Nat) : D := .lst ((List.range N).map (numF pts))
theorem o_num {own : Own} {pts : List Pt} {N i : Nat} (h : i < N) {z : Int} (hz : z = (i : Int)) : mIx own (.d (numsD pts N)) (.d (.int z)) = some (.int (cnt pts i)) := by
  show L2.atI ((List.range N).map (numF pts)) z = _
  exact at_map h hz
theorem o_numT {own : Own} {pts : List Pt} {N i : Nat} (h : i < N) {z : Int} (hz : z = (i : Int)) : mIx own (.d (.tup ((List.range N).map (numF pts)))) (.d (.int z)) = some (.int (cnt pts i)) := by
  show L2.atI ((List.range N).map (numF pts)) z = _
  exact at_map h hz
def gmF (pts : List Pt) (P r : Nat) : D := D.int (gm pts P r)
theorem o_gmT {own : Own} {pts : List Pt} {P i : Nat} (h : i < P) {z : Int} (hz : z = (i : Int)) : mIx own (.d (.tup ((List.range P).map (gmF pts P)))) (.d (.int z)) = some (.int (gm pts P i)) := by
  show L2.atI ((List.range P).map (gmF pts P)) z = _
  exact at_map h hz
/-- what count_of tells -/
def told (pts : List Pt) (P : Nat) : D := .tup [.int (startN pts P), .int P, .tup ((List.range P).map (gmF pts P)), .tup ((List.range (startN pts P + P)).map (numF pts))]
def cS (pts : List Pt) (P : Nat) (k : Nat) : Sl := [some (.d (plan pts)), some (.d (.int P)), some (.d (numsD pts (12 + 2 * P))), some (.d (gainD pts P)), some (.d (.int k)), none, none]
def condC : TM := tAnd (tE (eB mGt (eV 4) (eK (.int 0)))) (tE (eB mEq (eB mSub (eB mIx (eV 2) (eB mAdd (eB mSub (eV 4) (eK (.int 1))) (eV 1))) (eB mIx (eV 2) (eB mSub (eV 4) (eK (.int 1))))) (eB mIx (eV 3) (eB mMod (eB mSub (eV 4) (eK (.int 1))) (eV 1)))))
theorem cond_run {pts : List Pt} {P k : Nat} (hP : 0 < P) (hk : k < 12) : condC (cS pts P (k + 1)) [] = some (.ok (decide (okAt pts P k)), []) := by
  unfold condC
  have s1 : eB mSub (eV 4) (eK (.int 1)) (cS pts P (k + 1)) [] = some (.ok (.d (.int (((k + 1 : Nat) : Int) - 1))), []) := rfl
  have a1 : eB mIx (eV 2) (eB mAdd (eB mSub (eV 4) (eK (.int 1))) (eV 1)) (cS pts P (k + 1)) [] = some (.ok (.d (.int (cnt pts (k + P)))), []) := e_B (x := .d (numsD pts (12 + 2 * P))) (y := .d (.int (((k + 1 : Nat) : Int) - 1 + P))) rfl rfl (o_num (by omega) (by omega))
  have a2 : eB mIx (eV 2) (eB mSub (eV 4) (eK (.int 1))) (cS pts P (k + 1)) [] = some (.ok (.d (.int (cnt pts k))), []) := e_B (x := .d (numsD pts (12 + 2 * P))) rfl s1 (o_num (by omega) (by omega))
  have a3 : eB mMod (eB mSub (eV 4) (eK (.int 1))) (eV 1) (cS pts P (k + 1)) [] = some (.ok (.d (.int ((((k + 1 : Nat) : Int) - 1) % (P : Int)))), []) := e_Mod s1 rfl (by omega)
  have hm : (((k + 1 : Nat) : Int) - 1) % (P : Int) = ((k % P : Nat) : Int) := by rw [show ((k + 1 : Nat) : Int) - 1 = (k : Int) by omega]; exact (Int.natCast_emod k P).symm
  have a4 : eB mIx (eV 3) (eB mMod (eB mSub (eV 4) (eK (.int 1))) (eV 1)) (cS pts P (k + 1)) [] = some (.ok (.d (.int (gm pts P (k % P)))), []) := e_B (x := .d (gainD pts P)) rfl a3 (o_gain (Nat.mod_lt _ hP) hm)
  have a5 := e_B (m := mSub) a1 a2 (d := .int ((cnt pts (k + P) : Int) - (cnt pts k : Int))) rfl
  have a6 := e_B (m := mEq) a5 a4 (d := .bl (((cnt pts (k + P) : Int) - (cnt pts k : Int)) == (gm pts P (k % P) : Int))) rfl
  have c1 : tE (eB mGt (eV 4) (eK (.int 0))) (cS pts P (k + 1)) [] = some (.ok true, []) := by
    refine t_E (e_B (x := .d (.int ((k + 1 : Nat) : Int))) (y := .d (.int 0)) rfl rfl ?_)
    show some (D.bl (decide ((0 : Int) < ((k + 1 : Nat) : Int)))) = _
    rw [decide_eq_true (by omega)]
  refine (t_And c1 (t_E a6)).trans ?_
  rw [eqi]
  have : decide ((cnt pts (k + P) : Int) - (cnt pts k : Int) = (gm pts P (k % P) : Int)) = decide (okAt pts P k) := by
    unfold okAt
    exact decide_eq_decide.mpr ⟨fun h => by omega, fun h => by omega⟩
  rw [this]
theorem wh_go {pts : List Pt} {P : Nat} (hP : 0 < P) : ∀ k fuel, k ≤ 12 → k < fuel → whL condC (sAug (fun i j => i - j) 4 (eK (.int 1))) fuel (cS pts P k) [] = some (.nx (cS pts P (goN pts P k)) [])
  | 0, fuel, _, hf => by
    obtain ⟨f, rfl⟩ : ∃ f, fuel = f + 1 := ⟨fuel - 1, by omega⟩
    exact wh_stop (t_And0 (t_E (e_B (x := .d (.int 0)) (y := .d (.int 0)) rfl rfl rfl)))
  | k + 1, fuel, hk, hf => by
    obtain ⟨f, rfl⟩ : ∃ f, fuel = f + 1 := ⟨fuel - 1, by omega⟩
    have c := cond_run (pts := pts) hP (show k < 12 by omega)
    unfold goN
    by_cases h : okAt pts P k
    · rw [decide_eq_true h] at c
      rw [if_pos h]
      refine (wh_step (sd2 := cS pts P k) (o2 := []) c ?_).trans (wh_go hP k f (by omega) (by omega))
      refine (st_Aug (k := ((k + 1 : Nat) : Int)) (m := 1) rfl rfl).trans ?_
      show some (Fl.nx [some (.d (plan pts)), some (.d (.int P)), some (.d (numsD pts (12 + 2 * P))), some (.d (gainD pts P)), some (.d (.int (((k + 1 : Nat) : Int) - 1))), none, none] []) = _
      rw [show ((k + 1 : Nat) : Int) - 1 = (k : Int) by omega]
      rfl
    · rw [decide_eq_false h] at c
      rw [if_neg h]
      exact wh_stop c
theorem count_run {pts : List Pt} (ok : ∀ x ∈ pts, x.ok) (hl : pts.length ≤ 4) : F_count_of [.d (plan pts)] [] = some (.ok (.d (told pts (perN pts))), []) := by
  obtain ⟨hP, hP2⟩ := per_le ok
  have per := (per_ok ok).2
  unfold F_count_of
  refine run_rt ?_
  refine (st_Seq (st_Set (e_CallD (xs := [.d (plan pts)]) rfl (c_period ok)))).trans ?_
  generalize perN pts = P at hP hP2 per
  have n1 : eB mAdd (eK (.int 12)) (eB mMul (eK (.int 2)) (eV 1)) [some (.d (plan pts)), some (.d (.int P)), none, none, none, none, none] [] = some (.ok (.d (.int ((12 + 2 * P : Nat) : Int))), []) := by
    refine (e_B (x := .d (.int 12)) (y := .d (.int (2 * P))) rfl (e_B (x := .d (.int 2)) (y := .d (.int P)) rfl rfl (o_mull (by decide) (by decide))) rfl).trans ?_
    rw [show (12 : Int) + 2 * (P : Int) = ((12 + 2 * P : Nat) : Int) by omega]
  have c2 := e_LC0 (enc := fun i : Nat => D.int (i : Int)) (vs := [5]) (tg := tgN 5) (f := eCB (m1 mLen) (aCons (eCallD 2 F_shot_by (aCons (eV 0) (aCons (eV 5) aNil))) aNil)) (numF pts) (e_rg1 n1 (by omega)) (by rw [List.length_range]; exact small (by omega))
    (fun i hi => ⟨_, rfl, e_cnt ok hl (by rw [List.mem_range] at hi; omega) rfl rfl⟩)
  refine (st_Seq (st_Set c2)).trans ?_
  have n2 : eB mAdd (eK (.int 12)) (eV 1) [some (.d (plan pts)), some (.d (.int P)), some (.d (numsD pts (12 + 2 * P))), none, none, none, none] [] = some (.ok (.d (.int ((12 + P : Nat) : Int))), []) := by
    refine (e_B (x := .d (.int 12)) (y := .d (.int P)) rfl rfl rfl).trans ?_
    rw [show (12 : Int) + (P : Int) = ((12 + P : Nat) : Int) by omega]
  have r2 := e_rg2 (f := eK (.int 12)) (g := eB mAdd (eK (.int 12)) (eV 1)) (sd := [some (.d (plan pts)), some (.d (.int P)), some (.d (numsD pts (12 + 2 * P))), none, none, none, none]) (own := []) (a := 12) (b := 12 + P) rfl n2 (by omega) (by omega)
  rw [show 12 + P - 12 = P by omega] at r2
  have c3 := e_DCv (enc := fun i : Nat => D.int ((12 + i : Nat) : Int)) (is := [5]) (tg := tgN 5) (fk := eB mMod (eV 5) (eV 1)) (fv := eB mSub (eB mIx (eV 2) (eB mAdd (eV 5) (eV 1))) (eB mIx (eV 2) (eV 5)))
    (fun i : Nat => (((12 + i) % P : Nat) : Int)) (fun i => D.int (gm pts P ((12 + i) % P))) r2 (by rw [List.length_range]; exact small (by omega)) (by
      have h := gkeys_nodup (P := P)
      unfold gkeys at h
      rw [List.Nodup, List.pairwise_map] at h ⊢
      exact h.imp fun hne z => hne (by omega)) (fun i hi => by
      rw [List.mem_range] at hi
      refine ⟨_, rfl, ?_, ?_⟩
      · refine (e_Mod (x := ((12 + i : Nat) : Int)) (y := (P : Int)) rfl rfl (by omega)).trans ?_
        rw [Int.natCast_emod]
      · refine (e_B (x := .d (.int (cnt pts (12 + i + P)))) (y := .d (.int (cnt pts (12 + i)))) (e_B (x := .d (numsD pts (12 + 2 * P))) (y := .d (.int (((12 + i : Nat) : Int) + P))) rfl rfl (o_num (by omega) (by omega))) (e_B (x := .d (numsD pts (12 + 2 * P))) (y := .d (.int ((12 + i : Nat) : Int))) rfl rfl (o_num (by omega) rfl)) rfl).trans ?_
        have := okAt_12 per (show 12 ≤ 12 + i by omega)
        unfold okAt at this
        show some (Rz.ok (SV.d (D.int ((cnt pts (12 + i + P) : Int) - (cnt pts (12 + i) : Int)))), ([] : Own)) = _
        rw [show (cnt pts (12 + i + P) : Int) - (cnt pts (12 + i) : Int) = (gm pts P ((12 + i) % P) : Int) by omega])
  have hg : D.dic (((List.range P).map fun i : Nat => (((12 + i) % P : Nat) : Int)).map D.int) ((List.range P).map fun i => D.int (gm pts P ((12 + i) % P))) = gainD pts P := by
    unfold gainD gkeys
    rw [List.map_map, List.map_map, List.map_map]
    rfl
  rw [hg] at c3
  refine (st_Seq (st_Set c3)).trans ?_
  refine (st_Seq (st_Set (x := .d (.int 12)) rfl)).trans ?_
  refine (st_Seq (wh_go (pts := pts) hP 12 1000 (by decide) (by decide))).trans ?_
  show sRet _ (cS pts P (startN pts P)) [] = _
  have hs := start_le (pts := pts) (P := P)
  have g3 : eCB (m1 mTupC) (aCons (eLC (iRg1 (aCons (eV 1) aNil)) [6] (tgN 6) tTrue (eB mIx (eV 3) (eV 6))) aNil) (cS pts P (startN pts P)) [] = some (.ok (.d (.tup ((List.range P).map (gmF pts P)))), []) := by
    refine e_C1 (e_LC0 (enc := fun i : Nat => D.int (i : Int)) (vs := [6]) (tg := tgN 6) (gmF pts P) (e_rg1 (n := P) rfl (by omega)) (by rw [List.length_range]; exact small (by omega)) (fun i hi => ⟨_, rfl, ?_⟩)) rfl
    rw [List.mem_range] at hi
    exact e_B (x := .d (gainD pts P)) (y := .d (.int (i : Int))) rfl rfl (o_gain hi rfl)
  have g4 : eCB (m1 mTupC) (aCons (eSl (eV 2) oNo (oSo (eB mAdd (eV 4) (eV 1)))) aNil) (cS pts P (startN pts P)) [] = some (.ok (.d (.tup ((List.range (startN pts P + P)).map (numF pts)))), []) := by
    have n4 : eB mAdd (eV 4) (eV 1) (cS pts P (startN pts P)) [] = some (.ok (.d (.int ((startN pts P + P : Nat) : Int))), []) := by
      refine (e_B (x := .d (.int (startN pts P : Int))) (y := .d (.int P)) rfl rfl rfl).trans ?_
      rw [show (startN pts P : Int) + (P : Int) = ((startN pts P + P : Nat) : Int) by omega]
    refine e_C1 (e_Sl0 (xs := (List.range (12 + 2 * P)).map (numF pts)) rfl n4 (by rw [List.length_map, List.length_range]; omega)) ?_
    rw [← List.map_take, List.take_range, Nat.min_eq_left (by omega)]
    rfl
  exact st_Ret (by
    have := a_c (f := eV 4) (sd := cS pts P (startN pts P)) (own := []) (x := .d (.int (startN pts P : Int))) rfl (a_c (f := eV 1) (x := .d (.int P)) rfl (a_c g3 (a_1 g4)))
    show M.bind _ _ _ _ = _
    rw [s_bind_ok this]
    rfl)
theorem c_count_of {pts : List Pt} (ok : ∀ x ∈ pts, x.ok) (hl : pts.length ≤ 4) (sd : Sl) (own : Own) : callD 1 F_count_of [.d (plan pts)] sd own = some (.ok (.d (told pts (perN pts))), own) := cD (ds := [plan pts]) rfl rfl (count_run ok hl) sd own
theorem c_count {pts : List Pt} (ok : ∀ x ∈ pts, x.ok) (hl : pts.length ≤ 4) (sd : Sl) (own : Own) : callD 1 F_count [.d (plan pts)] sd own = some (.ok (.d (told pts (perN pts))), own) :=
  cD (ds := [plan pts]) rfl rfl (run_rt (st_Ret (e_CallD (xs := [.d (plan pts)]) rfl (c_count_of ok hl)))) sd own
end Ny
end T_Ny7
section T_Ny8
set_option Elab.async false
set_option linter.all false
set_option maxRecDepth 100000
set_option maxHeartbeats 4000000
set_option pp.maxSteps 2000
namespace Ny
open PySem Gx Pg Mx
/-! ## the law's own cells -/
theorem pt_mEq {own : Own} (x y : Pt) : mEq own (.d x.toD) (.d y.toD) = some (.bl (decide (x = y))) := by
  show (if (okN 60 x.toD && okN 60 y.toD) = true then some (D.bl (eqN 60 x.toD y.toD)) else none) = _
  rw [okN_mono 59 _ (pt_okN x), okN_mono 59 _ (pt_okN y), pt_eqN]
  rfl
def shotB : SM := (sSeq (sIf (tAnd (tE (eB mEq (eB mIx (eV 3) (eK (.int 0))) (eK (.str "every")))) (tE (eB mEq (eB mMod (eV 2) (eB mIx (eV 3) (eK (.int 1)))) (eB mIx (eV 3) (eK (.int 2))))))
    (sRet (eK (.bl true)))
    sNil)
    (sSeq (sIf (tAnd (tE (eB mEq (eB mIx (eV 3) (eK (.int 0))) (eK (.str "every_back")))) (tE (eB mEq (eB mMod (eB mSub (eB mSub (eV 1) (eK (.int 1))) (eV 2)) (eB mIx (eV 3) (eK (.int 1)))) (eB mIx (eV 3) (eK (.int 2))))))
    (sRet (eK (.bl true)))
    sNil)
    (sIf (tOr (tE (eB mEq (eV 3) (eTup (aCons (eK (.str "cell")) (aCons (eV 2) aNil))))) (tE (eB mEq (eV 3) (eTup (aCons (eK (.str "back")) (aCons (eB mSub (eB mSub (eV 1) (eK (.int 1))) (eV 2)) aNil))))))
    (sRet (eK (.bl true)))
    sNil)))
theorem shotB_last {q : D} {n c : Int} {x : Pt} : sIf (tOr (tE (eB mEq (eV 3) (eTup (aCons (eK (.str "cell")) (aCons (eV 2) aNil))))) (tE (eB mEq (eV 3) (eTup (aCons (eK (.str "back")) (aCons (eB mSub (eB mSub (eV 1) (eK (.int 1))) (eV 2)) aNil)))))) (sRet (eK (.bl true))) sNil
    [some (.d q), some (.d (.int n)), some (.d (.int c)), some (.d x.toD)] [] = if (decide (x = .sh false c) || decide (x = .sh true (n - 1 - c))) = true then some (.rt (.d (.bl true)) []) else some (.nx [some (.d q), some (.d (.int n)), some (.d (.int c)), some (.d x.toD)] []) := by
  have t := t_OrB (f := tE (eB mEq (eV 3) (eTup (aCons (eK (.str "cell")) (aCons (eV 2) aNil))))) (g := tE (eB mEq (eV 3) (eTup (aCons (eK (.str "back")) (aCons (eB mSub (eB mSub (eV 1) (eK (.int 1))) (eV 2)) aNil))))) (sd := [some (.d q), some (.d (.int n)), some (.d (.int c)), some (.d x.toD)]) (own := [])
    (t_E (e_B (x := .d x.toD) (y := .d (Pt.sh false c).toD) rfl rfl (pt_mEq _ _))) (fun _ => t_E (e_B (x := .d x.toD) (y := .d (Pt.sh true (n - 1 - c)).toD) rfl rfl (pt_mEq _ _)))
  refine st_IfB t (fun h => ?_) (fun h => ?_)
  · rw [if_pos h]; rfl
  · rw [if_neg (by rw [h]; decide)]; rfl
theorem shotB_run {q : D} {n c : Int} {x : Pt} (h : x.ok) : shotB [some (.d q), some (.d (.int n)), some (.d (.int c)), some (.d x.toD)] [] = if hit n c x = true then some (.rt (.d (.bl true)) []) else some (.nx [some (.d q), some (.d (.int n)), some (.d (.int c)), some (.d x.toD)] []) := by
  unfold shotB
  rcases x with ⟨_ | _, s, p⟩ | ⟨_ | _, j⟩
  · obtain ⟨h1, h2, h3, h4⟩ := h
    have t := t_And (t := tE (eB mEq (eB mIx (eV 3) (eK (.int 0))) (eK (.str "every")))) (u := tE (eB mEq (eB mMod (eV 2) (eB mIx (eV 3) (eK (.int 1)))) (eB mIx (eV 3) (eK (.int 2))))) (sd := [some (.d q), some (.d (.int n)), some (.d (.int c)), some (.d (Pt.ev false s p).toD)]) (own := []) (o1 := []) (o2 := []) (b := c % s == p)
      (t_E (e_B (x := .d (.str "every")) (y := .d (.str "every")) rfl rfl (by kernel_rfl))) (t_E (e_B (x := .d (.int (c % s))) (y := .d (.int p)) (e_Mod (x := c) (y := s) rfl rfl (by omega)) rfl rfl))
    by_cases e : c % s = p
    · rw [show (c % s == p) = true by simpa using e] at t
      rw [if_pos (show hit n c (.ev false s p) = true from decide_eq_true e)]
      exact st_IfEnd t rfl
    · rw [show (c % s == p) = false by simpa using e] at t
      rw [if_neg (show ¬ hit n c (.ev false s p) = true by show ¬ decide (c % s = p) = true; simpa using e)]
      refine (st_Seq (st_IfSkip t)).trans ?_
      refine (st_Seq (st_IfSkip (t_And0 (t_E (e_B (x := .d (.str "every")) (y := .d (.str "every_back")) rfl rfl (by kernel_rfl)))))).trans ?_
      exact shotB_last.trans rfl
  · obtain ⟨h1, h2, h3, h4⟩ := h
    refine (st_Seq (st_IfSkip (t_And0 (t_E (e_B (x := .d (.str "every_back")) (y := .d (.str "every")) rfl rfl (by kernel_rfl)))))).trans ?_
    have t := t_And (t := tE (eB mEq (eB mIx (eV 3) (eK (.int 0))) (eK (.str "every_back")))) (u := tE (eB mEq (eB mMod (eB mSub (eB mSub (eV 1) (eK (.int 1))) (eV 2)) (eB mIx (eV 3) (eK (.int 1)))) (eB mIx (eV 3) (eK (.int 2))))) (sd := [some (.d q), some (.d (.int n)), some (.d (.int c)), some (.d (Pt.ev true s p).toD)]) (own := []) (o1 := []) (o2 := []) (b := (n - 1 - c) % s == p)
      (t_E (e_B (x := .d (.str "every_back")) (y := .d (.str "every_back")) rfl rfl (by kernel_rfl))) (t_E (e_B (x := .d (.int ((n - 1 - c) % s))) (y := .d (.int p)) (e_Mod (x := n - 1 - c) (y := s) rfl rfl (by omega)) rfl rfl))
    by_cases e : (n - 1 - c) % s = p
    · rw [show ((n - 1 - c) % s == p) = true by simpa using e] at t
      rw [if_pos (show hit n c (.ev true s p) = true from decide_eq_true e)]
      exact st_IfEnd t rfl
    · rw [show ((n - 1 - c) % s == p) = false by simpa using e] at t
      rw [if_neg (show ¬ hit n c (.ev true s p) = true by show ¬ decide ((n - 1 - c) % s = p) = true; simpa using e)]
      refine (st_Seq (st_IfSkip t)).trans ?_
      exact shotB_last.trans rfl
  · refine (st_Seq (st_IfSkip (t_And0 (t_E (e_B (x := .d (.str "cell")) (y := .d (.str "every")) rfl rfl (by kernel_rfl)))))).trans ?_
    refine (st_Seq (st_IfSkip (t_And0 (t_E (e_B (x := .d (.str "cell")) (y := .d (.str "every_back")) rfl rfl (by kernel_rfl)))))).trans ?_
    refine shotB_last.trans ?_
    have : (decide (Pt.sh false j = .sh false c) || decide (Pt.sh false j = .sh true (n - 1 - c))) = hit n c (.sh false j) := by
      show _ = decide (j = c)
      by_cases e : j = c <;> simp [e]
    rw [this]
  · refine (st_Seq (st_IfSkip (t_And0 (t_E (e_B (x := .d (.str "back")) (y := .d (.str "every")) rfl rfl (by kernel_rfl)))))).trans ?_
    refine (st_Seq (st_IfSkip (t_And0 (t_E (e_B (x := .d (.str "back")) (y := .d (.str "every_back")) rfl rfl (by kernel_rfl)))))).trans ?_
    refine shotB_last.trans ?_
    have : (decide (Pt.sh true j = .sh false c) || decide (Pt.sh true j = .sh true (n - 1 - c))) = hit n c (.sh true j) := by
      show _ = decide (j = n - 1 - c)
      by_cases e : j = n - 1 - c <;> simp [e]
    rw [this]
theorem is_shot_run {pts : List Pt} (ok : ∀ x ∈ pts, x.ok) {n c : Int} : F__law_is_shot [.d (tD pts), .d (.int n), .d (.int c)] [] = some (.ok (.d (.bl (pts.any (hit n c)))), []) := by
  unfold F__law_is_shot
  refine run_rt ?_
  have hs : iSeq (eV 0) [some (.d (tD pts)), some (.d (.int n)), some (.d (.int c)), none] [] = some (.ok (pts.map Pt.toD), []) := e_iSeqT rfl
  show sSeq (sFor (iSeq (eV 0)) (tgN 3) shotB) (sRet (eK (.bl false))) [some (.d (tD pts)), some (.d (.int n)), some (.d (.int c)), none] [] = _
  rcases for_exit (enc := Pt.toD) (tg := tgN 3) (p := shotB) (fun pre sd own => own = [] ∧ (∃ s3, sd = [some (.d (tD pts)), some (.d (.int n)), some (.d (.int c)), s3]) ∧ ∀ x ∈ pre, hit n c x = false) (fun pre x r => hit n c x = true ∧ r = .rt (.d (.bl true)) [])
    pts [some (.d (tD pts)), some (.d (.int n)), some (.d (.int c)), none] [] ⟨rfl, ⟨none, rfl⟩, fun x hx => by cases hx⟩ (fun pre x post sd own e ⟨h1, ⟨s3, h2⟩, h3⟩ => by
      subst h1 h2
      have r := shotB_run (q := tD pts) (n := n) (c := c) (ok x (by rw [e]; simp))
      refine ⟨_, rfl, ?_⟩
      by_cases h : hit n c x = true
      · rw [if_pos h] at r
        exact .inr ⟨_, r, rfl, h, rfl⟩
      · rw [if_neg h] at r
        refine .inl ⟨_, _, .inl r, rfl, ⟨_, rfl⟩, fun y hy => ?_⟩
        rcases List.mem_append.mp hy with hy | hy
        · exact h3 y hy
        · rw [List.mem_singleton.mp hy]; exact Bool.not_eq_true _ ▸ h) with ⟨sd2, own2, ef, rfl, ⟨s3, rfl⟩, h3⟩ | ⟨pre, x, post, r, e9, ef, h1, rfl⟩
  · refine (st_Seq (st_For hs ef)).trans ?_
    rw [List.any_eq_false.mpr fun x hx => by rw [h3 x hx]; decide]
    rfl
  · rw [s_sSeq, st_For hs ef]
    rw [List.any_eq_true.mpr ⟨x, by rw [e9]; simp, h1⟩]
theorem c_is_shot {pts : List Pt} (ok : ∀ x ∈ pts, x.ok) {n c : Int} (sd : Sl) (own : Own) : callD 3 F__law_is_shot [.d (tD pts), .d (.int n), .d (.int c)] sd own = some (.ok (.d (.bl (pts.any (hit n c)))), own) := cD (ds := [tD pts, .int n, .int c]) rfl rfl (is_shot_run ok) sd own
theorem lcells_run {pts : List Pt} (ok : ∀ x ∈ pts, x.ok) {n : Nat} (hn : n ≤ 20000) : F__law_cells [.d (tD pts), .d (.int n)] [] = some (.ok (.d (lI (cellsI pts n))), []) := by
  unfold F__law_cells
  refine run_rt (st_Ret ?_)
  have e := e_LC (enc := fun i : Nat => D.int (i : Int)) (vs := [2]) (tg := tgN 2) (t := tE (eCallD 3 F__law_is_shot (aCons (eV 0) (aCons (eV 1) (aCons (eV 2) aNil))))) (f := eV 2) (src := iRg1 (aCons (eV 1) aNil)) (sd := [some (.d (tD pts)), some (.d (.int n)), none]) (own := []) (shot pts n) (fun i : Nat => D.int (i : Int)) (e_rg1 (n := n) rfl (by omega)) (by rw [List.length_range]; exact small (by omega))
    (fun i hi => ⟨_, rfl, t_E (e_CallD (xs := [.d (tD pts), .d (.int n), .d (.int i)]) rfl (c_is_shot ok)), fun _ => rfl⟩)
  refine e.trans ?_
  unfold lI cellsI cellsN
  rw [List.map_map]
  rfl
theorem c_lcells {pts : List Pt} (ok : ∀ x ∈ pts, x.ok) {n : Nat} (hn : n ≤ 20000) (sd : Sl) (own : Own) : callD 2 F__law_cells [.d (tD pts), .d (.int n)] sd own = some (.ok (.d (lI (cellsI pts n))), own) := cD (ds := [tD pts, .int n]) rfl rfl (lcells_run ok hn) sd own
/-! ## the law's own period -/
theorem lperiod_run {pts : List Pt} (ok : ∀ x ∈ pts, x.ok) : F__law_period [.d (tD pts)] [] = some (.ok (.d (.int (perN pts))), []) := by
  unfold F__law_period
  refine run_rt ?_
  refine (st_Seq (st_Set (x := .d (.int 1)) rfl)).trans ?_
  have hs : iSeq (eV 0) [some (.d (tD pts)), some (.d (.int 1)), none] [] = some (.ok (pts.map Pt.toD), []) := e_iSeqT rfl
  have long : ∀ (b : Bool) (s p : Int) (P : Nat), (Pt.ev b s p).ok → P ∣ 60 → sIf (tE (eB mEq (eCB (m1 mLen) (aCons (eV 2) aNil)) (eK (.int 3)))) (sSet 1 (eB mFdiv (eB mMul (eV 1) (eB mIx (eV 2) (eK (.int 1)))) (eCallD 2 F__law_common (aCons (eV 1) (aCons (eB mIx (eV 2) (eK (.int 1))) aNil))))) sNil
      [some (.d (tD pts)), some (.d (.int P)), some (.d (Pt.ev b s p).toD)] [] = some (.nx [some (.d (tD pts)), some (.d (.int (perStep P (.ev b s p)))), some (.d (Pt.ev b s p).toD)] []) := fun b s p P h hp => by
    obtain ⟨a1, a2, _⟩ := h
    obtain ⟨p1, p2⟩ := le_60 hp
    have es : s = ((s.toNat : Nat) : Int) := by omega
    have ei : eB mIx (eV 2) (eK (.int 1)) [some (.d (tD pts)), some (.d (.int P)), some (.d (Pt.ev b s p).toD)] [] = some (.ok (.d (.int ((s.toNat : Nat) : Int))), []) := by rw [← es]; cases b <;> rfl
    have c1 : tE (eB mEq (eCB (m1 mLen) (aCons (eV 2) aNil)) (eK (.int 3))) [some (.d (tD pts)), some (.d (.int P)), some (.d (Pt.ev b s p).toD)] [] = some (.ok true, []) := by cases b <;> rfl
    refine (st_IfT c1).trans ((st_Set (x := .d (.int (perStep P (.ev b s p)))) ?_).trans rfl)
    have hg : 0 < Nat.gcd P s.toNat := Nat.gcd_pos_of_pos_right P (by omega)
    have hgl : Nat.gcd P s.toNat ≤ s.toNat := Nat.gcd_le_right P (by omega)
    refine e_B (e_B (x := .d (.int P)) rfl ei (o_mulr (by have : (-(2 ^ 64) : Int) < 0 := by decide
                                                          omega) (by have : (1000 : Int) < 2 ^ 64 := by decide
                                                                     omega))) (e_CallD (a_c (f := eV 1) (x := .d (.int P)) rfl (a_1 ei)) (c_common (by omega))) ?_
    rw [o_fdiv (by omega) (by omega), ← Int.natCast_mul, ← Int.natCast_ediv]
    rfl
  have shrt : ∀ (b : Bool) (j : Int) (P : Nat), sIf (tE (eB mEq (eCB (m1 mLen) (aCons (eV 2) aNil)) (eK (.int 3)))) (sSet 1 (eB mFdiv (eB mMul (eV 1) (eB mIx (eV 2) (eK (.int 1)))) (eCallD 2 F__law_common (aCons (eV 1) (aCons (eB mIx (eV 2) (eK (.int 1))) aNil))))) sNil
      [some (.d (tD pts)), some (.d (.int P)), some (.d (Pt.sh b j).toD)] [] = some (.nx [some (.d (tD pts)), some (.d (.int P)), some (.d (Pt.sh b j).toD)] []) := fun b j P => by
    refine st_IfSkip ?_
    cases b <;> rfl
  obtain ⟨sd2, own2, e, rfl, ⟨s2, rfl⟩, _⟩ := for_fold (enc := Pt.toD) (tg := tgN 2) (p := sIf (tE (eB mEq (eCB (m1 mLen) (aCons (eV 2) aNil)) (eK (.int 3)))) (sSet 1 (eB mFdiv (eB mMul (eV 1) (eB mIx (eV 2) (eK (.int 1)))) (eCallD 2 F__law_common (aCons (eV 1) (aCons (eB mIx (eV 2) (eK (.int 1))) aNil))))) sNil)
    (fun (P : Nat) sd own => own = [] ∧ (∃ s2, sd = [some (.d (tD pts)), some (.d (.int P)), s2]) ∧ P ∣ 60) perStep pts 1 [some (.d (tD pts)), some (.d (.int 1)), none] [] ⟨rfl, ⟨none, rfl⟩, by decide⟩
    (fun P x sd own hx ⟨h1, ⟨s2, h2⟩, h3⟩ => by
      subst h1 h2
      have hok := ok x hx
      refine ⟨[some (.d (tD pts)), some (.d (.int P)), some (.d x.toD)], rfl, [some (.d (tD pts)), some (.d (.int (perStep P x))), some (.d x.toD)], [], .inl ?_, rfl, ⟨_, rfl⟩, perStep_60 hok h3⟩
      rcases x with ⟨b, s, p⟩ | ⟨b, j⟩
      · exact long b s p P hok h3
      · exact shrt b j P)
  refine (st_Seq (st_For hs e)).trans ?_
  exact st_Ret rfl
theorem c_lperiod {pts : List Pt} (ok : ∀ x ∈ pts, x.ok) (sd : Sl) (own : Own) : callD 1 F__law_period [.d (tD pts)] sd own = some (.ok (.d (.int (perN pts))), own) := cD (ds := [tD pts]) rfl rfl (lperiod_run ok) sd own
end Ny
end T_Ny8
section T_L04a
set_option Elab.async false
set_option linter.all false
set_option maxRecDepth 100000
set_option maxHeartbeats 8000000
set_option pp.maxSteps 300
namespace K04
open PySem PySem.Spec PyProof.Rows L2 Gx Pg

def top (i : Nat) : Stmt := PySem.Challenge.pw_shipsrow_k04_whole_cells.main.body.getD i (.Pass ⟨0, 0, 0, 0⟩)
abbrev LO : List Nat := [1]
/-- what the written part says -/
structure Facts (K : PySem.W.Frag) (mg : Str → Option Value) (ct : Nat → Addr) : Prop where
  b_bool : mg "bool" = none
  b_enumerate : mg "enumerate" = none
  b_int : mg "int" = none
  b_isinstance : mg "isinstance" = none
  b_len : mg "len" = none
  b_list : mg "list" = none
  b_range : mg "range" = none
  b_sorted : mg "sorted" = none
  b_str : mg "str" = none
  b_tuple : mg "tuple" = none
  c_CELL : ∃ t, mg "CELL" = some (.str "cell" t)
  c_ENDS : ∃ t, mg "ENDS" = some (.int 12 t)
  c_EVERY : ∃ t, mg "EVERY" = some (.str "every" t)
  c_EVERY_BACK : ∃ t, mg "EVERY_BACK" = some (.str "every_back" t)
  c_LONG : TupC K mg "LONG" ["every", "every_back"]
  c_MOST_CELLS : ∃ t, mg "MOST_CELLS" = some (.int 10000 t)
  c_MOST_NEAR : ∃ t, mg "MOST_NEAR" = some (.int 5 t)
  c_MOST_PARTS : ∃ t, mg "MOST_PARTS" = some (.int 4 t)
  c_MOST_STEP : ∃ t, mg "MOST_STEP" = some (.int 6 t)
  c_SHORT : TupC K mg "SHORT" ["back", "cell"]
  eC : ∀ c ∈ ([13, 14] : List Nat), ExcC K (ct c)
  e_BadNumber : ∀ c ∈ ([13, 14] : List Nat), PySem.W.exmOne K (.ref (ct c)) (.ref (ct 13)) = some (excSub c 13)
  g_BadNumber : mg "BadNumber" = some (.ref (ct 13))
  g_SeaError : mg "SeaError" = some (.ref (ct 9))
  k1 : Cls K (ct 1)
  ki_SeaError : ∀ c ∈ ([13, 14] : List Nat), PySem.W.kitOne K (.ref (ct c)) (.ref (ct 9)) = some (excSub c 9)
  n1_pieces : NoAttr K (ct 1) "pieces"
section
variable {P : Program} {w : World} {K : PySem.W.Frag} {mg : Str → Option Value} {base : Heap} {ct : Nat → Addr}
theorem sc_is_integer : FnScope ["value"] ["value"] (defScope (top 5)) := ⟨rfl, rfl, rfl, by decide +kernel, rfl, by decide +kernel, by decide +kernel⟩
theorem ok_is_integer {f : Addr} {fd : FuncData} (M : Facts K mg ct)  (F : Fun K "is_integer" "is_integer" (top 5) f fd) :
    FnOk P w K mg base (L2.CX P w) 1 f fd ["value"] (spF ⟨K, ct⟩ 1 F_is_integer) :=
  def_ok2 (k := 0) F sc_is_integer rfl fun cdv A outer s H E B hr tk po cx =>
    (rss_one (rs_ret (r_and (r_cb call_isi ob_isi M.b_isinstance (ra_cons (r_v 0 (pv 0)) (ra_cons (r_ty 0 M.b_int) ra_nil))) (r_one (r_not (r_cb call_isi ob_isi M.b_isinstance (ra_cons (r_v 0 (pv 0)) (ra_cons (r_ty 1 M.b_bool) ra_nil))))))))
theorem sc_is_from : FnScope ["value", "low", "high"] ["value", "low", "high"] (defScope (top 6)) := ⟨rfl, rfl, rfl, by decide +kernel, rfl, by decide +kernel, by decide +kernel⟩
theorem ok_is_from {f : Addr} {fd : FuncData} (M : Facts K mg ct) (c_is_integer : Cal P w K mg base ⟨K, ct⟩ 1 "is_integer" 1 F_is_integer) (F : Fun K "is_from" "is_from" (top 6) f fd) :
    FnOk P w K mg base (L2.CX P w) 2 f fd ["value", "low", "high"] (spF ⟨K, ct⟩ 3 F_is_from) :=
  def_ok2 (k := 1) F sc_is_from rfl fun cdv A outer s H E B hr tk po cx =>
    (rss_one (rs_ret (r_and (r_call c_is_integer hr (by decide) cx (ra_cons (r_v 0 (pv 0)) ra_nil)) (r_one (r_ch op_le o2_le op_le o2_le (r_v 1 (pv 1)) (r_v 0 (pv 0)) (r_v 2 (pv 2)))))))
theorem sc_is_one_of : FnScope ["value", "some"] ["value", "some"] (defScope (top 7)) := ⟨rfl, rfl, rfl, by decide +kernel, rfl, by decide +kernel, by decide +kernel⟩
theorem ok_is_one_of {f : Addr} {fd : FuncData} (M : Facts K mg ct)  (F : Fun K "is_one_of" "is_one_of" (top 7) f fd) :
    FnOk P w K mg base (L2.CX P w) 1 f fd ["value", "some"] (spF ⟨K, ct⟩ 2 F_is_one_of) :=
  def_ok2 (k := 0) F sc_is_one_of rfl fun cdv A outer s H E B hr tk po cx =>
    (rss_one (rs_ret (r_and (r_cb call_isi ob_isi M.b_isinstance (ra_cons (r_v 0 (pv 0)) (ra_cons (r_ty 2 M.b_str) ra_nil))) (r_one (r_cmp (op_inA hr.u65) o2_in (r_v 0 (pv 0)) (r_v 1 (pv 1)) (by rfl))))))
theorem sc_check_number : FnScope ["value", "high"] ["value", "high"] (defScope (top 8)) := ⟨rfl, rfl, rfl, by decide +kernel, rfl, by decide +kernel, by decide +kernel⟩
theorem ok_check_number {f : Addr} {fd : FuncData} (M : Facts K mg ct) (c_is_from : Cal P w K mg base ⟨K, ct⟩ 2 "is_from" 3 F_is_from) (x_BadNumber : Xc P w K mg base "BadNumber" (ct 13) (flds 13)) (F : Fun K "check_number" "check_number" (top 8) f fd) :
    FnOk P w K mg base (L2.CX P w) 3 f fd ["value", "high"] (spF ⟨K, ct⟩ 2 F_check_number) :=
  def_ok2 (k := 2) F sc_check_number rfl fun cdv A outer s H E B hr tk po cx =>
    (rss_one (rs_if (rt_not (rt_val (r_call c_is_from hr (by decide) cx (ra_cons (r_v 0 (pv 0)) (ra_cons r_int (ra_cons (r_v 1 (pv 1)) ra_nil))))))
      (rss_one (rs_raise0 x_BadNumber (by decide) (hr.mono (by decide)) rfl tk))
      rss_nil))
theorem sc_divisor : FnScope ["one", "other"] ["one", "other"] (defScope (top 10)) := ⟨rfl, rfl, rfl, by decide +kernel, rfl, by decide +kernel, by decide +kernel⟩
theorem ok_divisor {f : Addr} {fd : FuncData} (M : Facts K mg ct)  (F : Fun K "divisor" "divisor" (top 10) f fd) :
    FnOk P w K mg base (L2.CX P w) 1 f fd ["one", "other"] (spF ⟨K, ct⟩ 2 F_divisor) :=
  def_ok2 (k := 0) F sc_divisor rfl fun cdv A outer s H E B hr tk po cx =>
    (rss_cons (rs_wh 1000 po (rt_cmp (op_neD hr.u64) o2_ne (r_v 1 (pv 1)) r_int (nomark _)) (rss_one (rs_par sc_divisor.nd (ra_cons (r_v 1 (pv 1)) (ra_cons (r_mod (r_v 0 (pv 0)) (r_v 1 (pv 1))) ra_nil)))))
      (rss_one (rs_ret (r_v 0 (pv 0)))))
theorem sc_multiple : FnScope ["one", "other"] ["one", "other"] (defScope (top 11)) := ⟨rfl, rfl, rfl, by decide +kernel, rfl, by decide +kernel, by decide +kernel⟩
theorem ok_multiple {f : Addr} {fd : FuncData} (M : Facts K mg ct) (c_divisor : Cal P w K mg base ⟨K, ct⟩ 1 "divisor" 2 F_divisor) (F : Fun K "multiple" "multiple" (top 11) f fd) :
    FnOk P w K mg base (L2.CX P w) 2 f fd ["one", "other"] (spF ⟨K, ct⟩ 2 F_multiple) :=
  def_ok2 (k := 1) F sc_multiple rfl fun cdv A outer s H E B hr tk po cx =>
    (rss_one (rs_ret (r_mul (r_fdiv (r_v 0 (pv 0)) (r_call c_divisor hr (by decide) cx (ra_cons (r_v 0 (pv 0)) (ra_cons (r_v 1 (pv 1)) ra_nil)))) (r_v 1 (pv 1)))))
theorem sc_is_part : FnScope ["value"] ["value"] (defScope (top 23)) := ⟨rfl, rfl, rfl, by decide +kernel, rfl, by decide +kernel, by decide +kernel⟩
theorem ok_is_part {f : Addr} {fd : FuncData} (M : Facts K mg ct) (c_is_one_of : Cal P w K mg base ⟨K, ct⟩ 1 "is_one_of" 2 F_is_one_of) (c_is_from : Cal P w K mg base ⟨K, ct⟩ 2 "is_from" 3 F_is_from) (F : Fun K "is_part" "is_part" (top 23) f fd) :
    FnOk P w K mg base (L2.CX P w) 3 f fd ["value"] (spF ⟨K, ct⟩ 1 F_is_part) :=
  def_ok2 (k := 2) F sc_is_part rfl fun cdv A outer s H E B hr tk po cx =>
    (rss_cons (rs_if ((rw_or (rt_not (rt_val (r_cb call_isi ob_isi M.b_isinstance (ra_cons (r_v 0 (pv 0)) (ra_cons (r_ty 3 M.b_tuple) ra_nil))))) (rw_or1 (rt_cmp (op_eqD hr.u64) o2_eq (r_cb call_lenA ob_len M.b_len (ra_cons (r_v 0 (pv 0)) ra_nil)) r_int (nomark _))))).pt
      (rss_one (rs_ret r_bl))
      rss_nil)
      (rss_cons (rs_if (rt_val (r_call c_is_one_of hr (by decide) cx (ra_cons (r_ix (ix_A hr.u1) o2_ix (r_v 0 (pv 0)) r_int) (ra_cons (r_gt M.c_LONG) ra_nil))))
      (rss_one (rs_ret (r_and (r_cmp (op_eqD hr.u64) o2_eq (r_cb call_lenA ob_len M.b_len (ra_cons (r_v 0 (pv 0)) ra_nil)) r_int (nomark _)) (r_and (r_call c_is_from hr (by decide) cx (ra_cons (r_ix (ix_A hr.u1) o2_ix (r_v 0 (pv 0)) r_int) (ra_cons r_int (ra_cons (r_ci 6 M.c_MOST_STEP) ra_nil)))) (r_one (r_call c_is_from hr (by decide) cx (ra_cons (r_ix (ix_A hr.u1) o2_ix (r_v 0 (pv 0)) r_int) (ra_cons r_int (ra_cons (r_sub (r_ix (ix_A hr.u1) o2_ix (r_v 0 (pv 0)) r_int) r_int) ra_nil)))))))))
      rss_nil)
      (rss_one (rs_ret (r_and (r_call c_is_one_of hr (by decide) cx (ra_cons (r_ix (ix_A hr.u1) o2_ix (r_v 0 (pv 0)) r_int) (ra_cons (r_gt M.c_SHORT) ra_nil))) (r_and (r_cmp (op_eqD hr.u64) o2_eq (r_cb call_lenA ob_len M.b_len (ra_cons (r_v 0 (pv 0)) ra_nil)) r_int (nomark _)) (r_one (r_call c_is_from hr (by decide) cx (ra_cons (r_ix (ix_A hr.u1) o2_ix (r_v 0 (pv 0)) r_int) (ra_cons r_int (ra_cons (r_ci 5 M.c_MOST_NEAR) ra_nil)))))))))))
theorem sc_Plan_init : FnScope ["self", "parts", "index", "part"] ["self", "parts"] (defScope (inClass (top 24) 0)) := ⟨rfl, rfl, rfl, by decide +kernel, rfl, by decide +kernel, by decide +kernel⟩
theorem ok_Plan_init {f : Addr} {fd : FuncData} (M : Facts K mg ct) (c_is_part : Cal P w K mg base ⟨K, ct⟩ 3 "is_part" 1 F_is_part) (x_BadPart : Xc P w K mg base "BadPart" (ct 14) (flds 14)) (F : Fun K "__init__" "Plan.__init__" (inClass (top 24) 0) f fd) :
    FnOk P w K mg base (L2.CX P w) 4 f fd ["self", "parts"] (spF ⟨K, ct⟩ 2 F_Plan_init) :=
  def_ok2 (k := 3) F sc_Plan_init rfl fun cdv A outer s H E B hr tk po cx =>
    (rss_cons (rs_if ((rw_or (rt_not (rt_val (r_cb call_isi ob_isi M.b_isinstance (ra_cons (r_v 1 (pv 1)) (ra_cons (r_ty 3 M.b_tuple) ra_nil))))) (rw_or1 (rt_cmp op_gt o2_gt (r_cb call_lenA ob_len M.b_len (ra_cons (r_v 1 (pv 1)) ra_nil)) (r_ci 4 M.c_MOST_PARTS) (nomark _))))).pt
      (rss_one (rs_raise x_BadPart (by decide) (hr.mono (by decide)) rfl tk (ra_cons r_non ra_nil)))
      rss_nil)
      (rss_cons (rs_for po (ri_enum M.b_enumerate (r_v 1 (pv 1))) (pg_tup rfl (pgs_cons (pg_name (i := 2) sc_Plan_init.nd rfl (by first | exact Or.inl rfl | exact Or.inr rfl)) (pgs_cons (pg_name (i := 3) sc_Plan_init.nd rfl (by first | exact Or.inl rfl | exact Or.inr rfl)) pgs_nil))) (og_u [2, 3]) (rss_one (rs_if ((rw_or (rt_not (rt_val (r_call c_is_part hr (by decide) cx (ra_cons (r_v 3 (pv 3)) ra_nil)))) (rw_or1 (rt_cmp (op_inA hr.u65) o2_in (r_v 3 (pv 3)) (r_sl (r_v 1 (pv 1)) ro_no (ro_so (r_v 2 (pv 2)))) (by rfl))))).pt
      (rss_one (rs_raise x_BadPart (by decide) (hr.mono (by decide)) rfl tk (ra_cons (r_v 2 (pv 2)) ra_nil)))
      rss_nil)))
      (rss_one (rs_fld 1 0 M.k1 M.n1_pieces (r_v 0 (pv 0)) (r_v 1 (pv 1))))))
theorem sc_cells_of : FnScope ["part", "n", "cell"] ["part", "n"] (defScope (top 25)) := ⟨rfl, rfl, rfl, by decide +kernel, rfl, by decide +kernel, by decide +kernel⟩
theorem ok_cells_of {f : Addr} {fd : FuncData} (M : Facts K mg ct)  (F : Fun K "cells_of" "cells_of" (top 25) f fd) :
    FnOk P w K mg base (L2.CX P w) 1 f fd ["part", "n"] (spF ⟨K, ct⟩ 2 F_cells_of) :=
  def_ok2 (k := 0) F sc_cells_of rfl fun cdv A outer s H E B hr tk po cx =>
    (rss_cons (rs_if (rt_cmp (op_eqD hr.u64) o2_eq (r_ix (ix_A hr.u1) o2_ix (r_v 0 (pv 0)) r_int) (r_cs "every" M.c_EVERY) (nomark _))
      (rss_one (rs_ret (r_lstR3 M.b_list M.b_range (ra_cons (r_ix (ix_A hr.u1) o2_ix (r_v 0 (pv 0)) r_int) (ra_cons (r_v 1 (pv 1)) (ra_cons (r_ix (ix_A hr.u1) o2_ix (r_v 0 (pv 0)) r_int) ra_nil))))))
      rss_nil)
      (rss_cons (rs_if (rt_cmp (op_eqD hr.u64) o2_eq (r_ix (ix_A hr.u1) o2_ix (r_v 0 (pv 0)) r_int) (r_cs "every_back" M.c_EVERY_BACK) (nomark _))
      (rss_one (rs_ret (r_lstR3 M.b_list M.b_range (ra_cons (r_sub (r_sub (r_v 1 (pv 1)) r_int) (r_ix (ix_A hr.u1) o2_ix (r_v 0 (pv 0)) r_int)) (ra_cons (r_neg r_int) (ra_cons (r_neg (r_ix (ix_A hr.u1) o2_ix (r_v 0 (pv 0)) r_int)) ra_nil))))))
      rss_nil)
      (rss_cons (rs_set sc_cells_of.nd (r_if (rt_cmp (op_eqD hr.u64) o2_eq (r_ix (ix_A hr.u1) o2_ix (r_v 0 (pv 0)) r_int) (r_cs "cell" M.c_CELL) (nomark _)) (r_ix (ix_A hr.u1) o2_ix (r_v 0 (pv 0)) r_int) (r_sub (r_sub (r_v 1 (pv 1)) r_int) (r_ix (ix_A hr.u1) o2_ix (r_v 0 (pv 0)) r_int))))
      (rss_one (rs_ret (r_if (rt_ch op_le o2_le op_lt o2_lt r_int (r_v 2 (pv 2)) (r_v 1 (pv 1))) (r_lst (ra_cons (r_v 2 (pv 2)) ra_nil)) (r_lst ra_nil)))))))
theorem sc_shot_by : FnScope ["plan", "n", "part", "cell"] ["plan", "n"] (defScope (top 26)) := ⟨rfl, rfl, rfl, by decide +kernel, rfl, by decide +kernel, by decide +kernel⟩
theorem ok_shot_by {f : Addr} {fd : FuncData} (M : Facts K mg ct) (c_cells_of : Cal P w K mg base ⟨K, ct⟩ 1 "cells_of" 2 F_cells_of) (F : Fun K "shot_by" "shot_by" (top 26) f fd) :
    FnOk P w K mg base (L2.CX P w) 2 f fd ["plan", "n"] (spF ⟨K, ct⟩ 2 F_shot_by) :=
  def_ok2 (k := 1) F sc_shot_by rfl fun cdv A outer s H E B hr tk po cx =>
    (rss_one (rs_ret (r_dc2 sc_shot_by.nd (ri_seq (r_fld 1 0 M.k1 M.n1_pieces (r_v 0 (pv 0)))) (blkOk_by (own := [(("part" : Str), 2), (("cell" : Str), 3)]) rfl) (fun _ _ _ _ _ => pg_name (i := 2) sc_shot_by.nd rfl (by first | exact Or.inl rfl | exact Or.inr rfl)) (og_n 2) (by decide) (fun _ _ _ _ _ _ => rpt_nil) (fun _ _ _ _ _ _ => (ri_seq (r_call c_cells_of hr (by decide) cx_blk (ra_cons (r_v 2 (pv 2)) (ra_cons (r_v 1 (pv 1)) ra_nil))))) (by decide) (fun _ _ _ _ _ => pg_name (i := 3) sc_shot_by.nd rfl (by first | exact Or.inl rfl | exact Or.inr rfl)) (og_n 3) (by decide) (fun _ _ _ _ _ _ => rpt_nil) (fun _ _ _ _ _ _ => (r_v 3 (pv 3))) (fun _ _ _ _ _ _ => r_bl))))
theorem sc_cells : FnScope ["plan", "n"] ["plan", "n"] (defScope (top 27)) := ⟨rfl, rfl, rfl, by decide +kernel, rfl, by decide +kernel, by decide +kernel⟩
theorem ok_cells {f : Addr} {fd : FuncData} (M : Facts K mg ct) (c_check_number : Cal P w K mg base ⟨K, ct⟩ 3 "check_number" 2 F_check_number) (c_shot_by : Cal P w K mg base ⟨K, ct⟩ 2 "shot_by" 2 F_shot_by) (F : Fun K "cells" "cells" (top 27) f fd) :
    FnOk P w K mg base (L2.CX P w) 4 f fd ["plan", "n"] (spF ⟨K, ct⟩ 2 F_cells) :=
  def_ok2 (k := 3) F sc_cells rfl fun cdv A outer s H E B hr tk po cx =>
    (rss_cons (rs_expr (r_call c_check_number hr (by decide) cx (ra_cons (r_v 1 (pv 1)) (ra_cons (r_ci 10000 M.c_MOST_CELLS) ra_nil))))
      (rss_one (rs_ret (r_cb (cr_sortK rfl) ob_sortK M.b_sorted (ra_cons (r_call c_shot_by hr (by decide) cx (ra_cons (r_v 0 (pv 0)) (ra_cons (r_v 1 (pv 1)) ra_nil))) ra_nil)))))
theorem sc_period_of : FnScope ["plan", "found", "part"] ["plan"] (defScope (top 28)) := ⟨rfl, rfl, rfl, by decide +kernel, rfl, by decide +kernel, by decide +kernel⟩
theorem ok_period_of {f : Addr} {fd : FuncData} (M : Facts K mg ct) (c_multiple : Cal P w K mg base ⟨K, ct⟩ 2 "multiple" 2 F_multiple) (F : Fun K "period_of" "period_of" (top 28) f fd) :
    FnOk P w K mg base (L2.CX P w) 3 f fd ["plan"] (spF ⟨K, ct⟩ 1 F_period_of) :=
  def_ok2 (k := 2) F sc_period_of rfl fun cdv A outer s H E B hr tk po cx =>
    (rss_cons (rs_set sc_period_of.nd r_int)
      (rss_cons (rs_for po (ri_seq (r_fld 1 0 M.k1 M.n1_pieces (r_v 0 (pv 0)))) (pg_name (i := 2) sc_period_of.nd rfl (by first | exact Or.inl rfl | exact Or.inr rfl)) (og_n 2) (rss_one (rs_set sc_period_of.nd (r_call c_multiple hr (by decide) cx (ra_cons (r_v 1 (pv 1)) (ra_cons (r_if (rt_cmp (op_inA hr.u65) o2_in (r_ix (ix_A hr.u1) o2_ix (r_v 2 (pv 2)) r_int) (r_gt M.c_LONG) (by rfl)) (r_ix (ix_A hr.u1) o2_ix (r_v 2 (pv 2)) r_int) r_int) ra_nil))))))
      (rss_one (rs_ret (r_v 1 (pv 1))))))
theorem sc_count_of : FnScope ["plan", "period", "numbers", "gains", "start", "n", "rest"] ["plan"] (defScope (top 29)) := ⟨rfl, rfl, rfl, by decide +kernel, rfl, by decide +kernel, by decide +kernel⟩
theorem ok_count_of {f : Addr} {fd : FuncData} (M : Facts K mg ct) (c_period_of : Cal P w K mg base ⟨K, ct⟩ 3 "period_of" 1 F_period_of) (c_shot_by : Cal P w K mg base ⟨K, ct⟩ 2 "shot_by" 2 F_shot_by) (F : Fun K "count_of" "count_of" (top 29) f fd) :
    FnOk P w K mg base (L2.CX P w) 4 f fd ["plan"] (spF ⟨K, ct⟩ 1 F_count_of) :=
  def_ok2 (k := 3) F sc_count_of rfl fun cdv A outer s H E B hr tk po cx =>
    (rss_cons (rs_set sc_count_of.nd (r_call c_period_of hr (by decide) cx (ra_cons (r_v 0 (pv 0)) ra_nil)))
      (rss_cons (rs_set sc_count_of.nd (r_lc sc_count_of.nd (ri_rg1 M.b_range (ra_cons (r_bin op_addA o2_add (r_ci 12 M.c_ENDS) (r_mul r_int (r_v 1 (pv 1)))) ra_nil)) (blkOk_by (own := [(("n" : Str), 5)]) rfl) (fun _ _ _ _ _ => pg_name (i := 5) sc_count_of.nd rfl (by first | exact Or.inl rfl | exact Or.inr rfl)) (og_n 5) (by decide) (fun _ _ _ _ _ _ => rpt_nil) (fun _ _ _ _ _ _ => (r_cb call_lenA ob_len M.b_len (ra_cons (r_call c_shot_by hr (by decide) cx_blk (ra_cons (r_v 0 (pv 0)) (ra_cons (r_v 5 (pv 5)) ra_nil))) ra_nil)))))
      (rss_cons (rs_set sc_count_of.nd (r_dc sc_count_of.nd (ri_rg2 M.b_range (ra_cons (r_ci 12 M.c_ENDS) (ra_cons (r_bin op_addA o2_add (r_ci 12 M.c_ENDS) (r_v 1 (pv 1))) ra_nil))) (blkOk_by (own := [(("n" : Str), 5)]) rfl) (fun _ _ _ _ _ => pg_name (i := 5) sc_count_of.nd rfl (by first | exact Or.inl rfl | exact Or.inr rfl)) (og_n 5) (by decide) (fun _ _ _ _ _ _ => rpt_nil) (fun _ _ _ _ _ _ => (r_mod (r_v 5 (pv 5)) (r_v 1 (pv 1)))) (fun _ _ _ _ _ _ => (r_sub (r_ix (ix_A hr.u1) o2_ix (r_v 2 (pv 2)) (r_bin op_addA o2_add (r_v 5 (pv 5)) (r_v 1 (pv 1)))) (r_ix (ix_A hr.u1) o2_ix (r_v 2 (pv 2)) (r_v 5 (pv 5)))))))
      (rss_cons (rs_set sc_count_of.nd (r_ci 12 M.c_ENDS))
      (rss_cons (rs_wh 1000 po ((rw_and (rt_cmp op_gt o2_gt (r_v 4 (pv 4)) r_int (nomark _)) (rw_and1 (rt_cmp (op_eqD hr.u64) o2_eq (r_sub (r_ix (ix_A hr.u1) o2_ix (r_v 2 (pv 2)) (r_bin op_addA o2_add (r_sub (r_v 4 (pv 4)) r_int) (r_v 1 (pv 1)))) (r_ix (ix_A hr.u1) o2_ix (r_v 2 (pv 2)) (r_sub (r_v 4 (pv 4)) r_int))) (r_ix (ix_A hr.u1) o2_ix (r_v 3 (pv 3)) (r_mod (r_sub (r_v 4 (pv 4)) r_int) (r_v 1 (pv 1)))) (nomark _))))).pt (rss_one (rs_aug sc_count_of.nd ip_sub r_int)))
      (rss_one (rs_ret (r_tup (ra_cons (r_v 4 (pv 4)) (ra_cons (r_v 1 (pv 1)) (ra_cons (r_ct call_tuple_of ob_tup M.b_tuple (ra_cons (r_lc sc_count_of.nd (ri_rg1 M.b_range (ra_cons (r_v 1 (pv 1)) ra_nil)) (blkOk_by (own := [(("rest" : Str), 6)]) rfl) (fun _ _ _ _ _ => pg_name (i := 6) sc_count_of.nd rfl (by first | exact Or.inl rfl | exact Or.inr rfl)) (og_n 6) (by decide) (fun _ _ _ _ _ _ => rpt_nil) (fun _ _ _ _ _ _ => (r_ix (ix_A hr.u1) o2_ix (r_v 3 (pv 3)) (r_v 6 (pv 6))))) ra_nil)) (ra_cons (r_ct call_tuple_of ob_tup M.b_tuple (ra_cons (r_sl (r_v 2 (pv 2)) ro_no (ro_so (r_bin op_addA o2_add (r_v 4 (pv 4)) (r_v 1 (pv 1))))) ra_nil)) ra_nil))))))))))))
theorem sc_count : FnScope ["plan"] ["plan"] (defScope (top 30)) := ⟨rfl, rfl, rfl, by decide +kernel, rfl, by decide +kernel, by decide +kernel⟩
theorem ok_count {f : Addr} {fd : FuncData} (M : Facts K mg ct) (c_count_of : Cal P w K mg base ⟨K, ct⟩ 4 "count_of" 1 F_count_of) (F : Fun K "count" "count" (top 30) f fd) :
    FnOk P w K mg base (L2.CX P w) 5 f fd ["plan"] (spF ⟨K, ct⟩ 1 F_count) :=
  def_ok2 (k := 4) F sc_count rfl fun cdv A outer s H E B hr tk po cx =>
    (rss_one (rs_ret (r_call c_count_of hr (by decide) cx (ra_cons (r_v 0 (pv 0)) ra_nil))))
theorem sc__law_pick : FnScope ["_law_row", "_law_many_here", "_law_cell", "_law_found"] ["_law_row", "_law_many_here"] (defScope (top 33)) := ⟨rfl, rfl, rfl, by decide +kernel, rfl, by decide +kernel, by decide +kernel⟩
theorem ok__law_pick {f : Addr} {fd : FuncData} (M : Facts K mg ct)  (F : Fun K "_law_pick" "_law_pick" (top 33) f fd) :
    FnOk P w K mg base (L2.CX P w) 1 f fd ["_law_row", "_law_many_here"] (spF ⟨K, ct⟩ 2 F__law_pick) :=
  def_ok2 (k := 0) F sc__law_pick rfl fun cdv A outer s H E B hr tk po cx =>
    (rss_cons (rs_if (rt_cmp (op_eqD hr.u64) o2_eq (r_ix (ix_A hr.u1) o2_ix (r_v 0 (pv 0)) r_int) r_int (nomark _))
      (rss_one (rs_if (rt_cmp op_lt o2_lt (r_ix (ix_A hr.u1) o2_ix (r_v 0 (pv 0)) r_int) (r_cb call_lenA ob_len M.b_len (ra_cons (r_ix (ix_A hr.u1) o2_ix (r_v 0 (pv 0)) r_int) ra_nil)) (nomark _))
      (rss_cons (rs_set sc__law_pick.nd (r_ix (ix_A hr.u1) o2_ix (r_ix (ix_A hr.u1) o2_ix (r_v 0 (pv 0)) r_int) (r_ix (ix_A hr.u1) o2_ix (r_v 0 (pv 0)) r_int)))
      (rss_cons (rs_putL (r_v 0 (pv 0)) r_int (r_bin op_addA o2_add (r_ix (ix_A hr.u1) o2_ix (r_v 0 (pv 0)) r_int) r_int))
      (rss_one (rs_if (rt_cmp op_ge o2_ge (r_v 2 (pv 2)) (r_pow r_int r_int) (nomark _))
      (rss_one (rs_putL (r_v 0 (pv 0)) r_int (r_v 2 (pv 2))))
      (rss_one (rs_putL (r_v 0 (pv 0)) r_int (r_mod (r_ct call_int1 ob_int M.b_int (ra_cons (r_bin op_addA o2_add (r_bin op_addA o2_add (r_mul (r_ix (ix_A hr.u1) o2_ix (r_v 0 (pv 0)) r_int) r_int) (r_mul (r_v 2 (pv 2)) r_int)) r_int) ra_nil)) r_int)))))))
      (rss_one (rs_putL (r_v 0 (pv 0)) r_int (r_mod (r_ct call_int1 ob_int M.b_int (ra_cons (r_bin op_addA o2_add (r_mul (r_ix (ix_A hr.u1) o2_ix (r_v 0 (pv 0)) r_int) r_int) r_int) ra_nil)) r_int)))))
      rss_nil)
      (rss_cons (rs_if (rt_cmp op_gt o2_gt (r_ix (ix_A hr.u1) o2_ix (r_v 0 (pv 0)) r_int) r_int (nomark _))
      (rss_cons (rs_set sc__law_pick.nd (r_mod (r_ct call_int1 ob_int M.b_int (ra_cons (r_ix (ix_A hr.u1) o2_ix (r_v 0 (pv 0)) r_int) ra_nil)) (r_v 1 (pv 1))))
      (rss_cons (rs_putL (r_v 0 (pv 0)) r_int (r_fdiv (r_ix (ix_A hr.u1) o2_ix (r_v 0 (pv 0)) r_int) (r_v 1 (pv 1))))
      (rss_one (rs_ret (r_v 3 (pv 3))))))
      rss_nil)
      (rss_one (rs_ret (r_mod (r_mod (r_ct call_int1 ob_int M.b_int (ra_cons (r_mul (r_ix (ix_A hr.u1) o2_ix (r_v 0 (pv 0)) r_int) r_int) ra_nil)) r_int) (r_v 1 (pv 1)))))))
theorem sc__law_parts : FnScope ["_law_row", "_law_most", "_law_steps", "_law_found", "_law_k", "_law_turn_of", "_law_step", "_law_part"] ["_law_row", "_law_most", "_law_steps"] (defScope (top 34)) := ⟨rfl, rfl, rfl, by decide +kernel, rfl, by decide +kernel, by decide +kernel⟩
theorem ok__law_parts {f : Addr} {fd : FuncData} (M : Facts K mg ct) (c__law_pick : Cal P w K mg base ⟨K, ct⟩ 1 "_law_pick" 2 F__law_pick) (F : Fun K "_law_parts" "_law_parts" (top 34) f fd) :
    FnOk P w K mg base (L2.CX P w) 2 f fd ["_law_row", "_law_most", "_law_steps"] (spF ⟨K, ct⟩ 3 F__law_parts) :=
  def_ok2 (k := 1) F sc__law_parts rfl fun cdv A outer s H E B hr tk po cx =>
    (rss_cons (rs_set sc__law_parts.nd (r_lstH ra_nil))
      (rss_cons (rs_for po (ri_rg1 M.b_range (ra_cons (r_callZ c__law_pick hr (by decide) cx (ra_cons (r_v 0 (pv 0)) (ra_cons (r_bin op_addA o2_add (r_v 1 (pv 1)) r_int) ra_nil))) ra_nil)) (pg_name (i := 4) sc__law_parts.nd rfl (by first | exact Or.inl rfl | exact Or.inr rfl)) (og_n 4) (rss_cons (rs_par sc__law_parts.nd (ra_cons (r_callZ c__law_pick hr (by decide) cx (ra_cons (r_v 0 (pv 0)) (ra_cons r_int ra_nil))) (ra_cons (r_ix (ix_A hr.u1) o2_ix (r_v 2 (pv 2)) (r_callZ c__law_pick hr (by decide) cx (ra_cons (r_v 0 (pv 0)) (ra_cons (r_cb call_lenA ob_len M.b_len (ra_cons (r_v 2 (pv 2)) ra_nil)) ra_nil)))) ra_nil)))
      (rss_cons (rs_set sc__law_parts.nd (r_tup (ra_cons (r_ix (ix_A hr.u1) o2_ix (r_lst (ra_cons r_str (ra_cons r_str ra_nil))) (r_mod (r_v 5 (pv 5)) r_int)) (ra_cons (r_v 6 (pv 6)) (ra_cons (r_callZ c__law_pick hr (by decide) cx (ra_cons (r_v 0 (pv 0)) (ra_cons (r_v 6 (pv 6)) ra_nil))) ra_nil)))))
      (rss_cons (rs_if (rt_cmp op_gt o2_gt (r_v 5 (pv 5)) r_int (nomark _))
      (rss_one (rs_set sc__law_parts.nd (r_tup (ra_cons (r_ix (ix_A hr.u1) o2_ix (r_lst (ra_cons r_str (ra_cons r_str ra_nil))) (r_mod (r_v 5 (pv 5)) r_int)) (ra_cons (r_callZ c__law_pick hr (by decide) cx (ra_cons (r_v 0 (pv 0)) (ra_cons r_int ra_nil))) ra_nil)))))
      rss_nil)
      (rss_one (rs_if (rt_cmp (op_ninA hr.u65) o2_nin (r_v 7 (pv 7)) (r_v 3 (pv 3)) (by rfl))
      (rss_one (rs_expr (r_mut PySem.F.slot_list_append PySem.F.type_list_append mt_append om_app (r_v 3 (pv 3)) (ra_cons (r_v 7 (pv 7)) ra_nil))))
      rss_nil))))))
      (rss_one (rs_ret (r_ct call_tuple_of ob_tup M.b_tuple (ra_cons (r_v 3 (pv 3)) ra_nil))))))
theorem sc__law_is_shot : FnScope ["_law_parts_here", "_law_n", "_law_cell", "_law_part"] ["_law_parts_here", "_law_n", "_law_cell"] (defScope (top 35)) := ⟨rfl, rfl, rfl, by decide +kernel, rfl, by decide +kernel, by decide +kernel⟩
theorem ok__law_is_shot {f : Addr} {fd : FuncData} (M : Facts K mg ct)  (F : Fun K "_law_is_shot" "_law_is_shot" (top 35) f fd) :
    FnOk P w K mg base (L2.CX P w) 1 f fd ["_law_parts_here", "_law_n", "_law_cell"] (spF ⟨K, ct⟩ 3 F__law_is_shot) :=
  def_ok2 (k := 0) F sc__law_is_shot rfl fun cdv A outer s H E B hr tk po cx =>
    (rss_cons (rs_for po (ri_seq (r_v 0 (pv 0))) (pg_name (i := 3) sc__law_is_shot.nd rfl (by first | exact Or.inl rfl | exact Or.inr rfl)) (og_n 3) (rss_cons (rs_if ((rw_and (rt_cmp (op_eqD hr.u64) o2_eq (r_ix (ix_A hr.u1) o2_ix (r_v 3 (pv 3)) r_int) r_str (nomark _)) (rw_and1 (rt_cmp (op_eqD hr.u64) o2_eq (r_mod (r_v 2 (pv 2)) (r_ix (ix_A hr.u1) o2_ix (r_v 3 (pv 3)) r_int)) (r_ix (ix_A hr.u1) o2_ix (r_v 3 (pv 3)) r_int) (nomark _))))).pt
      (rss_one (rs_ret r_bl))
      rss_nil)
      (rss_cons (rs_if ((rw_and (rt_cmp (op_eqD hr.u64) o2_eq (r_ix (ix_A hr.u1) o2_ix (r_v 3 (pv 3)) r_int) r_str (nomark _)) (rw_and1 (rt_cmp (op_eqD hr.u64) o2_eq (r_mod (r_sub (r_sub (r_v 1 (pv 1)) r_int) (r_v 2 (pv 2))) (r_ix (ix_A hr.u1) o2_ix (r_v 3 (pv 3)) r_int)) (r_ix (ix_A hr.u1) o2_ix (r_v 3 (pv 3)) r_int) (nomark _))))).pt
      (rss_one (rs_ret r_bl))
      rss_nil)
      (rss_one (rs_if ((rw_or (rt_cmp (op_eqD hr.u64) o2_eq (r_v 3 (pv 3)) (r_tup (ra_cons r_str (ra_cons (r_v 2 (pv 2)) ra_nil))) (nomark _)) (rw_or1 (rt_cmp (op_eqD hr.u64) o2_eq (r_v 3 (pv 3)) (r_tup (ra_cons r_str (ra_cons (r_sub (r_sub (r_v 1 (pv 1)) r_int) (r_v 2 (pv 2))) ra_nil))) (nomark _))))).pt
      (rss_one (rs_ret r_bl))
      rss_nil)))))
      (rss_one (rs_ret r_bl)))
theorem sc__law_cells : FnScope ["_law_parts_here", "_law_n", "_law_cell"] ["_law_parts_here", "_law_n"] (defScope (top 36)) := ⟨rfl, rfl, rfl, by decide +kernel, rfl, by decide +kernel, by decide +kernel⟩
theorem ok__law_cells {f : Addr} {fd : FuncData} (M : Facts K mg ct) (c__law_is_shot : Cal P w K mg base ⟨K, ct⟩ 1 "_law_is_shot" 3 F__law_is_shot) (F : Fun K "_law_cells" "_law_cells" (top 36) f fd) :
    FnOk P w K mg base (L2.CX P w) 2 f fd ["_law_parts_here", "_law_n"] (spF ⟨K, ct⟩ 2 F__law_cells) :=
  def_ok2 (k := 1) F sc__law_cells rfl fun cdv A outer s H E B hr tk po cx =>
    (rss_one (rs_ret (r_lc sc__law_cells.nd (ri_rg1 M.b_range (ra_cons (r_v 1 (pv 1)) ra_nil)) (blkOk_by (own := [(("_law_cell" : Str), 2)]) rfl) (fun _ _ _ _ _ => pg_name (i := 2) sc__law_cells.nd rfl (by first | exact Or.inl rfl | exact Or.inr rfl)) (og_n 2) (by decide) (fun _ _ _ _ _ _ => (rpt_one (rt_val (r_call c__law_is_shot hr (by decide) cx_blk (ra_cons (r_v 0 (pv 0)) (ra_cons (r_v 1 (pv 1)) (ra_cons (r_v 2 (pv 2)) ra_nil))))))) (fun _ _ _ _ _ _ => (r_v 2 (pv 2))))))
theorem sc__law_common : FnScope ["_law_one", "_law_other"] ["_law_one", "_law_other"] (defScope (top 37)) := ⟨rfl, rfl, rfl, by decide +kernel, rfl, by decide +kernel, by decide +kernel⟩
theorem ok__law_common {f : Addr} {fd : FuncData} (M : Facts K mg ct)  (F : Fun K "_law_common" "_law_common" (top 37) f fd) :
    FnOk P w K mg base (L2.CX P w) 1 f fd ["_law_one", "_law_other"] (spF ⟨K, ct⟩ 2 F__law_common) :=
  def_ok2 (k := 0) F sc__law_common rfl fun cdv A outer s H E B hr tk po cx =>
    (rss_cons (rs_wh 1000 po (rt_cmp op_gt o2_gt (r_v 1 (pv 1)) r_int (nomark _)) (rss_one (rs_par sc__law_common.nd (ra_cons (r_v 1 (pv 1)) (ra_cons (r_mod (r_v 0 (pv 0)) (r_v 1 (pv 1))) ra_nil)))))
      (rss_one (rs_ret (r_v 0 (pv 0)))))
theorem sc__law_period : FnScope ["_law_parts_here", "_law_found", "_law_part"] ["_law_parts_here"] (defScope (top 38)) := ⟨rfl, rfl, rfl, by decide +kernel, rfl, by decide +kernel, by decide +kernel⟩
theorem ok__law_period {f : Addr} {fd : FuncData} (M : Facts K mg ct) (c__law_common : Cal P w K mg base ⟨K, ct⟩ 1 "_law_common" 2 F__law_common) (F : Fun K "_law_period" "_law_period" (top 38) f fd) :
    FnOk P w K mg base (L2.CX P w) 2 f fd ["_law_parts_here"] (spF ⟨K, ct⟩ 1 F__law_period) :=
  def_ok2 (k := 1) F sc__law_period rfl fun cdv A outer s H E B hr tk po cx =>
    (rss_cons (rs_set sc__law_period.nd r_int)
      (rss_cons (rs_for po (ri_seq (r_v 0 (pv 0))) (pg_name (i := 2) sc__law_period.nd rfl (by first | exact Or.inl rfl | exact Or.inr rfl)) (og_n 2) (rss_one (rs_if (rt_cmp (op_eqD hr.u64) o2_eq (r_cb call_lenA ob_len M.b_len (ra_cons (r_v 2 (pv 2)) ra_nil)) r_int (nomark _))
      (rss_one (rs_set sc__law_period.nd (r_fdiv (r_mul (r_v 1 (pv 1)) (r_ix (ix_A hr.u1) o2_ix (r_v 2 (pv 2)) r_int)) (r_call c__law_common hr (by decide) cx (ra_cons (r_v 1 (pv 1)) (ra_cons (r_ix (ix_A hr.u1) o2_ix (r_v 2 (pv 2)) r_int) ra_nil))))))
      rss_nil)))
      (rss_one (rs_ret (r_v 1 (pv 1))))))
theorem sc__law_refused : FnScope ["_law_plan", "_law_n", "_law_told", "e"] ["_law_plan", "_law_n"] (defScope (top 39)) := ⟨rfl, rfl, rfl, by decide +kernel, rfl, by decide +kernel, by decide +kernel⟩
def F__law_refused : FM := runDef 4
  ((sSeq (sSet 2 (eK (.bl false)))
    (sSeq (sTry [13, 14] 3 (sExpr (eCallD 2 F_cells (aCons (eV 0) (aCons (eV 1) aNil)))) ((fun c => excSub c 13, fun c fs => sSet 2 (xIs [13, 14] (fun c => excSub c 9) ⟨3, 0, c, fs, none⟩)) :: []))
    (sRet (eV 2)))))
theorem ok__law_refused {f : Addr} {fd : FuncData} (M : Facts K mg ct) (c_cells : Cal P w K mg base ⟨K, ct⟩ 4 "cells" 2 F_cells) (x_BadNumber : Xc P w K mg base "BadNumber" (ct 13) (flds 13)) (F : Fun K "_law_refused" "_law_refused" (top 39) f fd) :
    FnOk P w K mg base (L2.CX P w) 5 f fd ["_law_plan", "_law_n"] (spF ⟨K, ct⟩ 2 F__law_refused) :=
  def_ok2 (k := 4) F sc__law_refused rfl fun cdv A outer s H E B hr tk po cx =>
    (rss_cons (rs_set sc__law_refused.nd r_bl)
      (rss_cons (rs_try (n := "e") (i := 3) (L := [13, 14]) rfl rfl sc__law_refused.nd tk (fun Ek pn xe tk po => (rss_one (rs_expr (r_call c_cells hr (by decide) (cx_tr (K := K) tk rfl) (ra_cons (r_v 0 (pv 0)) (ra_cons (r_v 1 (pv 1)) ra_nil)))))) (.cons ⟨rfl, by decide, .inl M.g_BadNumber⟩ M.e_BadNumber (fun a oe c fs d pn hz hf => (pss_one (xs_set sc__law_refused.nd (x_is (ε := ⟨3, a, c, fs, d⟩) (cV := .ref (ct 9)) (L := [13, 14]) (bf := fun c => excSub c 9) hz hf M.eC M.ki_SeaError (fun _ h => h) M.b_isinstance rfl rfl (.inl rfl) (pe_glob rfl M.g_SeaError rfl))))) .nil))
      (rss_one (rs_ret (r_v 2 (pv 2))))))
theorem sc__law_many : FnScope ["_law_told", "_law_n", "_law_start", "_law_period_here", "_law_gains", "_law_counts", "_law_times"] ["_law_told", "_law_n"] (defScope (top 40)) := ⟨rfl, rfl, rfl, by decide +kernel, rfl, by decide +kernel, by decide +kernel⟩
def F__law_many : FM := runDef 7
  ((sSeq (sUnp [2, 3, 4, 5] (eV 0))
    (sSeq (sIf (tE (eB mLt (eV 1) (eB mAdd (eV 2) (eV 3))))
    (sRet (eB mIx (eV 5) (eV 1)))
    sNil)
    (sSeq (sSet 6 (eB mFdiv (eB mSub (eV 1) (eV 2)) (eV 3)))
    (sRet (eB mAdd (eB mIx (eV 5) (eB mSub (eV 1) (eB mMul (eV 6) (eV 3)))) (eB mMul (eV 6) (eB mIx (eV 4) (eB mMod (eV 1) (eV 3))))))))))
theorem ok__law_many {f : Addr} {fd : FuncData} (M : Facts K mg ct)  (F : Fun K "_law_many" "_law_many" (top 40) f fd) :
    FnOk P w K mg base (L2.CX P w) 1 f fd ["_law_told", "_law_n"] (spF ⟨K, ct⟩ 2 F__law_many) :=
  def_ok2 (k := 0) F sc__law_many rfl fun cdv A outer s H E B hr tk po cx =>
    (rss_cons (rs_unp (r_v 0 (pv 0)) (pgs_cons (pg_name (i := 2) sc__law_many.nd rfl (by first | exact Or.inl rfl | exact Or.inr rfl)) (pgs_cons (pg_name (i := 3) sc__law_many.nd rfl (by first | exact Or.inl rfl | exact Or.inr rfl)) (pgs_cons (pg_name (i := 4) sc__law_many.nd rfl (by first | exact Or.inl rfl | exact Or.inr rfl)) (pgs_cons (pg_name (i := 5) sc__law_many.nd rfl (by first | exact Or.inl rfl | exact Or.inr rfl)) pgs_nil)))) rfl)
      (rss_cons (rs_if (rt_cmp op_lt o2_lt (r_v 1 (pv 1)) (r_bin op_addA o2_add (r_v 2 (pv 2)) (r_v 3 (pv 3))) (nomark _))
      (rss_one (rs_ret (r_ix (ix_A hr.u1) o2_ix (r_v 5 (pv 5)) (r_v 1 (pv 1)))))
      rss_nil)
      (rss_cons (rs_set sc__law_many.nd (r_fdiv (r_sub (r_v 1 (pv 1)) (r_v 2 (pv 2))) (r_v 3 (pv 3))))
      (rss_one (rs_ret (r_bin op_addA o2_add (r_ix (ix_A hr.u1) o2_ix (r_v 5 (pv 5)) (r_sub (r_v 1 (pv 1)) (r_mul (r_v 6 (pv 6)) (r_v 3 (pv 3))))) (r_mul (r_v 6 (pv 6)) (r_ix (ix_A hr.u1) o2_ix (r_v 4 (pv 4)) (r_mod (r_v 1 (pv 1)) (r_v 3 (pv 3)))))))))))
theorem sc_law : FnScope ["_law_script", "_law_row", "_law_parts_here", "_law_plan", "_law_told", "_law_period_here", "_law_numbers", "_law_n", "_law_start", "_law_grown"] ["_law_script"] (defScope (top 41)) := ⟨rfl, rfl, rfl, by decide +kernel, rfl, by decide +kernel, by decide +kernel⟩
def L_law : SM := (sSeq (sSet 2 (eCallZ 3 F__law_parts (aCons (eV 1) (aCons (eK (.int 4)) (aCons (eLst (aCons (eK (.int 1)) (aCons (eK (.int 2)) (aCons (eK (.int 3)) (aCons (eK (.int 4)) (aCons (eK (.int 5)) (aCons (eK (.int 6)) aNil))))))) aNil)))))
    (sSeq (sSet 3 (eMakeD 1 1 F_Plan_init (aCons (eV 2) aNil)))
    (sSeq (sPar [4, 5] (aCons (eCallD 1 F_count (aCons (eV 3) aNil)) (aCons (eCallD 1 F__law_period (aCons (eV 2) aNil)) aNil)))
    (sSeq (sIf (tOr (tNot (tE (eCB (m2 mIsi) (aCons (eV 4) (aCons (eK (.ty 3)) aNil))))) (tOr (tE (eB mNe (eCB (m1 mLen) (aCons (eV 4) aNil)) (eK (.int 4)))) (tOr (tE (eB mNe (eB mIx (eV 4) (eK (.int 1))) (eV 5))) (tE (eB mNe (eCB (m1 mLen) (aCons (eB mIx (eV 4) (eK (.int 2))) aNil)) (eV 5))))))
    (sRet (eK (.bl false)))
    sNil)
    (sSeq (sIf (tOr (tNot (tE (eCB (m2 mIsi) (aCons (eB mIx (eV 4) (eK (.int 2))) (aCons (eK (.ty 3)) aNil))))) (tOr (tNot (tE (eCB (m2 mIsi) (aCons (eB mIx (eV 4) (eK (.int 3))) (aCons (eK (.ty 3)) aNil))))) (tE (eB mNe (eCB (m1 mLen) (aCons (eB mIx (eV 4) (eK (.int 3))) aNil)) (eB mAdd (eB mIx (eV 4) (eK (.int 0))) (eV 5))))))
    (sRet (eK (.bl false)))
    sNil)
    (sSeq (sSet 6 (eLC (iRg1 (aCons (eB mAdd (eK (.int 13)) (eB mMul (eK (.int 2)) (eV 5))) aNil)) [7] (tgN 7) tTrue (eCB (m1 mLen) (aCons (eCallD 2 F__law_cells (aCons (eV 2) (aCons (eV 7) aNil))) aNil))))
    (sSeq (sFor (iRg1 (aCons (eCB (m1 mLen) (aCons (eV 6) aNil)) aNil)) (tgN 7) (sIf (tOr (tE (eB mNe (eCallD 2 F__law_many (aCons (eV 4) (aCons (eV 7) aNil))) (eB mIx (eV 6) (eV 7)))) (tAnd (tE (eB mLt (eV 7) (eK (.int 14)))) (tE (eB mNe (eCallD 2 F_cells (aCons (eV 3) (aCons (eV 7) aNil))) (eCallD 2 F__law_cells (aCons (eV 2) (aCons (eV 7) aNil)))))))
    (sRet (eK (.bl false)))
    sNil))
    (sSeq (sSet 8 (eB mIx (eV 4) (eK (.int 0))))
    (sSeq (sIf (tE (eB mGt (eV 8) (eK (.int 0))))
    (sSeq (sSet 9 (eB mSub (eB mIx (eV 6) (eB mAdd (eB mSub (eV 8) (eK (.int 1))) (eV 5))) (eB mIx (eV 6) (eB mSub (eV 8) (eK (.int 1))))))
    (sIf (tE (eB mEq (eV 9) (eB mIx (eB mIx (eV 4) (eK (.int 2))) (eB mMod (eB mSub (eV 8) (eK (.int 1))) (eV 5)))))
    (sRet (eK (.bl false)))
    sNil))
    sNil)
    (sSeq (sSet 7 (eB mSub (eB mIx (eLst (aCons (eK (.int 100)) (aCons (eK (.int 999)) (aCons (eB mPow (eK (.int 10)) (eK (.int 4))) aNil)))) (eCallZ 2 F__law_pick (aCons (eV 1) (aCons (eK (.int 3)) aNil)))) (eCallZ 2 F__law_pick (aCons (eV 1) (aCons (eK (.int 30)) aNil)))))
    (sSeq (sIf (tOr (tE (eB mNe (eCallD 2 F_cells (aCons (eV 3) (aCons (eV 7) aNil))) (eCallD 2 F__law_cells (aCons (eV 2) (aCons (eV 7) aNil))))) (tE (eB mNe (eCallD 2 F__law_many (aCons (eV 4) (aCons (eV 7) aNil))) (eCB (m1 mLen) (aCons (eCallD 2 F__law_cells (aCons (eV 2) (aCons (eV 7) aNil))) aNil)))))
    (sRet (eK (.bl false)))
    sNil)
    (sRet (eCallD 2 F__law_refused (aCons (eV 3) (aCons (eB mIx (eLst (aCons (eU mNeg (eK (.int 1))) (aCons (eB mAdd (eB mPow (eK (.int 10)) (eK (.int 4))) (eK (.int 1))) (aCons (eK (.bl true)) (aCons (eK .non) (aCons (eK (.str "7")) aNil)))))) (eCallZ 2 F__law_pick (aCons (eV 1) (aCons (eK (.int 5)) aNil)))) aNil)))))))))))))))
theorem ok_law {f : Addr} {fd : FuncData} (M : Facts K mg ct) (c__law_parts : Cal P w K mg base ⟨K, ct⟩ 2 "_law_parts" 3 F__law_parts) (c__law_period : Cal P w K mg base ⟨K, ct⟩ 2 "_law_period" 1 F__law_period) (c_count : Cal P w K mg base ⟨K, ct⟩ 5 "count" 1 F_count) (c__law_cells : Cal P w K mg base ⟨K, ct⟩ 2 "_law_cells" 2 F__law_cells) (c__law_many : Cal P w K mg base ⟨K, ct⟩ 1 "_law_many" 2 F__law_many) (c_cells : Cal P w K mg base ⟨K, ct⟩ 4 "cells" 2 F_cells) (c__law_pick : Cal P w K mg base ⟨K, ct⟩ 1 "_law_pick" 2 F__law_pick) (c__law_refused : Cal P w K mg base ⟨K, ct⟩ 5 "_law_refused" 2 F__law_refused) (m_Plan : Ma P w K mg base ⟨K, ct⟩ 4 "Plan" 1 1 F_Plan_init) (F : Fun K "law" "law" (top 41) f fd)
    (dr : ∃ (f' : Addr) (fd' : FuncData), mg "_law_draws" = some (.ref f') ∧ PySem.W.keepIn K (.ref f') = true ∧ Binds K fd' ["_law_script"] [] ∧ FnOk P w K mg base (L2.CX P w) 1 f' fd' ["_law_script"] (spDraw K))
    (hsem : ∀ ns : List Int, ns.length ≤ 63 → ∃ own', L_law (lawSl 10) (lawRow ns) = some (.rt (.d (.bl true)) own')) :
    FnOk P w K mg base (L2.CX P w) 6 f fd ["_law_script"] (spLaw K) :=
  law_of2 (ct := ct) (k := 5) (Lr := L_law) F sc_law (by decide) rfl rfl rfl rfl rfl dr rfl (fun _ => rfl) (fun cdv A outer s H E B hr tk po cx =>
    (rss_cons (rs_set sc_law.nd (r_callZ c__law_parts hr (by decide) cx (ra_cons (r_v 1 (pv 1)) (ra_cons r_int (ra_cons (r_lst (ra_cons r_int (ra_cons r_int (ra_cons r_int (ra_cons r_int (ra_cons r_int (ra_cons r_int ra_nil))))))) ra_nil)))))
      (rss_cons (rs_set sc_law.nd (r_makeD m_Plan hr (by decide) cx (ra_cons (r_v 2 (pv 2)) ra_nil)))
      (rss_cons (rs_par sc_law.nd (ra_cons (r_call c_count hr (by decide) cx (ra_cons (r_v 3 (pv 3)) ra_nil)) (ra_cons (r_call c__law_period hr (by decide) cx (ra_cons (r_v 2 (pv 2)) ra_nil)) ra_nil)))
      (rss_cons (rs_if ((rw_or (rt_not (rt_val (r_cb call_isi ob_isi M.b_isinstance (ra_cons (r_v 4 (pv 4)) (ra_cons (r_ty 3 M.b_tuple) ra_nil))))) (rw_or (rt_cmp (op_neD hr.u64) o2_ne (r_cb call_lenA ob_len M.b_len (ra_cons (r_v 4 (pv 4)) ra_nil)) r_int (nomark _)) (rw_or (rt_cmp (op_neD hr.u64) o2_ne (r_ix (ix_A hr.u1) o2_ix (r_v 4 (pv 4)) r_int) (r_v 5 (pv 5)) (nomark _)) (rw_or1 (rt_cmp (op_neD hr.u64) o2_ne (r_cb call_lenA ob_len M.b_len (ra_cons (r_ix (ix_A hr.u1) o2_ix (r_v 4 (pv 4)) r_int) ra_nil)) (r_v 5 (pv 5)) (nomark _))))))).pt
      (rss_one (rs_ret r_bl))
      rss_nil)
      (rss_cons (rs_if ((rw_or (rt_not (rt_val (r_cb call_isi ob_isi M.b_isinstance (ra_cons (r_ix (ix_A hr.u1) o2_ix (r_v 4 (pv 4)) r_int) (ra_cons (r_ty 3 M.b_tuple) ra_nil))))) (rw_or (rt_not (rt_val (r_cb call_isi ob_isi M.b_isinstance (ra_cons (r_ix (ix_A hr.u1) o2_ix (r_v 4 (pv 4)) r_int) (ra_cons (r_ty 3 M.b_tuple) ra_nil))))) (rw_or1 (rt_cmp (op_neD hr.u64) o2_ne (r_cb call_lenA ob_len M.b_len (ra_cons (r_ix (ix_A hr.u1) o2_ix (r_v 4 (pv 4)) r_int) ra_nil)) (r_bin op_addA o2_add (r_ix (ix_A hr.u1) o2_ix (r_v 4 (pv 4)) r_int) (r_v 5 (pv 5))) (nomark _)))))).pt
      (rss_one (rs_ret r_bl))
      rss_nil)
      (rss_cons (rs_setLc sc_law.nd (ri_rg1 M.b_range (ra_cons (r_bin op_addA o2_add r_int (r_mul r_int (r_v 5 (pv 5)))) ra_nil)) (blkOk_by (own := [(("_law_n" : Str), 7)]) rfl) (fun _ _ _ _ _ => pg_name (i := 7) sc_law.nd rfl (by first | exact Or.inl rfl | exact Or.inr rfl)) (og_n 7) (by decide) (fun _ _ _ _ _ _ => rpt_nil) (fun _ _ _ _ _ _ => (r_cb call_lenA ob_len M.b_len (ra_cons (r_call c__law_cells hr (by decide) cx_blk (ra_cons (r_v 2 (pv 2)) (ra_cons (r_v 7 (pv 7)) ra_nil))) ra_nil))))
      (rss_cons (rs_for po (ri_rg1 M.b_range (ra_cons (r_cb call_lenA ob_len M.b_len (ra_cons (r_v 6 (pv 6)) ra_nil)) ra_nil)) (pg_name (i := 7) sc_law.nd rfl (by first | exact Or.inl rfl | exact Or.inr rfl)) (og_n 7) (rss_one (rs_if ((rw_or (rt_cmp (op_neD hr.u64) o2_ne (r_call c__law_many hr (by decide) cx (ra_cons (r_v 4 (pv 4)) (ra_cons (r_v 7 (pv 7)) ra_nil))) (r_ix (ix_A hr.u1) o2_ix (r_v 6 (pv 6)) (r_v 7 (pv 7))) (nomark _)) (rw_or1 ((rw_and (rt_cmp op_lt o2_lt (r_v 7 (pv 7)) r_int (nomark _)) (rw_and1 (rt_cmp (op_neD hr.u64) o2_ne (r_call c_cells hr (by decide) cx (ra_cons (r_v 3 (pv 3)) (ra_cons (r_v 7 (pv 7)) ra_nil))) (r_call c__law_cells hr (by decide) cx (ra_cons (r_v 2 (pv 2)) (ra_cons (r_v 7 (pv 7)) ra_nil))) (nomark _))))).pt))).pt
      (rss_one (rs_ret r_bl))
      rss_nil)))
      (rss_cons (rs_set sc_law.nd (r_ix (ix_A hr.u1) o2_ix (r_v 4 (pv 4)) r_int))
      (rss_cons (rs_if (rt_cmp op_gt o2_gt (r_v 8 (pv 8)) r_int (nomark _))
      (rss_cons (rs_set sc_law.nd (r_sub (r_ix (ix_A hr.u1) o2_ix (r_v 6 (pv 6)) (r_bin op_addA o2_add (r_sub (r_v 8 (pv 8)) r_int) (r_v 5 (pv 5)))) (r_ix (ix_A hr.u1) o2_ix (r_v 6 (pv 6)) (r_sub (r_v 8 (pv 8)) r_int))))
      (rss_one (rs_if (rt_cmp (op_eqD hr.u64) o2_eq (r_v 9 (pv 9)) (r_ix (ix_A hr.u1) o2_ix (r_ix (ix_A hr.u1) o2_ix (r_v 4 (pv 4)) r_int) (r_mod (r_sub (r_v 8 (pv 8)) r_int) (r_v 5 (pv 5)))) (nomark _))
      (rss_one (rs_ret r_bl))
      rss_nil)))
      rss_nil)
      (rss_cons (rs_set sc_law.nd (r_sub (r_ix (ix_A hr.u1) o2_ix (r_lst (ra_cons r_int (ra_cons r_int (ra_cons (r_pow r_int r_int) ra_nil)))) (r_callZ c__law_pick hr (by decide) cx (ra_cons (r_v 1 (pv 1)) (ra_cons r_int ra_nil)))) (r_callZ c__law_pick hr (by decide) cx (ra_cons (r_v 1 (pv 1)) (ra_cons r_int ra_nil)))))
      (rss_cons (rs_if ((rw_or (rt_cmp (op_neD hr.u64) o2_ne (r_call c_cells hr (by decide) cx (ra_cons (r_v 3 (pv 3)) (ra_cons (r_v 7 (pv 7)) ra_nil))) (r_call c__law_cells hr (by decide) cx (ra_cons (r_v 2 (pv 2)) (ra_cons (r_v 7 (pv 7)) ra_nil))) (nomark _)) (rw_or1 (rt_cmp (op_neD hr.u64) o2_ne (r_call c__law_many hr (by decide) cx (ra_cons (r_v 4 (pv 4)) (ra_cons (r_v 7 (pv 7)) ra_nil))) (r_cb call_lenA ob_len M.b_len (ra_cons (r_call c__law_cells hr (by decide) cx (ra_cons (r_v 2 (pv 2)) (ra_cons (r_v 7 (pv 7)) ra_nil))) ra_nil)) (nomark _))))).pt
      (rss_one (rs_ret r_bl))
      rss_nil)
      (rss_one (rs_ret (r_call c__law_refused hr (by decide) cx (ra_cons (r_v 3 (pv 3)) (ra_cons (r_ix (ix_A hr.u1) o2_ix (r_lst (ra_cons (r_neg r_int) (ra_cons (r_bin op_addA o2_add (r_pow r_int r_int) r_int) (ra_cons r_bl (ra_cons r_non (ra_cons r_str ra_nil)))))) (r_callZ c__law_pick hr (by decide) cx (ra_cons (r_v 1 (pv 1)) (ra_cons r_int ra_nil)))) ra_nil))))))))))))))))) hsem
end
end K04
end T_L04a
section T_Q04
set_option Elab.async false
set_option linter.all false
set_option maxRecDepth 100000
set_option maxHeartbeats 4000000
set_option pp.maxSteps 2000
namespace K04
open PySem Gx Pg Mx Ny
theorem gm_le {pts : List Pt} {P r : Nat} : gm pts P r ≤ P := by
  unfold gm gain cf
  have := List.length_filter_le (fun i => shot pts (r + 12 * P + P) (6 + i)) (List.range P)
  rw [List.length_range] at this
  exact this
theorem p64 {x : Int} (h : -1000000 ≤ x) (h2 : x ≤ 1000000) : -(2 ^ 64) < x ∧ x < 2 ^ 64 := ⟨Int.lt_of_lt_of_le (by decide) h, Int.lt_of_le_of_lt h2 (by decide)⟩
theorem many_run {pts : List Pt} {P n : Nat} (per : Per pts P) (hP : P ≤ 60) : F__law_many [.d (told pts P), .d (.int n)] [] = some (.ok (.d (.int (cnt pts n))), []) := by
  have hP0 := per.1
  unfold F__law_many
  refine run_rt ?_
  refine (st_Seq (sd1 := [some (.d (told pts P)), some (.d (.int n)), some (.d (.int (startN pts P))), some (.d (.int P)), some (.d (.tup ((List.range P).map (gmF pts P)))), some (.d (.tup ((List.range (startN pts P + P)).map (numF pts)))), none]) (o1 := []) rfl).trans ?_
  have c : tE (eB mLt (eV 1) (eB mAdd (eV 2) (eV 3))) [some (.d (told pts P)), some (.d (.int n)), some (.d (.int (startN pts P))), some (.d (.int P)), some (.d (.tup ((List.range P).map (gmF pts P)))), some (.d (.tup ((List.range (startN pts P + P)).map (numF pts)))), none] [] = some (.ok (decide ((n : Int) < (startN pts P : Int) + (P : Int))), []) := rfl
  by_cases h : n < startN pts P + P
  · rw [decide_eq_true (by omega)] at c
    exact st_IfEnd c (st_Ret (e_B (x := .d (.tup ((List.range (startN pts P + P)).map (numF pts)))) (y := .d (.int n)) rfl rfl (o_numT h rfl)))
  · rw [decide_eq_false (by omega)] at c
    refine (st_Seq (st_IfSkip c)).trans ?_
    have d1 : eB mFdiv (eB mSub (eV 1) (eV 2)) (eV 3) [some (.d (told pts P)), some (.d (.int n)), some (.d (.int (startN pts P))), some (.d (.int P)), some (.d (.tup ((List.range P).map (gmF pts P)))), some (.d (.tup ((List.range (startN pts P + P)).map (numF pts)))), none] [] = some (.ok (.d (.int (((n - startN pts P) / P : Nat) : Int))), []) := by
      refine (e_B (x := .d (.int ((n : Int) - startN pts P))) (y := .d (.int P)) rfl rfl (o_fdiv (by omega) (by omega))).trans ?_
      rw [show (n : Int) - startN pts P = ((n - startN pts P : Nat) : Int) by omega, ← Int.natCast_ediv]
    refine (st_Seq (st_Set d1)).trans ?_
    generalize ht : (n - startN pts P) / P = t
    have hdm := Nat.div_add_mod (n - startN pts P) P
    rw [ht, Nat.mul_comm] at hdm
    have hlt := Nat.mod_lt (n - startN pts P) hP0
    have hm : startN pts P ≤ n - t * P := by omega
    have hcnt := cnt_times per hm t
    rw [show n - t * P + t * P = n by omega] at hcnt
    have hmod : (n - t * P) % P = n % P := by
      conv => rhs; rw [show n = n - t * P + t * P by omega]
      rw [Nat.add_mul_mod_self_right]
    rw [hmod] at hcnt
    show sRet _ [some (.d (told pts P)), some (.d (.int n)), some (.d (.int (startN pts P))), some (.d (.int P)), some (.d (.tup ((List.range P).map (gmF pts P)))), some (.d (.tup ((List.range (startN pts P + P)).map (numF pts)))), some (.d (.int (t : Int)))] [] = _
    refine st_Ret ?_
    have q1 := p64 (x := (P : Int)) (by omega) (by omega)
    have hg := gm_le (pts := pts) (P := P) (r := n % P)
    have q2 := p64 (x := (gm pts P (n % P) : Int)) (by omega) (by omega)
    refine (e_B (x := .d (.int (cnt pts (n - t * P)))) (y := .d (.int ((t : Int) * gm pts P (n % P))))
      (e_B (x := .d (.tup ((List.range (startN pts P + P)).map (numF pts)))) (y := .d (.int ((n : Int) - (t : Int) * P))) rfl (e_B (x := .d (.int n)) (y := .d (.int ((t : Int) * P))) rfl (e_B (x := .d (.int t)) (y := .d (.int P)) rfl rfl (o_mulr q1.1 q1.2)) rfl) (o_numT (i := n - t * P) (by omega) (by rw [← Int.natCast_mul]; omega)))
      (e_B (x := .d (.int t)) (y := .d (.int (gm pts P (n % P)))) rfl (e_B (x := .d (.tup ((List.range P).map (gmF pts P)))) (y := .d (.int ((n : Int) % (P : Int)))) rfl (e_Mod rfl rfl (by omega)) (o_gmT (Nat.mod_lt _ hP0) (Int.natCast_emod n P).symm)) (o_mulr q2.1 q2.2)) rfl).trans ?_
    rw [hcnt]
    show some (Rz.ok (SV.d (D.int ((cnt pts (n - t * P) : Int) + (t : Int) * (gm pts P (n % P) : Int)))), ([] : Own)) = _
    rw [Int.natCast_add, Int.natCast_mul]
theorem c_many {pts : List Pt} {P n : Nat} (per : Per pts P) (hP : P ≤ 60) (sd : Sl) (own : Own) : callD 2 F__law_many [.d (told pts P), .d (.int n)] sd own = some (.ok (.d (.int (cnt pts n))), own) := cD (ds := [told pts P, .int n]) rfl rfl (many_run per hP) sd own
theorem ne_lI {own : Own} (l : List Int) : mNe own (.d (lI l)) (.d (lI l)) = some (.bl false) := by
  show (if (okN 60 (lI l) && okN 60 (lI l)) = true then some (D.bl (!eqN 60 (lI l) (lI l))) else none) = _
  have h1 : okN 60 (lI l) = true := ok_ints 59 l
  rw [h1, eq_lI 59, decide_eq_true rfl]
  rfl
theorem ne_int {own : Own} (i : Int) : mNe own (.d (.int i)) (.d (.int i)) = some (.bl false) := by rw [o_ne]; simp
theorem len_cells {own : Own} {pts : List Pt} {n : Nat} : mLen own (.d (lI (cellsI pts n))) = some (.int (cnt pts n)) := by
  show some (D.int ((cellsI pts n).map D.int).length) = _
  unfold cellsI cnt
  rw [List.length_map, List.length_map]
def odd5 : List D := [.int (-1), .int 10001, .bl true, .non, .str "7"]
theorem refused_all {pts : List Pt} {r : Nat} (hr : r < 5) : ∃ x, odd5[r]? = some x ∧ F__law_refused [.d (plan pts), .d x] [] = some (.ok (.d (.bl true)), []) := by
  have hr : r = 0 ∨ r = 1 ∨ r = 2 ∨ r = 3 ∨ r = 4 := by omega
  rcases hr with rfl | rfl | rfl | rfl | rfl <;> exact ⟨_, rfl, by kernel_rfl⟩
/-! ## the law -/
def lpB : SM := (sIf (tOr (tE (eB mNe (eCallD 2 F__law_many (aCons (eV 4) (aCons (eV 7) aNil))) (eB mIx (eV 6) (eV 7)))) (tAnd (tE (eB mLt (eV 7) (eK (.int 14)))) (tE (eB mNe (eCallD 2 F_cells (aCons (eV 3) (aCons (eV 7) aNil))) (eCallD 2 F__law_cells (aCons (eV 2) (aCons (eV 7) aNil)))))))
    (sRet (eK (.bl false)))
    sNil)
def lS (pts : List Pt) (s6 s7 s8 s9 : Option SV) : Sl := [none, some (.h 0), some (.d (tD pts)), some (.d (plan pts)), some (.d (told pts (perN pts))), some (.d (.int (perN pts))), s6, s7, s8, s9]
variable {pts : List Pt}
theorem lpB_run (ok : ∀ x ∈ pts, x.ok) (hl : pts.length ≤ 4) {N i : Nat} (hi : i < N) (hi2 : i ≤ 10000) {s8 s9 : Option SV} {own : Own} :
    lpB (lS pts (some (.d (numsD pts N))) (some (.d (.int i))) s8 s9) own = some (.nx (lS pts (some (.d (numsD pts N))) (some (.d (.int i))) s8 s9) own) := by
  have per := (per_ok ok).2
  have hP := (per_le ok).2
  refine st_IfSkip ?_
  have c1 : tE (eB mNe (eCallD 2 F__law_many (aCons (eV 4) (aCons (eV 7) aNil))) (eB mIx (eV 6) (eV 7))) (lS pts (some (.d (numsD pts N))) (some (.d (.int i))) s8 s9) own = some (.ok false, own) :=
    t_E (e_B (e_CallD (xs := [.d (told pts (perN pts)), .d (.int i)]) rfl (c_many per hP)) (e_B (x := .d (numsD pts N)) (y := .d (.int i)) rfl rfl (o_num hi rfl)) (ne_int _))
  refine t_Or c1 ?_
  have c3 : tE (eB mNe (eCallD 2 F_cells (aCons (eV 3) (aCons (eV 7) aNil))) (eCallD 2 F__law_cells (aCons (eV 2) (aCons (eV 7) aNil)))) (lS pts (some (.d (numsD pts N))) (some (.d (.int i))) s8 s9) own = some (.ok false, own) :=
    t_E (e_B (e_CallD (xs := [.d (plan pts), .d (.int i)]) rfl (c_cells ok hl hi2)) (e_CallD (xs := [.d (tD pts), .d (.int i)]) rfl (c_lcells ok (by omega))) (ne_lI _))
  have c2 : tE (eB mLt (eV 7) (eK (.int 14))) (lS pts (some (.d (numsD pts N))) (some (.d (.int i))) s8 s9) own = some (.ok (decide ((i : Int) < 14)), own) := rfl
  cases h : decide ((i : Int) < 14) with
  | true => rw [h] at c2; exact t_And c2 c3
  | false => rw [h] at c2; exact t_And0 c2
def stB : SM := (sIf (tE (eB mGt (eV 8) (eK (.int 0))))
    (sSeq (sSet 9 (eB mSub (eB mIx (eV 6) (eB mAdd (eB mSub (eV 8) (eK (.int 1))) (eV 5))) (eB mIx (eV 6) (eB mSub (eV 8) (eK (.int 1))))))
    (sIf (tE (eB mEq (eV 9) (eB mIx (eB mIx (eV 4) (eK (.int 2))) (eB mMod (eB mSub (eV 8) (eK (.int 1))) (eV 5)))))
    (sRet (eK (.bl false)))
    sNil))
    sNil)
theorem stB_run (ok : ∀ x ∈ pts, x.ok) {s7 : Option SV} {own : Own} : ∃ s9, stB (lS pts (some (.d (numsD pts (13 + 2 * perN pts)))) s7 (some (.d (.int (startN pts (perN pts))))) none) own = some (.nx (lS pts (some (.d (numsD pts (13 + 2 * perN pts)))) s7 (some (.d (.int (startN pts (perN pts))))) s9) own) := by
  have hP := per_le ok
  have hs := start_le (pts := pts) (P := perN pts)
  have hno := goN_no pts (perN pts) 12
  unfold lS stB
  change 0 < startN pts (perN pts) → ¬ okAt pts (perN pts) (startN pts (perN pts) - 1) at hno
  generalize startN pts (perN pts) = st at hs hno
  generalize perN pts = P at hP hno
  have c : tE (eB mGt (eV 8) (eK (.int 0))) [none, some (.h 0), some (.d (tD pts)), some (.d (plan pts)), some (.d (told pts P)), some (.d (.int P)), some (.d (numsD pts (13 + 2 * P))), s7, some (.d (.int st)), none] own = some (.ok (decide ((0 : Int) < st)), own) := rfl
  by_cases h : 0 < st
  · rw [decide_eq_true (by omega)] at c
    have a1 : eB mIx (eV 6) (eB mAdd (eB mSub (eV 8) (eK (.int 1))) (eV 5)) [none, some (.h 0), some (.d (tD pts)), some (.d (plan pts)), some (.d (told pts P)), some (.d (.int P)), some (.d (numsD pts (13 + 2 * P))), s7, some (.d (.int st)), none] own = some (.ok (.d (.int (cnt pts (st - 1 + P)))), own) := e_B (x := .d (numsD pts (13 + 2 * P))) (y := .d (.int ((st : Int) - 1 + P))) rfl rfl (o_num (by omega) (by omega))
    have a2 : eB mIx (eV 6) (eB mSub (eV 8) (eK (.int 1))) [none, some (.h 0), some (.d (tD pts)), some (.d (plan pts)), some (.d (told pts P)), some (.d (.int P)), some (.d (numsD pts (13 + 2 * P))), s7, some (.d (.int st)), none] own = some (.ok (.d (.int (cnt pts (st - 1)))), own) := e_B (x := .d (numsD pts (13 + 2 * P))) (y := .d (.int ((st : Int) - 1))) rfl rfl (o_num (by omega) (by omega))
    refine ⟨some (.d (.int ((cnt pts (st - 1 + P) : Int) - (cnt pts (st - 1) : Int)))), ?_⟩
    refine (st_IfT c).trans ((st_Seq (st_Set (e_B a1 a2 rfl))).trans ?_)
    refine st_IfSkip ?_
    have a3 : eB mMod (eB mSub (eV 8) (eK (.int 1))) (eV 5) [none, some (.h 0), some (.d (tD pts)), some (.d (plan pts)), some (.d (told pts P)), some (.d (.int P)), some (.d (numsD pts (13 + 2 * P))), s7, some (.d (.int st)), some (.d (.int ((cnt pts (st - 1 + P) : Int) - (cnt pts (st - 1) : Int))))] own = some (.ok (.d (.int (((st : Int) - 1) % (P : Int)))), own) := e_Mod (x := (st : Int) - 1) (y := P) rfl rfl (by omega)
    have hm : ((st : Int) - 1) % (P : Int) = (((st - 1) % P : Nat) : Int) := by rw [show (st : Int) - 1 = ((st - 1 : Nat) : Int) by omega]; exact (Int.natCast_emod _ P).symm
    refine (t_E (e_B (m := mEq) (x := .d (.int ((cnt pts (st - 1 + P) : Int) - (cnt pts (st - 1) : Int)))) (y := .d (.int (gm pts P ((st - 1) % P)))) rfl (e_B (x := .d (.tup ((List.range P).map (gmF pts P)))) rfl a3 (o_gmT (Nat.mod_lt _ hP.1) hm)) (d := .bl (((cnt pts (st - 1 + P) : Int) - (cnt pts (st - 1) : Int)) == (gm pts P ((st - 1) % P) : Int))) rfl)).trans ?_
    have := hno h
    unfold okAt at this
    rw [eqi, decide_eq_false (by omega)]
  · rw [decide_eq_false (by omega)] at c
    exact ⟨none, st_IfSkip c⟩
end K04
end T_Q04
section T_Q04b
set_option Elab.async false
set_option linter.all false
set_option maxRecDepth 100000
set_option maxHeartbeats 4000000
set_option pp.maxSteps 2000
namespace K04
open PySem Gx Pg Mx Ny
def steps6 : List Int := [1, 2, 3, 4, 5, 6]
theorem steps6_ok : Steps steps6 := ⟨by decide, by decide, by decide⟩
def p1B : SM := (sSet 2 (eCallZ 3 F__law_parts (aCons (eV 1) (aCons (eK (.int 4)) (aCons (eLst (aCons (eK (.int 1)) (aCons (eK (.int 2)) (aCons (eK (.int 3)) (aCons (eK (.int 4)) (aCons (eK (.int 5)) (aCons (eK (.int 6)) aNil))))))) aNil)))))
theorem p1_run {o : O} (R : Row o) : ∃ (pts : List Pt) (o' : O), Row o' ∧ pts.Nodup ∧ pts.length ≤ 4 ∧ (∀ x ∈ pts, x.ok) ∧ p1B [none, some (.h 0), none, none, none, none, none, none, none, none] [o] = some (.nx [none, some (.h 0), some (.d (tD pts)), none, none, none, none, none, none, none] [o']) := by
  obtain ⟨pts, o', R', nd, hl, ok, e⟩ := parts_draw (mo := 4) (by decide) steps6_ok R
  refine ⟨pts, o', R', nd, hl, fun x hx => (ok x hx).1, (st_Set (x := .d (tD pts)) ?_).trans rfl⟩
  rw [s_eCallZ, s_bind_ok (a_c (x := .h 0) rfl (a_c (x := .d (.int 4)) rfl (a_1 (x := .d (.lst (steps6.map D.int))) rfl)))]
  exact e _ []
def if1B : SM := (sIf (tOr (tNot (tE (eCB (m2 mIsi) (aCons (eV 4) (aCons (eK (.ty 3)) aNil))))) (tOr (tE (eB mNe (eCB (m1 mLen) (aCons (eV 4) aNil)) (eK (.int 4)))) (tOr (tE (eB mNe (eB mIx (eV 4) (eK (.int 1))) (eV 5))) (tE (eB mNe (eCB (m1 mLen) (aCons (eB mIx (eV 4) (eK (.int 2))) aNil)) (eV 5))))))
    (sRet (eK (.bl false)))
    sNil)
def if2B : SM := (sIf (tOr (tNot (tE (eCB (m2 mIsi) (aCons (eB mIx (eV 4) (eK (.int 2))) (aCons (eK (.ty 3)) aNil))))) (tOr (tNot (tE (eCB (m2 mIsi) (aCons (eB mIx (eV 4) (eK (.int 3))) (aCons (eK (.ty 3)) aNil))))) (tE (eB mNe (eCB (m1 mLen) (aCons (eB mIx (eV 4) (eK (.int 3))) aNil)) (eB mAdd (eB mIx (eV 4) (eK (.int 0))) (eV 5))))))
    (sRet (eK (.bl false)))
    sNil)
variable {pts : List Pt}
theorem if1_run {own : Own} : if1B (lS pts none none none none) own = some (.nx (lS pts none none none none) own) := by
  refine st_IfSkip ?_
  unfold lS
  generalize perN pts = P
  refine t_Or (o1 := own) (t_Not (b := true) rfl) (t_Or (o1 := own) ?_ (t_Or (o1 := own) ?_ ?_))
  · exact t_E (e_B (x := .d (.int 4)) (y := .d (.int 4)) rfl rfl (ne_int 4))
  · exact t_E (e_B (x := .d (.int P)) (y := .d (.int P)) rfl rfl (ne_int _))
  · have l : mLen own (.d (.tup ((List.range P).map (gmF pts P)))) = some (.int P) := by
      show some (D.int ((List.range P).map (gmF pts P)).length) = _
      rw [List.length_map, List.length_range]
    exact t_E (e_B (x := .d (.int P)) (y := .d (.int P)) (e_C1 (x := .d (.tup ((List.range P).map (gmF pts P)))) rfl l) rfl (ne_int _))
theorem if2_run {own : Own} : if2B (lS pts none none none none) own = some (.nx (lS pts none none none none) own) := by
  refine st_IfSkip ?_
  unfold lS
  generalize perN pts = P
  refine t_Or (o1 := own) (t_Not (b := true) rfl) (t_Or (o1 := own) (t_Not (b := true) rfl) ?_)
  have l : mLen own (.d (.tup ((List.range (startN pts P + P)).map (numF pts)))) = some (.int ((startN pts P : Int) + (P : Int))) := by
    show some (D.int ((List.range (startN pts P + P)).map (numF pts)).length) = _
    rw [List.length_map, List.length_range, Int.natCast_add]
  exact t_E (e_B (x := .d (.int ((startN pts P : Int) + (P : Int)))) (y := .d (.int ((startN pts P : Int) + (P : Int)))) (e_C1 (x := .d (.tup ((List.range (startN pts P + P)).map (numF pts)))) rfl l) rfl (ne_int _))
def numB : SM := (sSet 6 (eLC (iRg1 (aCons (eB mAdd (eK (.int 13)) (eB mMul (eK (.int 2)) (eV 5))) aNil)) [7] (tgN 7) tTrue (eCB (m1 mLen) (aCons (eCallD 2 F__law_cells (aCons (eV 2) (aCons (eV 7) aNil))) aNil))))
theorem num_run (ok : ∀ x ∈ pts, x.ok) {own : Own} : numB (lS pts none none none none) own = some (.nx (lS pts (some (.d (numsD pts (13 + 2 * perN pts)))) none none none) own) := by
  have hP := per_le ok
  have n1 : eB mAdd (eK (.int 13)) (eB mMul (eK (.int 2)) (eV 5)) (lS pts none none none none) own = some (.ok (.d (.int ((13 + 2 * perN pts : Nat) : Int))), own) := by
    refine (e_B (x := .d (.int 13)) (y := .d (.int (2 * perN pts))) rfl (e_B (x := .d (.int 2)) (y := .d (.int (perN pts))) rfl rfl (o_mull (by decide) (by decide))) rfl).trans ?_
    rw [show (13 : Int) + 2 * (perN pts : Int) = ((13 + 2 * perN pts : Nat) : Int) by omega]
  exact st_Set (e_LC0 (enc := fun i : Nat => D.int (i : Int)) (vs := [7]) (tg := tgN 7) (f := eCB (m1 mLen) (aCons (eCallD 2 F__law_cells (aCons (eV 2) (aCons (eV 7) aNil))) aNil)) (numF pts) (e_rg1 n1 (by omega)) (by rw [List.length_range]; exact small (by omega))
    (fun i hi => ⟨_, rfl, e_C1 (e_CallD (xs := [.d (tD pts), .d (.int i)]) rfl (c_lcells ok (by rw [List.mem_range] at hi; omega))) len_cells⟩))
theorem loop_run (ok : ∀ x ∈ pts, x.ok) (hl : pts.length ≤ 4) {own : Own} : ∃ s7, sFor (iRg1 (aCons (eCB (m1 mLen) (aCons (eV 6) aNil)) aNil)) (tgN 7) lpB (lS pts (some (.d (numsD pts (13 + 2 * perN pts)))) none none none) own = some (.nx (lS pts (some (.d (numsD pts (13 + 2 * perN pts)))) s7 none none) own) := by
  have hP := per_le ok
  have l : mLen own (.d (numsD pts (13 + 2 * perN pts))) = some (.int ((13 + 2 * perN pts : Nat) : Int)) := by
    show some (D.int ((List.range (13 + 2 * perN pts)).map (numF pts)).length) = _
    rw [List.length_map, List.length_range]
  have r := e_rg1 (f := eCB (m1 mLen) (aCons (eV 6) aNil)) (sd := lS pts (some (.d (numsD pts (13 + 2 * perN pts)))) none none none) (own := own) (n := 13 + 2 * perN pts) (e_C1 (x := .d (numsD pts (13 + 2 * perN pts))) rfl l) (by omega)
  obtain ⟨sd2, own2, e, rfl, s7, rfl⟩ := for_fold (enc := fun i : Nat => D.int (i : Int)) (tg := tgN 7) (p := lpB) (fun (_ : Unit) sd own2 => own2 = own ∧ ∃ s7, sd = lS pts (some (.d (numsD pts (13 + 2 * perN pts)))) s7 none none) (fun _ _ => ()) (List.range (13 + 2 * perN pts)) () _ own ⟨rfl, none, rfl⟩
    (fun _ i sd own2 hi ⟨h1, s7, h2⟩ => by
      subst h1 h2
      rw [List.mem_range] at hi
      exact ⟨_, rfl, _, _, .inl (lpB_run ok hl hi (by omega)), rfl, _, rfl⟩)
  exact ⟨s7, st_For r e⟩
def bigB : SM := (sSet 7 (eB mSub (eB mIx (eLst (aCons (eK (.int 100)) (aCons (eK (.int 999)) (aCons (eB mPow (eK (.int 10)) (eK (.int 4))) aNil)))) (eCallZ 2 F__law_pick (aCons (eV 1) (aCons (eK (.int 3)) aNil)))) (eCallZ 2 F__law_pick (aCons (eV 1) (aCons (eK (.int 30)) aNil)))))
theorem big_run {o : O} (R : Row o) {s6 s7 s8 s9 : Option SV} : ∃ (n : Nat) (o' : O), n ≤ 10000 ∧ Row o' ∧ bigB (lS pts s6 s7 s8 s9) [o] = some (.nx (lS pts s6 (some (.d (.int n))) s8 s9) [o']) := by
  obtain ⟨r1, o1, h1, R1, e1⟩ := draw R (m := 3) (by decide) (by decide)
  obtain ⟨r2, o2, h2, R2, e2⟩ := draw R1 (m := 30) (by decide) (by decide)
  have c1 : eLst (aCons (eK (.int 100)) (aCons (eK (.int 999)) (aCons (eB mPow (eK (.int 10)) (eK (.int 4))) aNil))) (lS pts s6 s7 s8 s9) [o] = some (.ok (.d (.lst [.int 100, .int 999, .int 10000])), [o]) := by kernel_rfl
  have a : ∀ (b : Nat), 30 ≤ b → b ≤ 10000 → L2.atI [D.int 100, .int 999, .int 10000] (r1 : Int) = some (.int b) → ∃ (n : Nat) (o' : O), n ≤ 10000 ∧ Row o' ∧ bigB (lS pts s6 s7 s8 s9) [o] = some (.nx (lS pts s6 (some (.d (.int n))) s8 s9) [o']) := fun b hb hb2 hx => by
    refine ⟨b - r2, o2, by omega, R2, (st_Set (x := .d (.int ((b - r2 : Nat) : Int))) ?_).trans rfl⟩
    refine (e_B (x := .d (.int b)) (y := .d (.int r2)) (e_B (x := .d (.lst [.int 100, .int 999, .int 10000])) (y := .d (.int r1)) c1 (e1 (eV 1) (eK (.int 3)) _ [] rfl rfl) (by rw [o_ixl, hx])) (e2 (eV 1) (eK (.int 30)) _ [] rfl rfl) rfl).trans ?_
    show some (Rz.ok (SV.d (D.int ((b : Int) - (r2 : Int)))), [o2]) = _
    rw [show (b : Int) - (r2 : Int) = ((b - r2 : Nat) : Int) by omega]
  have hr : r1 = 0 ∨ r1 = 1 ∨ r1 = 2 := by omega
  rcases hr with rfl | rfl | rfl
  · exact a 100 (by decide) (by decide) rfl
  · exact a 999 (by decide) (by decide) rfl
  · exact a 10000 (by decide) (by decide) rfl
def if3B : SM := (sIf (tOr (tE (eB mNe (eCallD 2 F_cells (aCons (eV 3) (aCons (eV 7) aNil))) (eCallD 2 F__law_cells (aCons (eV 2) (aCons (eV 7) aNil))))) (tE (eB mNe (eCallD 2 F__law_many (aCons (eV 4) (aCons (eV 7) aNil))) (eCB (m1 mLen) (aCons (eCallD 2 F__law_cells (aCons (eV 2) (aCons (eV 7) aNil))) aNil)))))
    (sRet (eK (.bl false)))
    sNil)
theorem if3_run (ok : ∀ x ∈ pts, x.ok) (hl : pts.length ≤ 4) {n : Nat} (hn : n ≤ 10000) {s6 s8 s9 : Option SV} {own : Own} : if3B (lS pts s6 (some (.d (.int n))) s8 s9) own = some (.nx (lS pts s6 (some (.d (.int n))) s8 s9) own) := by
  have per := (per_ok ok).2
  have hP := (per_le ok).2
  refine st_IfSkip (t_Or (o1 := own) ?_ ?_)
  · exact t_E (e_B (e_CallD (xs := [.d (plan pts), .d (.int n)]) rfl (c_cells ok hl hn)) (e_CallD (xs := [.d (tD pts), .d (.int n)]) rfl (c_lcells ok (by omega))) (ne_lI _))
  · exact t_E (e_B (e_CallD (xs := [.d (told pts (perN pts)), .d (.int n)]) rfl (c_many per hP)) (e_C1 (e_CallD (xs := [.d (tD pts), .d (.int n)]) rfl (c_lcells ok (by omega))) len_cells) (ne_int _))
def retB : SM := (sRet (eCallD 2 F__law_refused (aCons (eV 3) (aCons (eB mIx (eLst (aCons (eU mNeg (eK (.int 1))) (aCons (eB mAdd (eB mPow (eK (.int 10)) (eK (.int 4))) (eK (.int 1))) (aCons (eK (.bl true)) (aCons (eK .non) (aCons (eK (.str "7")) aNil)))))) (eCallZ 2 F__law_pick (aCons (eV 1) (aCons (eK (.int 5)) aNil)))) aNil))))
theorem ret_run {o : O} (R : Row o) {s6 s7 s8 s9 : Option SV} : ∃ o', retB (lS pts s6 s7 s8 s9) [o] = some (.rt (.d (.bl true)) [o']) := by
  obtain ⟨r, o1, h1, R1, e1⟩ := draw R (m := 5) (by decide) (by decide)
  obtain ⟨x, hx, ex⟩ := refused_all (pts := pts) (r := r) (by omega)
  have c1 : eLst (aCons (eU mNeg (eK (.int 1))) (aCons (eB mAdd (eB mPow (eK (.int 10)) (eK (.int 4))) (eK (.int 1))) (aCons (eK (.bl true)) (aCons (eK .non) (aCons (eK (.str "7")) aNil))))) (lS pts s6 s7 s8 s9) [o] = some (.ok (.d (.lst odd5)), [o]) := by kernel_rfl
  refine ⟨[o1].headD .dead, st_Ret ?_⟩
  have a := a_c (f := eV 3) (sd := lS pts s6 s7 s8 s9) (own := [o]) (x := .d (plan pts)) rfl (a_1 (e_B (m := mIx) (x := .d (.lst odd5)) (y := .d (.int r)) (d := x) c1 (e1 (eV 1) (eK (.int 5)) _ [] rfl rfl) (by rw [o_ixl, atI_pos (by omega), Int.toNat_natCast, hx])))
  rw [s_eCallD, s_bind_ok a]
  exact cD (ds := [plan pts, x]) rfl rfl ex _ _
theorem sem_law : ∀ ns : List Int, ns.length ≤ 63 → ∃ own', L_law (lawSl 10) (lawRow ns) = some (.rt (.d (.bl true)) own') := by
  intro ns _
  obtain ⟨pts, o1, R1, nd, hl, ok, e1⟩ := p1_run (row_start (ns := ns))
  obtain ⟨s7, e7⟩ := loop_run ok hl (own := [o1])
  obtain ⟨s9, e9⟩ := stB_run ok (s7 := s7) (own := [o1])
  obtain ⟨n, o2, hn, R2, e10⟩ := big_run (pts := pts) R1 (s6 := some (.d (numsD pts (13 + 2 * perN pts)))) (s7 := s7) (s8 := some (.d (.int (startN pts (perN pts))))) (s9 := s9)
  obtain ⟨o3, e12⟩ := ret_run (pts := pts) R2 (s6 := some (.d (numsD pts (13 + 2 * perN pts)))) (s7 := some (.d (.int n))) (s8 := some (.d (.int (startN pts (perN pts))))) (s9 := s9)
  refine ⟨[o3], ?_⟩
  unfold L_law
  refine (st_Seq e1).trans ?_
  refine (st_Seq (st_Set (o1 := [o1]) (x := .d (plan pts)) ?_)).trans ?_
  · rw [s_eMakeD, s_bind_ok (a_1 (x := .d (tD pts)) rfl)]
    exact plan_made nd ok hl _ _
  refine (st_Seq (sd1 := lS pts none none none none) (o1 := [o1]) ?_).trans ?_
  · rw [s_sPar, s_Sbind, a_c (e_CallD (xs := [.d (plan pts)]) rfl (c_count ok hl)) (a_1 (e_CallD (xs := [.d (tD pts)]) rfl (c_lperiod ok)))]
    rfl
  refine (st_Seq if1_run).trans ?_
  refine (st_Seq if2_run).trans ?_
  refine (st_Seq (num_run ok)).trans ?_
  refine (st_Seq e7).trans ?_
  refine (st_Seq (sd1 := lS pts (some (.d (numsD pts (13 + 2 * perN pts)))) s7 (some (.d (.int (startN pts (perN pts))))) none) (o1 := [o1]) (st_Set (x := .d (.int (startN pts (perN pts)))) rfl)).trans ?_
  refine (st_Seq e9).trans ?_
  refine (st_Seq e10).trans ?_
  refine (st_Seq (if3_run ok hl hn)).trans ?_
  exact e12
end K04
end T_Q04b
section T_L04b
set_option Elab.async false
set_option linter.all false
set_option maxRecDepth 100000
set_option maxHeartbeats 8000000
set_option pp.maxSteps 300
namespace K04
open PySem PySem.Spec PyProof.Rows L2 Gx Pg
theorem all_mk {w : World} {K : PySem.W.Frag} {h : Heap} {mg : Str → Option Value} {fa : Addr} (X : K.In h) (G : h.Ns mainGlobals mg) (hfa : mg "law" = some (.ref fa))
    (hsem : ∀ ns : List Int, ns.length ≤ 63 → ∃ own', L_law (lawSl 10) (lawRow ns) = some (.rt (.d (.bl true)) own'))
    {C1 C9 C13 C14 f_is_integer f_is_from f_is_one_of f_check_number f_divisor f_multiple f_is_part f_Plan_init f_cells_of f_shot_by f_cells f_period_of f_count_of f_count f__law_pick f__law_parts f__law_is_shot f__law_cells f__law_common f__law_period f__law_refused f__law_many f_law f__law_draws iC13 iC14 : Addr} {od_ an_ : Option Addr} {sl_ : Array (Option Value)} {oc_ kV_ dc_ pm_ cd_ ct_ : Value}
    (aC1 : PySem.W.nsIn K mainGlobals "Plan" = some (some (.ref C1)))
    (aC9 : PySem.W.nsIn K mainGlobals "SeaError" = some (some (.ref C9)))
    (aC13 : PySem.W.nsIn K mainGlobals "BadNumber" = some (some (.ref C13)))
    (aC14 : PySem.W.nsIn K mainGlobals "BadPart" = some (some (.ref C14)))
    (oC1 : OwnK K C1)
    (mC1 : PySem.W.makesIn K C1 = true)
    (kC1 : PySem.W.keepIn K (.ref C1) = true)
    (a__law_draws : PySem.W.nsIn K mainGlobals "_law_draws" = some (some (.ref f__law_draws)))
    (d__law_draws : ∃ fd, Fun K "_law_draws" "_law_draws" (top 32) f__law_draws fd)
    (a_is_integer : PySem.W.nsIn K mainGlobals "is_integer" = some (some (.ref f_is_integer)))
    (d_is_integer : ∃ fd, Fun K "is_integer" "is_integer" (top 5) f_is_integer fd)
    (a_is_from : PySem.W.nsIn K mainGlobals "is_from" = some (some (.ref f_is_from)))
    (d_is_from : ∃ fd, Fun K "is_from" "is_from" (top 6) f_is_from fd)
    (a_is_one_of : PySem.W.nsIn K mainGlobals "is_one_of" = some (some (.ref f_is_one_of)))
    (d_is_one_of : ∃ fd, Fun K "is_one_of" "is_one_of" (top 7) f_is_one_of fd)
    (a_check_number : PySem.W.nsIn K mainGlobals "check_number" = some (some (.ref f_check_number)))
    (d_check_number : ∃ fd, Fun K "check_number" "check_number" (top 8) f_check_number fd)
    (a_divisor : PySem.W.nsIn K mainGlobals "divisor" = some (some (.ref f_divisor)))
    (d_divisor : ∃ fd, Fun K "divisor" "divisor" (top 10) f_divisor fd)
    (a_multiple : PySem.W.nsIn K mainGlobals "multiple" = some (some (.ref f_multiple)))
    (d_multiple : ∃ fd, Fun K "multiple" "multiple" (top 11) f_multiple fd)
    (a_is_part : PySem.W.nsIn K mainGlobals "is_part" = some (some (.ref f_is_part)))
    (d_is_part : ∃ fd, Fun K "is_part" "is_part" (top 23) f_is_part fd)
    (a_cells_of : PySem.W.nsIn K mainGlobals "cells_of" = some (some (.ref f_cells_of)))
    (d_cells_of : ∃ fd, Fun K "cells_of" "cells_of" (top 25) f_cells_of fd)
    (a_shot_by : PySem.W.nsIn K mainGlobals "shot_by" = some (some (.ref f_shot_by)))
    (d_shot_by : ∃ fd, Fun K "shot_by" "shot_by" (top 26) f_shot_by fd)
    (a_cells : PySem.W.nsIn K mainGlobals "cells" = some (some (.ref f_cells)))
    (d_cells : ∃ fd, Fun K "cells" "cells" (top 27) f_cells fd)
    (a_period_of : PySem.W.nsIn K mainGlobals "period_of" = some (some (.ref f_period_of)))
    (d_period_of : ∃ fd, Fun K "period_of" "period_of" (top 28) f_period_of fd)
    (a_count_of : PySem.W.nsIn K mainGlobals "count_of" = some (some (.ref f_count_of)))
    (d_count_of : ∃ fd, Fun K "count_of" "count_of" (top 29) f_count_of fd)
    (a_count : PySem.W.nsIn K mainGlobals "count" = some (some (.ref f_count)))
    (d_count : ∃ fd, Fun K "count" "count" (top 30) f_count fd)
    (a__law_pick : PySem.W.nsIn K mainGlobals "_law_pick" = some (some (.ref f__law_pick)))
    (d__law_pick : ∃ fd, Fun K "_law_pick" "_law_pick" (top 33) f__law_pick fd)
    (a__law_parts : PySem.W.nsIn K mainGlobals "_law_parts" = some (some (.ref f__law_parts)))
    (d__law_parts : ∃ fd, Fun K "_law_parts" "_law_parts" (top 34) f__law_parts fd)
    (a__law_is_shot : PySem.W.nsIn K mainGlobals "_law_is_shot" = some (some (.ref f__law_is_shot)))
    (d__law_is_shot : ∃ fd, Fun K "_law_is_shot" "_law_is_shot" (top 35) f__law_is_shot fd)
    (a__law_cells : PySem.W.nsIn K mainGlobals "_law_cells" = some (some (.ref f__law_cells)))
    (d__law_cells : ∃ fd, Fun K "_law_cells" "_law_cells" (top 36) f__law_cells fd)
    (a__law_common : PySem.W.nsIn K mainGlobals "_law_common" = some (some (.ref f__law_common)))
    (d__law_common : ∃ fd, Fun K "_law_common" "_law_common" (top 37) f__law_common fd)
    (a__law_period : PySem.W.nsIn K mainGlobals "_law_period" = some (some (.ref f__law_period)))
    (d__law_period : ∃ fd, Fun K "_law_period" "_law_period" (top 38) f__law_period fd)
    (a__law_refused : PySem.W.nsIn K mainGlobals "_law_refused" = some (some (.ref f__law_refused)))
    (d__law_refused : ∃ fd, Fun K "_law_refused" "_law_refused" (top 39) f__law_refused fd)
    (a__law_many : PySem.W.nsIn K mainGlobals "_law_many" = some (some (.ref f__law_many)))
    (d__law_many : ∃ fd, Fun K "_law_many" "_law_many" (top 40) f__law_many fd)
    (a_law : PySem.W.nsIn K mainGlobals "law" = some (some (.ref f_law)))
    (l_law : K.lookup f_law = some ⟨oc_, od_, .func (PySem.W.fnOf "law" "law" (defArgs (top 41)) (defBody (top 41)) (defScope (top 41)) .none kV_ dc_ pm_ an_ cd_ ct_), sl_⟩)
    (c_law : PySem.W.codeIn K cd_ "law" = true)
    (k_law : PySem.W.keepIn K (.ref f_law) = true)
    (a_Plan_init : PySem.W.findIn K (.ref C1) "__init__" = some (some (.ref f_Plan_init)))
    (i_Plan_init : PySem.W.isFn K (.ref f_Plan_init) = true)
    (d_Plan_init : ∃ fd, Fun K "__init__" "Plan.__init__" (inClass (top 24) 0) f_Plan_init fd)
    (eC9 : ExcK K C9)
    (eC13 : ExcK K C13)
    (eC14 : ExcK K C14)
    (xC13 : PySem.W.findIn K (.ref C13) "__init__" = some (some (.ref iC13)))
    (tC13 : PySem.W.typeIn K (.ref iC13) = some (.type "function"))
    (yC13 : OexC K C13)
    (sC13 : ∃ fd cc cda, SupDef PySem.Challenge.pw_shipsrow_k04_whole_cells K C13 iC13 cc cda fd "BadNumber.__init__" (defArgs (inClass (top 2) 0)) (defBody (inClass (top 2) 0)) (defScope (inClass (top 2) 0)))
    (uC13_9 : PySem.W.subIn K (.ref C13) (.ref C9) = some true)
    (uC13_13 : PySem.W.subIn K (.ref C13) (.ref C13) = some true)
    (uC13_14 : PySem.W.subIn K (.ref C13) (.ref C14) = some false)
    (xC14 : PySem.W.findIn K (.ref C14) "__init__" = some (some (.ref iC14)))
    (tC14 : PySem.W.typeIn K (.ref iC14) = some (.type "function"))
    (yC14 : OexC K C14)
    (sC14 : ∃ fd cc cda, SupDef PySem.Challenge.pw_shipsrow_k04_whole_cells K C14 iC14 cc cda fd "BadPart.__init__" (defArgs (inClass (top 3) 0)) (defBody (inClass (top 3) 0)) (defScope (inClass (top 3) 0)))
    (wC14_index : PySem.W.findIn K (.ref C14) "index" = some none)
    (uC14_9 : PySem.W.subIn K (.ref C14) (.ref C9) = some true)
    (uC14_13 : PySem.W.subIn K (.ref C14) (.ref C13) = some false)
    (uC14_14 : PySem.W.subIn K (.ref C14) (.ref C14) = some true)
    (z_bool : PySem.W.nsIn K mainGlobals "bool" = some none)
    (z_enumerate : PySem.W.nsIn K mainGlobals "enumerate" = some none)
    (z_int : PySem.W.nsIn K mainGlobals "int" = some none)
    (z_isinstance : PySem.W.nsIn K mainGlobals "isinstance" = some none)
    (z_len : PySem.W.nsIn K mainGlobals "len" = some none)
    (z_list : PySem.W.nsIn K mainGlobals "list" = some none)
    (z_range : PySem.W.nsIn K mainGlobals "range" = some none)
    (z_sorted : PySem.W.nsIn K mainGlobals "sorted" = some none)
    (z_str : PySem.W.nsIn K mainGlobals "str" = some none)
    (z_tuple : PySem.W.nsIn K mainGlobals "tuple" = some none)
    (v_CELL : ∃ t, PySem.W.nsIn K mainGlobals "CELL" = some (some (.str "cell" t)))
    (v_ENDS : ∃ t, PySem.W.nsIn K mainGlobals "ENDS" = some (some (.int 12 t)))
    (v_EVERY : ∃ t, PySem.W.nsIn K mainGlobals "EVERY" = some (some (.str "every" t)))
    (v_EVERY_BACK : ∃ t, PySem.W.nsIn K mainGlobals "EVERY_BACK" = some (some (.str "every_back" t)))
    (v_LONG : ∃ (a : Addr) (o : Obj) (its : Array Value) (n : Nat), PySem.W.nsIn K mainGlobals "LONG" = some (some (.ref a)) ∧ K.lookup a = some o ∧ o.cls = .type "tuple" ∧ o.data = .seq its n ∧ its.size ≤ sizeLine ∧ Vals ((["every", "every_back"] : List Str).map V.str) its.toList)
    (v_MOST_CELLS : ∃ t, PySem.W.nsIn K mainGlobals "MOST_CELLS" = some (some (.int 10000 t)))
    (v_MOST_NEAR : ∃ t, PySem.W.nsIn K mainGlobals "MOST_NEAR" = some (some (.int 5 t)))
    (v_MOST_PARTS : ∃ t, PySem.W.nsIn K mainGlobals "MOST_PARTS" = some (some (.int 4 t)))
    (v_MOST_STEP : ∃ t, PySem.W.nsIn K mainGlobals "MOST_STEP" = some (some (.int 6 t)))
    (v_SHORT : ∃ (a : Addr) (o : Obj) (its : Array Value) (n : Nat), PySem.W.nsIn K mainGlobals "SHORT" = some (some (.ref a)) ∧ K.lookup a = some o ∧ o.cls = .type "tuple" ∧ o.data = .seq its n ∧ its.size ≤ sizeLine ∧ Vals ((["back", "cell"] : List Str).map V.str) its.toList)
    (n1_pieces : PySem.W.findIn K (.ref C1) "pieces" = some none)
    (zlist : PySem.W.nsIn K mainGlobals "list" = some none)
    (zsuper : PySem.W.nsIn K mainGlobals "super" = some none)
    : ∃ fd : FuncData, (∀ (s : Shared) (v : Value), BindsTo s fd ⟨[v], []⟩ [("_law_script", v)]) ∧ ∀ base : Heap, K.In base → base.Ns mainGlobals mg → FnOk PySem.Challenge.pw_shipsrow_k04_whole_cells w K mg base (L2.CX PySem.Challenge.pw_shipsrow_k04_whole_cells w) 6 fa fd ["_law_script"] (spLaw K) := by
  have e := hfa.symm.trans (PySem.W.mg_of X G a_law)
  cases e
  have M : Facts K mg (ctOf [(1, C1), (9, C9), (13, C13), (14, C14)]) := {
    b_bool := PySem.W.mg_none_of X G z_bool
    b_enumerate := PySem.W.mg_none_of X G z_enumerate
    b_int := PySem.W.mg_none_of X G z_int
    b_isinstance := PySem.W.mg_none_of X G z_isinstance
    b_len := PySem.W.mg_none_of X G z_len
    b_list := PySem.W.mg_none_of X G z_list
    b_range := PySem.W.mg_none_of X G z_range
    b_sorted := PySem.W.mg_none_of X G z_sorted
    b_str := PySem.W.mg_none_of X G z_str
    b_tuple := PySem.W.mg_none_of X G z_tuple
    c_CELL := let ⟨t, e⟩ := v_CELL; ⟨t, PySem.W.mg_of X G e⟩
    c_ENDS := let ⟨t, e⟩ := v_ENDS; ⟨t, PySem.W.mg_of X G e⟩
    c_EVERY := let ⟨t, e⟩ := v_EVERY; ⟨t, PySem.W.mg_of X G e⟩
    c_EVERY_BACK := let ⟨t, e⟩ := v_EVERY_BACK; ⟨t, PySem.W.mg_of X G e⟩
    c_LONG := let ⟨a, o, its, n, e, r⟩ := v_LONG; ⟨a, o, its, n, PySem.W.mg_of X G e, r⟩
    c_MOST_CELLS := let ⟨t, e⟩ := v_MOST_CELLS; ⟨t, PySem.W.mg_of X G e⟩
    c_MOST_NEAR := let ⟨t, e⟩ := v_MOST_NEAR; ⟨t, PySem.W.mg_of X G e⟩
    c_MOST_PARTS := let ⟨t, e⟩ := v_MOST_PARTS; ⟨t, PySem.W.mg_of X G e⟩
    c_MOST_STEP := let ⟨t, e⟩ := v_MOST_STEP; ⟨t, PySem.W.mg_of X G e⟩
    c_SHORT := let ⟨a, o, its, n, e, r⟩ := v_SHORT; ⟨a, o, its, n, PySem.W.mg_of X G e, r⟩
    eC := fun c hc => (by simp only [List.mem_cons, List.not_mem_nil, or_false] at hc; rcases hc with rfl | rfl; { exact eC13.excC }; { exact eC14.excC })
    e_BadNumber := fun c hc => (by simp only [List.mem_cons, List.not_mem_nil, or_false] at hc; rcases hc with rfl | rfl; { exact eC13.exm uC13_13 }; { exact eC13.exm uC14_13 })
    g_BadNumber := PySem.W.mg_of X G aC13
    g_SeaError := PySem.W.mg_of X G aC9
    k1 := oC1.cls
    ki_SeaError := fun c hc => (by simp only [List.mem_cons, List.not_mem_nil, or_false] at hc; rcases hc with rfl | rfl; { exact eC9.kit uC13_9 }; { exact eC9.kit uC14_9 })
    n1_pieces := n1_pieces }
  obtain ⟨fd_is_integer, F_is_integer_⟩ := d_is_integer
  have b_is_integer := F_is_integer_.binds (ps := ["value"]) fun _ _ _ _ _ _ us hl => match us, hl with | [_], _ => rfl
  obtain ⟨fd_is_from, F_is_from_⟩ := d_is_from
  have b_is_from := F_is_from_.binds (ps := ["value", "low", "high"]) fun _ _ _ _ _ _ us hl => match us, hl with | [_, _, _], _ => rfl
  obtain ⟨fd_is_one_of, F_is_one_of_⟩ := d_is_one_of
  have b_is_one_of := F_is_one_of_.binds (ps := ["value", "some"]) fun _ _ _ _ _ _ us hl => match us, hl with | [_, _], _ => rfl
  obtain ⟨fd_check_number, F_check_number_⟩ := d_check_number
  have b_check_number := F_check_number_.binds (ps := ["value", "high"]) fun _ _ _ _ _ _ us hl => match us, hl with | [_, _], _ => rfl
  obtain ⟨fd_divisor, F_divisor_⟩ := d_divisor
  have b_divisor := F_divisor_.binds (ps := ["one", "other"]) fun _ _ _ _ _ _ us hl => match us, hl with | [_, _], _ => rfl
  obtain ⟨fd_multiple, F_multiple_⟩ := d_multiple
  have b_multiple := F_multiple_.binds (ps := ["one", "other"]) fun _ _ _ _ _ _ us hl => match us, hl with | [_, _], _ => rfl
  obtain ⟨fd_is_part, F_is_part_⟩ := d_is_part
  have b_is_part := F_is_part_.binds (ps := ["value"]) fun _ _ _ _ _ _ us hl => match us, hl with | [_], _ => rfl
  obtain ⟨fd_Plan_init, F_Plan_init_⟩ := d_Plan_init
  have b_Plan_init := F_Plan_init_.binds (ps := ["self", "parts"]) fun _ _ _ _ _ _ us hl => match us, hl with | [_, _], _ => rfl
  obtain ⟨fd_cells_of, F_cells_of_⟩ := d_cells_of
  have b_cells_of := F_cells_of_.binds (ps := ["part", "n"]) fun _ _ _ _ _ _ us hl => match us, hl with | [_, _], _ => rfl
  obtain ⟨fd_shot_by, F_shot_by_⟩ := d_shot_by
  have b_shot_by := F_shot_by_.binds (ps := ["plan", "n"]) fun _ _ _ _ _ _ us hl => match us, hl with | [_, _], _ => rfl
  obtain ⟨fd_cells, F_cells_⟩ := d_cells
  have b_cells := F_cells_.binds (ps := ["plan", "n"]) fun _ _ _ _ _ _ us hl => match us, hl with | [_, _], _ => rfl
  obtain ⟨fd_period_of, F_period_of_⟩ := d_period_of
  have b_period_of := F_period_of_.binds (ps := ["plan"]) fun _ _ _ _ _ _ us hl => match us, hl with | [_], _ => rfl
  obtain ⟨fd_count_of, F_count_of_⟩ := d_count_of
  have b_count_of := F_count_of_.binds (ps := ["plan"]) fun _ _ _ _ _ _ us hl => match us, hl with | [_], _ => rfl
  obtain ⟨fd_count, F_count_⟩ := d_count
  have b_count := F_count_.binds (ps := ["plan"]) fun _ _ _ _ _ _ us hl => match us, hl with | [_], _ => rfl
  obtain ⟨fd__law_pick, F__law_pick_⟩ := d__law_pick
  have b__law_pick := F__law_pick_.binds (ps := ["_law_row", "_law_many_here"]) fun _ _ _ _ _ _ us hl => match us, hl with | [_, _], _ => rfl
  obtain ⟨fd__law_parts, F__law_parts_⟩ := d__law_parts
  have b__law_parts := F__law_parts_.binds (ps := ["_law_row", "_law_most", "_law_steps"]) fun _ _ _ _ _ _ us hl => match us, hl with | [_, _, _], _ => rfl
  obtain ⟨fd__law_is_shot, F__law_is_shot_⟩ := d__law_is_shot
  have b__law_is_shot := F__law_is_shot_.binds (ps := ["_law_parts_here", "_law_n", "_law_cell"]) fun _ _ _ _ _ _ us hl => match us, hl with | [_, _, _], _ => rfl
  obtain ⟨fd__law_cells, F__law_cells_⟩ := d__law_cells
  have b__law_cells := F__law_cells_.binds (ps := ["_law_parts_here", "_law_n"]) fun _ _ _ _ _ _ us hl => match us, hl with | [_, _], _ => rfl
  obtain ⟨fd__law_common, F__law_common_⟩ := d__law_common
  have b__law_common := F__law_common_.binds (ps := ["_law_one", "_law_other"]) fun _ _ _ _ _ _ us hl => match us, hl with | [_, _], _ => rfl
  obtain ⟨fd__law_period, F__law_period_⟩ := d__law_period
  have b__law_period := F__law_period_.binds (ps := ["_law_parts_here"]) fun _ _ _ _ _ _ us hl => match us, hl with | [_], _ => rfl
  obtain ⟨fd__law_refused, F__law_refused_⟩ := d__law_refused
  have b__law_refused := F__law_refused_.binds (ps := ["_law_plan", "_law_n"]) fun _ _ _ _ _ _ us hl => match us, hl with | [_, _], _ => rfl
  obtain ⟨fd__law_many, F__law_many_⟩ := d__law_many
  have b__law_many := F__law_many_.binds (ps := ["_law_told", "_law_n"]) fun _ _ _ _ _ _ us hl => match us, hl with | [_, _], _ => rfl
  obtain ⟨fd_d, F_d⟩ := d__law_draws
  have b_d := F_d.binds (ps := ["_law_script"]) fun _ _ _ _ _ _ us hl => match us, hl with | [_], _ => rfl
  refine ⟨PySem.W.fnOf "law" "law" (defArgs (top 41)) (defBody (top 41)) (defScope (top 41)) .none kV_ dc_ pm_ an_ cd_ ct_, fun s v => .of_eq rfl, fun base _ _ => ?_⟩
  have x_BadNumber : Xc PySem.Challenge.pw_shipsrow_k04_whole_cells w K mg base "BadNumber" ((ctOf [(1, C1), (9, C9), (13, C13), (14, C14)]) 13) (flds 13) := by
    obtain ⟨fd, cc, cda, sd⟩ := sC13
    have ok := Gx.init0 (w := w) (base := base) (mg := mg) sd ⟨rfl, rfl, rfl, by decide +kernel, rfl, by decide +kernel, by decide +kernel, sup_free rfl rfl, rfl, rfl⟩ rfl rfl (PySem.W.mg_none_of X G zsuper) (fun env => ⟨_, rfl⟩)
    obtain ⟨name, kV, doc, pm, ctv, oc, an, od, osl, e1, lk⟩ := sd.fn
    refine ⟨yC13, PySem.W.mg_of X G aC13, iC13, fd, ["self"], xC13, tC13, ?_, rfl, ok⟩
    subst e1
    exact Binds.all fun us hl => match us, hl with | [_], _ => rfl
  have x_BadPart : Xc PySem.Challenge.pw_shipsrow_k04_whole_cells w K mg base "BadPart" ((ctOf [(1, C1), (9, C9), (13, C13), (14, C14)]) 14) (flds 14) := by
    obtain ⟨fd, cc, cda, sd⟩ := sC14
    have ok := Gx.init1 (w := w) (base := base) (mg := mg) sd ⟨rfl, rfl, rfl, by decide +kernel, rfl, by decide +kernel, by decide +kernel, sup_free rfl rfl, rfl, rfl⟩ rfl rfl (PySem.W.mg_none_of X G zsuper) (by decide +kernel) (by decide +kernel) wC14_index (fun env => ⟨_, rfl⟩)
    obtain ⟨name, kV, doc, pm, ctv, oc, an, od, osl, e1, lk⟩ := sd.fn
    refine ⟨yC14, PySem.W.mg_of X G aC14, iC14, fd, ["self", "index"], xC14, tC14, ?_, rfl, ok⟩
    subst e1
    exact Binds.all fun us hl => match us, hl with | [_, _], _ => rfl
  have o_is_integer := ok_is_integer (P := PySem.Challenge.pw_shipsrow_k04_whole_cells) (w := w) (base := base) M  F_is_integer_
  have c_is_integer : Cal PySem.Challenge.pw_shipsrow_k04_whole_cells w K mg base ⟨K, (ctOf [(1, C1), (9, C9), (13, C13), (14, C14)])⟩ 1 "is_integer" 1 F_is_integer := ⟨f_is_integer, fd_is_integer, ["value"], PySem.W.mg_of X G a_is_integer, F_is_integer_.kp, b_is_integer, o_is_integer⟩
  have o_is_from := ok_is_from (P := PySem.Challenge.pw_shipsrow_k04_whole_cells) (w := w) (base := base) M c_is_integer F_is_from_
  have c_is_from : Cal PySem.Challenge.pw_shipsrow_k04_whole_cells w K mg base ⟨K, (ctOf [(1, C1), (9, C9), (13, C13), (14, C14)])⟩ 2 "is_from" 3 F_is_from := ⟨f_is_from, fd_is_from, ["value", "low", "high"], PySem.W.mg_of X G a_is_from, F_is_from_.kp, b_is_from, o_is_from⟩
  have o_is_one_of := ok_is_one_of (P := PySem.Challenge.pw_shipsrow_k04_whole_cells) (w := w) (base := base) M  F_is_one_of_
  have c_is_one_of : Cal PySem.Challenge.pw_shipsrow_k04_whole_cells w K mg base ⟨K, (ctOf [(1, C1), (9, C9), (13, C13), (14, C14)])⟩ 1 "is_one_of" 2 F_is_one_of := ⟨f_is_one_of, fd_is_one_of, ["value", "some"], PySem.W.mg_of X G a_is_one_of, F_is_one_of_.kp, b_is_one_of, o_is_one_of⟩
  have o_check_number := ok_check_number (P := PySem.Challenge.pw_shipsrow_k04_whole_cells) (w := w) (base := base) M c_is_from x_BadNumber F_check_number_
  have c_check_number : Cal PySem.Challenge.pw_shipsrow_k04_whole_cells w K mg base ⟨K, (ctOf [(1, C1), (9, C9), (13, C13), (14, C14)])⟩ 3 "check_number" 2 F_check_number := ⟨f_check_number, fd_check_number, ["value", "high"], PySem.W.mg_of X G a_check_number, F_check_number_.kp, b_check_number, o_check_number⟩
  have o_divisor := ok_divisor (P := PySem.Challenge.pw_shipsrow_k04_whole_cells) (w := w) (base := base) M  F_divisor_
  have c_divisor : Cal PySem.Challenge.pw_shipsrow_k04_whole_cells w K mg base ⟨K, (ctOf [(1, C1), (9, C9), (13, C13), (14, C14)])⟩ 1 "divisor" 2 F_divisor := ⟨f_divisor, fd_divisor, ["one", "other"], PySem.W.mg_of X G a_divisor, F_divisor_.kp, b_divisor, o_divisor⟩
  have o_multiple := ok_multiple (P := PySem.Challenge.pw_shipsrow_k04_whole_cells) (w := w) (base := base) M c_divisor F_multiple_
  have c_multiple : Cal PySem.Challenge.pw_shipsrow_k04_whole_cells w K mg base ⟨K, (ctOf [(1, C1), (9, C9), (13, C13), (14, C14)])⟩ 2 "multiple" 2 F_multiple := ⟨f_multiple, fd_multiple, ["one", "other"], PySem.W.mg_of X G a_multiple, F_multiple_.kp, b_multiple, o_multiple⟩
  have o_is_part := ok_is_part (P := PySem.Challenge.pw_shipsrow_k04_whole_cells) (w := w) (base := base) M c_is_one_of c_is_from F_is_part_
  have c_is_part : Cal PySem.Challenge.pw_shipsrow_k04_whole_cells w K mg base ⟨K, (ctOf [(1, C1), (9, C9), (13, C13), (14, C14)])⟩ 3 "is_part" 1 F_is_part := ⟨f_is_part, fd_is_part, ["value"], PySem.W.mg_of X G a_is_part, F_is_part_.kp, b_is_part, o_is_part⟩
  have o_Plan_init := ok_Plan_init (P := PySem.Challenge.pw_shipsrow_k04_whole_cells) (w := w) (base := base) M c_is_part x_BadPart F_Plan_init_
  have m_Plan : Ma PySem.Challenge.pw_shipsrow_k04_whole_cells w K mg base ⟨K, (ctOf [(1, C1), (9, C9), (13, C13), (14, C14)])⟩ 4 "Plan" 1 1 F_Plan_init := ⟨f_Plan_init, fd_Plan_init, ["self", "parts"], PySem.W.mg_of X G aC1, ⟨mC1, a_Plan_init, i_Plan_init, kC1⟩, b_Plan_init, o_Plan_init⟩
  have o_cells_of := ok_cells_of (P := PySem.Challenge.pw_shipsrow_k04_whole_cells) (w := w) (base := base) M  F_cells_of_
  have c_cells_of : Cal PySem.Challenge.pw_shipsrow_k04_whole_cells w K mg base ⟨K, (ctOf [(1, C1), (9, C9), (13, C13), (14, C14)])⟩ 1 "cells_of" 2 F_cells_of := ⟨f_cells_of, fd_cells_of, ["part", "n"], PySem.W.mg_of X G a_cells_of, F_cells_of_.kp, b_cells_of, o_cells_of⟩
  have o_shot_by := ok_shot_by (P := PySem.Challenge.pw_shipsrow_k04_whole_cells) (w := w) (base := base) M c_cells_of F_shot_by_
  have c_shot_by : Cal PySem.Challenge.pw_shipsrow_k04_whole_cells w K mg base ⟨K, (ctOf [(1, C1), (9, C9), (13, C13), (14, C14)])⟩ 2 "shot_by" 2 F_shot_by := ⟨f_shot_by, fd_shot_by, ["plan", "n"], PySem.W.mg_of X G a_shot_by, F_shot_by_.kp, b_shot_by, o_shot_by⟩
  have o_cells := ok_cells (P := PySem.Challenge.pw_shipsrow_k04_whole_cells) (w := w) (base := base) M c_check_number c_shot_by F_cells_
  have c_cells : Cal PySem.Challenge.pw_shipsrow_k04_whole_cells w K mg base ⟨K, (ctOf [(1, C1), (9, C9), (13, C13), (14, C14)])⟩ 4 "cells" 2 F_cells := ⟨f_cells, fd_cells, ["plan", "n"], PySem.W.mg_of X G a_cells, F_cells_.kp, b_cells, o_cells⟩
  have o_period_of := ok_period_of (P := PySem.Challenge.pw_shipsrow_k04_whole_cells) (w := w) (base := base) M c_multiple F_period_of_
  have c_period_of : Cal PySem.Challenge.pw_shipsrow_k04_whole_cells w K mg base ⟨K, (ctOf [(1, C1), (9, C9), (13, C13), (14, C14)])⟩ 3 "period_of" 1 F_period_of := ⟨f_period_of, fd_period_of, ["plan"], PySem.W.mg_of X G a_period_of, F_period_of_.kp, b_period_of, o_period_of⟩
  have o_count_of := ok_count_of (P := PySem.Challenge.pw_shipsrow_k04_whole_cells) (w := w) (base := base) M c_period_of c_shot_by F_count_of_
  have c_count_of : Cal PySem.Challenge.pw_shipsrow_k04_whole_cells w K mg base ⟨K, (ctOf [(1, C1), (9, C9), (13, C13), (14, C14)])⟩ 4 "count_of" 1 F_count_of := ⟨f_count_of, fd_count_of, ["plan"], PySem.W.mg_of X G a_count_of, F_count_of_.kp, b_count_of, o_count_of⟩
  have o_count := ok_count (P := PySem.Challenge.pw_shipsrow_k04_whole_cells) (w := w) (base := base) M c_count_of F_count_
  have c_count : Cal PySem.Challenge.pw_shipsrow_k04_whole_cells w K mg base ⟨K, (ctOf [(1, C1), (9, C9), (13, C13), (14, C14)])⟩ 5 "count" 1 F_count := ⟨f_count, fd_count, ["plan"], PySem.W.mg_of X G a_count, F_count_.kp, b_count, o_count⟩
  have o__law_pick := ok__law_pick (P := PySem.Challenge.pw_shipsrow_k04_whole_cells) (w := w) (base := base) M  F__law_pick_
  have c__law_pick : Cal PySem.Challenge.pw_shipsrow_k04_whole_cells w K mg base ⟨K, (ctOf [(1, C1), (9, C9), (13, C13), (14, C14)])⟩ 1 "_law_pick" 2 F__law_pick := ⟨f__law_pick, fd__law_pick, ["_law_row", "_law_many_here"], PySem.W.mg_of X G a__law_pick, F__law_pick_.kp, b__law_pick, o__law_pick⟩
  have o__law_parts := ok__law_parts (P := PySem.Challenge.pw_shipsrow_k04_whole_cells) (w := w) (base := base) M c__law_pick F__law_parts_
  have c__law_parts : Cal PySem.Challenge.pw_shipsrow_k04_whole_cells w K mg base ⟨K, (ctOf [(1, C1), (9, C9), (13, C13), (14, C14)])⟩ 2 "_law_parts" 3 F__law_parts := ⟨f__law_parts, fd__law_parts, ["_law_row", "_law_most", "_law_steps"], PySem.W.mg_of X G a__law_parts, F__law_parts_.kp, b__law_parts, o__law_parts⟩
  have o__law_is_shot := ok__law_is_shot (P := PySem.Challenge.pw_shipsrow_k04_whole_cells) (w := w) (base := base) M  F__law_is_shot_
  have c__law_is_shot : Cal PySem.Challenge.pw_shipsrow_k04_whole_cells w K mg base ⟨K, (ctOf [(1, C1), (9, C9), (13, C13), (14, C14)])⟩ 1 "_law_is_shot" 3 F__law_is_shot := ⟨f__law_is_shot, fd__law_is_shot, ["_law_parts_here", "_law_n", "_law_cell"], PySem.W.mg_of X G a__law_is_shot, F__law_is_shot_.kp, b__law_is_shot, o__law_is_shot⟩
  have o__law_cells := ok__law_cells (P := PySem.Challenge.pw_shipsrow_k04_whole_cells) (w := w) (base := base) M c__law_is_shot F__law_cells_
  have c__law_cells : Cal PySem.Challenge.pw_shipsrow_k04_whole_cells w K mg base ⟨K, (ctOf [(1, C1), (9, C9), (13, C13), (14, C14)])⟩ 2 "_law_cells" 2 F__law_cells := ⟨f__law_cells, fd__law_cells, ["_law_parts_here", "_law_n"], PySem.W.mg_of X G a__law_cells, F__law_cells_.kp, b__law_cells, o__law_cells⟩
  have o__law_common := ok__law_common (P := PySem.Challenge.pw_shipsrow_k04_whole_cells) (w := w) (base := base) M  F__law_common_
  have c__law_common : Cal PySem.Challenge.pw_shipsrow_k04_whole_cells w K mg base ⟨K, (ctOf [(1, C1), (9, C9), (13, C13), (14, C14)])⟩ 1 "_law_common" 2 F__law_common := ⟨f__law_common, fd__law_common, ["_law_one", "_law_other"], PySem.W.mg_of X G a__law_common, F__law_common_.kp, b__law_common, o__law_common⟩
  have o__law_period := ok__law_period (P := PySem.Challenge.pw_shipsrow_k04_whole_cells) (w := w) (base := base) M c__law_common F__law_period_
  have c__law_period : Cal PySem.Challenge.pw_shipsrow_k04_whole_cells w K mg base ⟨K, (ctOf [(1, C1), (9, C9), (13, C13), (14, C14)])⟩ 2 "_law_period" 1 F__law_period := ⟨f__law_period, fd__law_period, ["_law_parts_here"], PySem.W.mg_of X G a__law_period, F__law_period_.kp, b__law_period, o__law_period⟩
  have o__law_refused := ok__law_refused (P := PySem.Challenge.pw_shipsrow_k04_whole_cells) (w := w) (base := base) M c_cells x_BadNumber F__law_refused_
  have c__law_refused : Cal PySem.Challenge.pw_shipsrow_k04_whole_cells w K mg base ⟨K, (ctOf [(1, C1), (9, C9), (13, C13), (14, C14)])⟩ 5 "_law_refused" 2 F__law_refused := ⟨f__law_refused, fd__law_refused, ["_law_plan", "_law_n"], PySem.W.mg_of X G a__law_refused, F__law_refused_.kp, b__law_refused, o__law_refused⟩
  have o__law_many := ok__law_many (P := PySem.Challenge.pw_shipsrow_k04_whole_cells) (w := w) (base := base) M  F__law_many_
  have c__law_many : Cal PySem.Challenge.pw_shipsrow_k04_whole_cells w K mg base ⟨K, (ctOf [(1, C1), (9, C9), (13, C13), (14, C14)])⟩ 1 "_law_many" 2 F__law_many := ⟨f__law_many, fd__law_many, ["_law_told", "_law_n"], PySem.W.mg_of X G a__law_many, F__law_many_.kp, b__law_many, o__law_many⟩
  exact ok_law M c__law_parts c__law_period c_count c__law_cells c__law_many c_cells c__law_pick c__law_refused m_Plan (fun_mk l_law c_law k_law) ⟨_, fd_d, PySem.W.mg_of X G a__law_draws, F_d.kp, b_d, draws_ok F_d ⟨rfl, rfl, rfl, by decide +kernel, rfl, by decide +kernel, by decide +kernel⟩ (PySem.W.mg_none_of X G zlist) rfl rfl rfl⟩ hsem
theorem walk {l : PySem.W.OpenLaw} {q : Program} {loose : List Str} {XP : (Str → Option Value) → Heap → Prop} {YP : World → Heap → Prop} {d : DefRec} {K : Params → PySem.W.Frag} (hn : l.most = some 63) (hdf : d.params.defaults = [])
    (hY : ∀ (w : World) (h : Heap), YP w h → (K w.params).In h)
    (F : ∀ (w : World) (mg : Str → Option Value) (fa : Addr) (h : Heap), (K w.params).In h → h.Ns mainGlobals mg → mg d.name = some (.ref fa) →
      ∃ fd : FuncData, (∀ (s : Shared) (u : Value), BindsTo s fd ⟨[u], []⟩ [("_law_script", u)]) ∧ ∀ base : Heap, (K w.params).In base → base.Ns mainGlobals mg → FnOk l.prog w (K w.params) mg base (L2.CX l.prog w) 6 fa fd ["_law_script"] (spLaw (K w.params))) :
    PySem.W.WalkO q loose XP YP l.row.toRowW d [] (fun f vs => PySem.call f vs) :=
  L2.walk_of (n := 63) (k := 6) (x := "_law_script") (CX := fun w => L2.CX l.prog w) (sp := fun w => spLaw (K w.params)) hn (by decide) hdf ⟨rfl, by decide, by decide⟩ hY F (fun _ _ a ns hl _ hS => ⟨a, ns, rfl, hl, hS, fun _ => rfl⟩)
    fun w H s e s' z => cx_end z
end K04
open PySem PySem.W PyProof.Rows Gx in
set_option maxRecDepth 100000 in
set_option maxHeartbeats 0 in
theorem PySem.Challenge.cw_shipsrow_k04_whole_cells_holds : PySem.Challenge.rw_shipsrow_k04_whole_cells.Holds := by
  w_on; o_law; k_head; (case hw => w_witness2)
  k_fill
  refine K04.walk (l := PySem.Challenge.rw_shipsrow_k04_whole_cells) rfl rfl (fun w h Y => PySem.W.kIn_of Y) ?F
  case F =>
    intro w mg fa h KX G hmg
    refine' K04.all_mk KX G hmg K04.sem_law ?aC1 ?aC9 ?aC13 ?aC14 ?oC1 ?mC1 ?kC1 ?a__law_draws ?d__law_draws ?a_is_integer ?d_is_integer ?a_is_from ?d_is_from ?a_is_one_of ?d_is_one_of ?a_check_number ?d_check_number ?a_divisor ?d_divisor ?a_multiple ?d_multiple ?a_is_part ?d_is_part ?a_cells_of ?d_cells_of ?a_shot_by ?d_shot_by ?a_cells ?d_cells ?a_period_of ?d_period_of ?a_count_of ?d_count_of ?a_count ?d_count ?a__law_pick ?d__law_pick ?a__law_parts ?d__law_parts ?a__law_is_shot ?d__law_is_shot ?a__law_cells ?d__law_cells ?a__law_common ?d__law_common ?a__law_period ?d__law_period ?a__law_refused ?d__law_refused ?a__law_many ?d__law_many ?a_law ?l_law ?c_law ?k_law ?a_Plan_init ?i_Plan_init ?d_Plan_init ?eC9 ?eC13 ?eC14 ?xC13 ?tC13 ?yC13 ?sC13 ?uC13_9 ?uC13_13 ?uC13_14 ?xC14 ?tC14 ?yC14 ?sC14 ?wC14_index ?uC14_9 ?uC14_13 ?uC14_14 ?z_bool ?z_enumerate ?z_int ?z_isinstance ?z_len ?z_list ?z_range ?z_sorted ?z_str ?z_tuple ?v_CELL ?v_ENDS ?v_EVERY ?v_EVERY_BACK ?v_LONG ?v_MOST_CELLS ?v_MOST_NEAR ?v_MOST_PARTS ?v_MOST_STEP ?v_SHORT ?n1_pieces ?zlist ?zsuper
    (case aC1 => k_is)
    (case aC9 => k_is)
    (case aC13 => k_is)
    (case aC14 => k_is)
    (case oC1 => exact ⟨by k_is, by k_is, by k_is, by k_is, by k_is, by k_is, by k_is, by k_is, by k_is, by k_is, by k_is, by k_is, by k_is, by k_is, by k_is, by k_is, by k_is, by k_is, by k_is, by k_is, by k_is, by k_is, by k_is, by k_is, by k_is⟩)
    (case mC1 => k_is)
    (case kC1 => k_is)
    (case a__law_draws => k_is)
    (case d__law_draws => refine' fn_mk ?l ?c ?k; (case l => k_is); (case c => k_is); (case k => k_is))
    (case a_is_integer => k_is)
    (case d_is_integer => refine' fn_mk ?l ?c ?k; (case l => k_is); (case c => k_is); (case k => k_is))
    (case a_is_from => k_is)
    (case d_is_from => refine' fn_mk ?l ?c ?k; (case l => k_is); (case c => k_is); (case k => k_is))
    (case a_is_one_of => k_is)
    (case d_is_one_of => refine' fn_mk ?l ?c ?k; (case l => k_is); (case c => k_is); (case k => k_is))
    (case a_check_number => k_is)
    (case d_check_number => refine' fn_mk ?l ?c ?k; (case l => k_is); (case c => k_is); (case k => k_is))
    (case a_divisor => k_is)
    (case d_divisor => refine' fn_mk ?l ?c ?k; (case l => k_is); (case c => k_is); (case k => k_is))
    (case a_multiple => k_is)
    (case d_multiple => refine' fn_mk ?l ?c ?k; (case l => k_is); (case c => k_is); (case k => k_is))
    (case a_is_part => k_is)
    (case d_is_part => refine' fn_mk ?l ?c ?k; (case l => k_is); (case c => k_is); (case k => k_is))
    (case a_cells_of => k_is)
    (case d_cells_of => refine' fn_mk ?l ?c ?k; (case l => k_is); (case c => k_is); (case k => k_is))
    (case a_shot_by => k_is)
    (case d_shot_by => refine' fn_mk ?l ?c ?k; (case l => k_is); (case c => k_is); (case k => k_is))
    (case a_cells => k_is)
    (case d_cells => refine' fn_mk ?l ?c ?k; (case l => k_is); (case c => k_is); (case k => k_is))
    (case a_period_of => k_is)
    (case d_period_of => refine' fn_mk ?l ?c ?k; (case l => k_is); (case c => k_is); (case k => k_is))
    (case a_count_of => k_is)
    (case d_count_of => refine' fn_mk ?l ?c ?k; (case l => k_is); (case c => k_is); (case k => k_is))
    (case a_count => k_is)
    (case d_count => refine' fn_mk ?l ?c ?k; (case l => k_is); (case c => k_is); (case k => k_is))
    (case a__law_pick => k_is)
    (case d__law_pick => refine' fn_mk ?l ?c ?k; (case l => k_is); (case c => k_is); (case k => k_is))
    (case a__law_parts => k_is)
    (case d__law_parts => refine' fn_mk ?l ?c ?k; (case l => k_is); (case c => k_is); (case k => k_is))
    (case a__law_is_shot => k_is)
    (case d__law_is_shot => refine' fn_mk ?l ?c ?k; (case l => k_is); (case c => k_is); (case k => k_is))
    (case a__law_cells => k_is)
    (case d__law_cells => refine' fn_mk ?l ?c ?k; (case l => k_is); (case c => k_is); (case k => k_is))
    (case a__law_common => k_is)
    (case d__law_common => refine' fn_mk ?l ?c ?k; (case l => k_is); (case c => k_is); (case k => k_is))
    (case a__law_period => k_is)
    (case d__law_period => refine' fn_mk ?l ?c ?k; (case l => k_is); (case c => k_is); (case k => k_is))
    (case a__law_refused => k_is)
    (case d__law_refused => refine' fn_mk ?l ?c ?k; (case l => k_is); (case c => k_is); (case k => k_is))
    (case a__law_many => k_is)
    (case d__law_many => refine' fn_mk ?l ?c ?k; (case l => k_is); (case c => k_is); (case k => k_is))
    (case a_law => k_is)
    (case l_law => k_is)
    (case c_law => k_is)
    (case k_law => k_is)
    (case a_Plan_init => k_is)
    (case i_Plan_init => k_is)
    (case d_Plan_init => refine' fn_mk ?l ?c ?k; (case l => k_is); (case c => k_is); (case k => k_is))
    (case eC9 => exact ⟨by k_is, by k_is, by k_is, by k_is, by k_is, by k_is, by k_is, by k_is, by k_is, by k_is, by k_is⟩)
    (case eC13 => exact ⟨by k_is, by k_is, by k_is, by k_is, by k_is, by k_is, by k_is, by k_is, by k_is, by k_is, by k_is⟩)
    (case eC14 => exact ⟨by k_is, by k_is, by k_is, by k_is, by k_is, by k_is, by k_is, by k_is, by k_is, by k_is, by k_is⟩)
    (case xC13 => k_is)
    (case tC13 => k_is)
    (case yC13 => refine' oexc_mk ?l ?r ?sa ?ex ?ty ?kp; (case l => k_is); (case r => decide +kernel); (case sa => k_is); (case ex => k_is); (case ty => k_is); (case kp => k_is))
    (case sC13 => refine' sup_mk ?l ?c ?f1 ?f2 ?f3 ?cl ?tp ?mg ?op ?su ?mr ?ve ?ec; (case l => k_is); (case c => k_is); (case f1 => k_is); (case f2 => rfl); (case f3 => decide +kernel); (case cl => k_is); (case tp => decide +kernel); (case mg => k_is); (case op => k_is); (case su => ks_is); (case mr => k_is); (case ve => k_is); (case ec => refine' oexc_mk ?l2 ?r2 ?sa2 ?ex2 ?ty2 ?kp2; (case l2 => k_is); (case r2 => decide +kernel); (case sa2 => k_is); (case ex2 => k_is); (case ty2 => k_is); (case kp2 => k_is)))
    (case uC13_9 => k_is)
    (case uC13_13 => k_is)
    (case uC13_14 => k_is)
    (case xC14 => k_is)
    (case tC14 => k_is)
    (case yC14 => refine' oexc_mk ?l ?r ?sa ?ex ?ty ?kp; (case l => k_is); (case r => decide +kernel); (case sa => k_is); (case ex => k_is); (case ty => k_is); (case kp => k_is))
    (case sC14 => refine' sup_mk ?l ?c ?f1 ?f2 ?f3 ?cl ?tp ?mg ?op ?su ?mr ?ve ?ec; (case l => k_is); (case c => k_is); (case f1 => k_is); (case f2 => rfl); (case f3 => decide +kernel); (case cl => k_is); (case tp => decide +kernel); (case mg => k_is); (case op => k_is); (case su => ks_is); (case mr => k_is); (case ve => k_is); (case ec => refine' oexc_mk ?l2 ?r2 ?sa2 ?ex2 ?ty2 ?kp2; (case l2 => k_is); (case r2 => decide +kernel); (case sa2 => k_is); (case ex2 => k_is); (case ty2 => k_is); (case kp2 => k_is)))
    (case wC14_index => k_is)
    (case uC14_9 => k_is)
    (case uC14_13 => k_is)
    (case uC14_14 => k_is)
    (case z_bool => k_is)
    (case z_enumerate => k_is)
    (case z_int => k_is)
    (case z_isinstance => k_is)
    (case z_len => k_is)
    (case z_list => k_is)
    (case z_range => k_is)
    (case z_sorted => k_is)
    (case z_str => k_is)
    (case z_tuple => k_is)
    (case v_CELL => refine' vS_mk ?a; (case a => k_is))
    (case v_ENDS => refine' vI_mk ?a; (case a => k_is))
    (case v_EVERY => refine' vS_mk ?a; (case a => k_is))
    (case v_EVERY_BACK => refine' vS_mk ?a; (case a => k_is))
    (case v_LONG => refine' vT_mk ?a ?l ?z ?v; (case a => k_is); (case l => k_is); (case z => decide +kernel); (case v => exact (.cons ⟨_, rfl⟩ (.cons ⟨_, rfl⟩ .nil))))
    (case v_MOST_CELLS => refine' vI_mk ?a; (case a => k_is))
    (case v_MOST_NEAR => refine' vI_mk ?a; (case a => k_is))
    (case v_MOST_PARTS => refine' vI_mk ?a; (case a => k_is))
    (case v_MOST_STEP => refine' vI_mk ?a; (case a => k_is))
    (case v_SHORT => refine' vT_mk ?a ?l ?z ?v; (case a => k_is); (case l => k_is); (case z => decide +kernel); (case v => exact (.cons ⟨_, rfl⟩ (.cons ⟨_, rfl⟩ .nil))))
    (case n1_pieces => k_is)
    (case zlist => k_is)
    (case zsuper => k_is)
end T_L04b
