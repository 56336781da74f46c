import PyProof.Rows.All
import Wide.All
import OpenK.AllK
import Wide.FinOn
import HandS.ForMost
import HandS.WordsExc
import HandS.CallSlots
import HandS.Iter
import KE.KeyNested
import HandS.Deep
import HandS.TupAny
import HandS.TupLen
import HandS.IsInst
import HandS.Flow
import HandS.Sort
import PyProof.Rows.StrTemp
import HandS.Conv
import HandS.Style
import HandS.Property
import HandS.ExcInit
import HandS.FStr
import KE.KExcSuper
import HandS.ExcIs
import HandS.ExcField
import KE.KExcIs
import HandS.Walk
import KE.GoesMore
import KE.GoesEnum
import HandS.OwnEq
import HandS.Ends
import KE.RegKSuper
import HandS.SortRule
import HandS.TupLe
import HandS.DictComp
import HandS.SetFor
import HandS.SortInts
import HandS.SetKeys
import KE.DataMinMax
import HandS.Text
import HandS.RaiseMore
import HandS.Strs
import HandS.StrMore
import KE.KDictKeyed
import KE.KDictDisplayH
import KE.KDictCopyH
import HandS.TupMul
import HandS.Flt
import PySem.Challenge.RW_shipsrow_k11_whole_sinking
section T_GxCore
set_option Elab.async false
set_option linter.all false
set_option maxRecDepth 100000
set_option maxHeartbeats 4000000
namespace Gx
open PySem PySem.Spec PyProof.Rows L2
abbrev St := L2.St

/-! ## data -/
/-- frozen data, by value -/
inductive D where
  | non | bl (b : Bool) | int (i : Int) | str (x : Str) | ty (k : Nat) | cls (c : Nat)
  | tup (xs : List D) | lst (xs : List D) | dic (ks vs : List D) | obj (c : Nat) (vs : List D)
/-- what a slot holds: data, or a handle upon an object that may change -/
inductive SV where
  | d (x : D) | h (k : Nat)
/-- an object that may change -/
inductive O where
  | dead | lst (xs : List D) | dic (ks vs : List D) | ins (c : Nat) (vs : List SV) | dih (ks : List D) (vs : List SV) | dig (ks vs : List D)
def O.live : O → Bool
  | .dead => false
  | _ => true

/-- the fields of the classes, by number -/
def flds : Nat → List Str
  | 0 => ["form", "lengths", "room"]
  | 1 => ["pieces"]
  | 2 => ["source", "many", "told", "rests"]
  | 3 => ["words_in", "at_line", "spot"]
  | 4 => ["many", "known"]
  | 14 => ["index"]
  | 15 => ["index"]
  | 16 => ["index"]
  | 20 => ["line", "word"]
  | _ => []

/-- the tables: the written part, the classes' addresses -/
structure Tb where
  K : PySem.W.Frag
  ct : Nat → Addr

/-- the built-in types that are named, by number -/
def tyName : Nat → String
  | 0 => "int"
  | 1 => "bool"
  | 2 => "str"
  | 3 => "tuple"
  | 4 => "list"
  | 5 => "dict"
  | 6 => "NoneType"
  | _ => "ValueError"
def keyD : Key → D
  | .inl i => .int i
  | .inr x => .str x

/-! ## keys that are tuples of ints, Nones and such tuples -/
abbrev NK := PySem.NestedKey
def allN (f : D → Option NK) : List D → Option (List NK)
  | [] => some []
  | x :: xs => (f x).bind fun k => (allN f xs).map fun ks => k :: ks
def nkN : Nat → D → Option NK
  | _, .int i => some (.num i)
  | _, .non => some .none
  | n + 1, .tup xs => (allN (nkN n) xs).map .tup
  | _, _ => none
def nkT : D → Option NK
  | .tup xs => nkN 8 (.tup xs)
  | _ => none
/-- a key whose hash no world changes -/
def HFree (k : NK) : Prop := ∀ w w' : World, k.hash w = k.hash w'
/-- at a stands a dict of such keys: each key, where its tuple stands, the value -/
def NkP (a : Addr) (kvs : List (NK × Addr × V)) (h : Heap) : Prop := kvs.length ≤ sizeLine ∧ (a == sysModules) = false ∧ ∃ xs : List (NK × Addr × Value), Paired (fun p q => p.1 = q.1 ∧ p.2.1 = q.2.1 ∧ RelV p.2.2 q.2.2) kvs xs ∧
  (∀ x ∈ xs, HFree x.1) ∧ (xs.map (·.1)).Nodup ∧ ∃ o es ep, h.get? a = some o ∧ o.ExactDict ∧ o.data = .dict es ep ∧ ∀ (P : Program) (w : World), es.toList = xs.map (entryOfKey (nestedKind P w))
def NkO (a : Addr) (kvs : List (NK × Addr × V)) : HO := .ext (NkP a kvs)

mutual
inductive Rep (T : Tb) (F : Hp) : D → V → Prop
  | non : Rep T F .non .non
  | bl (b : Bool) : Rep T F (.bl b) (.bl b)
  | int (i : Int) : Rep T F (.int i) (.int i)
  | str (x : Str) : Rep T F (.str x) (.str x)
  | ty (k : Nat) : Rep T F (.ty k) (.ty (tyName k))
  | cls (c : Nat) : Rep T F (.cls c) (.ref (T.ct c))
  | tup {a : Addr} {vs : List V} {xs : List D} : SqT T.K F a vs → Reps T F xs vs → Rep T F (.tup xs) (.ref a)
  | lst {a : Addr} {vs : List V} {xs : List D} : F a = some (.lst vs) → Reps T F xs vs → Rep T F (.lst xs) (.ref a)
  | dic {a : Addr} {kvs : List (Key × V)} {ks xs : List D} : Rd F a (.dK kvs) → ks = kvs.map (fun p => keyD p.1) → Reps T F xs (kvs.map (·.2)) → Rep T F (.dic ks xs) (.ref a)
  | ndic {a : Addr} {od : Obj} {kvs : List (NK × Addr × V)} {ks xs : List D} : F a = some (.frz od (NkO a kvs)) → ks.map nkT = kvs.map (fun p => some p.1) → Reps T F ks (kvs.map fun p => V.ref p.2.1) → Reps T F xs (kvs.map (·.2.2)) → Rep T F (.dic (.ty 6 :: ks) xs) (.ref a)
  | ldic {a : Addr} {od : Obj} {kvs : List (Key × V)} {ks xs : List D} : F a = some (.frz od (.dK kvs)) → ks = kvs.map (fun p => keyD p.1) → Reps T F xs (kvs.map (·.2)) → Rep T F (.dic (.ty 5 :: ks) xs) (.ref a)
  | obj {a dx : Addr} {c : Nat} {ws : List V} {xs : List D} : F a = some (.ins (T.ct c) dx ((flds c).zip ws)) → (flds c).length = ws.length → Reps T F xs ws → Rep T F (.obj c xs) (.ref a)
inductive Reps (T : Tb) (F : Hp) : List D → List V → Prop
  | nil : Reps T F [] []
  | cons {d : D} {v : V} {ds : List D} {vs : List V} : Rep T F d v → Reps T F ds vs → Reps T F (d :: ds) (v :: vs)
end

/-- F' bears all that F bears -/
def Le (F F' : Hp) : Prop := ∀ a o, F a = some o → F' a = some o
theorem Le.rfl' {F : Hp} : Le F F := fun _ _ h => h
theorem Le.trans {F F1 F2 : Hp} (a : Le F F1) (b : Le F1 F2) : Le F F2 := fun c o h => b c o (a c o h)
theorem Le.upd {F : Hp} {p : Addr} {o : HO} (h : F p = none) : Le F (L2.upd F p o) := fun a u e => by rw [upd_ne (ne_of_none e h)]; exact e
theorem Rd.le {F F' : Hp} (l : Le F F') {a : Addr} {o : HO} (h : Rd F a o) : Rd F' a o := by
  rcases h with h | ⟨u, h⟩
  · exact .inl (l _ _ h)
  · exact .inr ⟨u, l _ _ h⟩
theorem SqT.le {K : PySem.W.Frag} {F F' : Hp} (l : Le F F') {a : Addr} {xs : List V} (h : SqT K F a xs) : SqT K F' a xs := by
  rcases h with h | h
  · exact .inl (Rd.le l h)
  · exact .inr h

mutual
theorem Rep.le {T : Tb} {F F' : Hp} (l : Le F F') : ∀ {d : D} {v : V}, Rep T F d v → Rep T F' d v
  | _, _, .non => .non
  | _, _, .bl b => .bl b
  | _, _, .int i => .int i
  | _, _, .str x => .str x
  | _, _, .ty n => .ty n
  | _, _, .cls n => .cls n
  | _, _, .tup h r => .tup (SqT.le l h) (Reps.le l r)
  | _, _, .lst h r => .lst (l _ _ h) (Reps.le l r)
  | _, _, .dic h e r => .dic (Rd.le l h) e (Reps.le l r)
  | _, _, .ldic h e r => .ldic (l _ _ h) e (Reps.le l r)
  | _, _, .ndic h e r q => .ndic (l _ _ h) e (Reps.le l r) (Reps.le l q)
  | _, _, .obj h e r => .obj (l _ _ h) e (Reps.le l r)
theorem Reps.le {T : Tb} {F F' : Hp} (l : Le F F') : ∀ {ds : List D} {vs : List V}, Reps T F ds vs → Reps T F' ds vs
  | _, _, .nil => .nil
  | _, _, .cons h r => .cons (Rep.le l h) (Reps.le l r)
end
section
variable {T : Tb} {F : Hp}
theorem Reps.length : ∀ {ds : List D} {vs : List V}, Reps T F ds vs → ds.length = vs.length
  | _, _, .nil => rfl
  | _, _, .cons _ r => by rw [List.length_cons, List.length_cons, r.length]
theorem Reps.get : ∀ {ds : List D} {vs : List V} {i : Nat} {d : D}, Reps T F ds vs → ds[i]? = some d → ∃ v, vs[i]? = some v ∧ Rep T F d v
  | _, _, _, _, .nil, e => by simp at e
  | _, _, 0, _, .cons h _, e => by simp at e; subst e; exact ⟨_, rfl, h⟩
  | _, _, i + 1, _, .cons _ r, e => by
    obtain ⟨v, h1, h2⟩ := Reps.get (i := i) r (by simpa using e)
    exact ⟨v, by simpa using h1, h2⟩
theorem Reps.append : ∀ {ds es : List D} {vs ws : List V}, Reps T F ds vs → Reps T F es ws → Reps T F (ds ++ es) (vs ++ ws)
  | _, _, _, _, .nil, r => r
  | _, _, _, _, .cons h t, r => .cons h (t.append r)
theorem Reps.one {d : D} {v : V} (h : Rep T F d v) : Reps T F [d] [v] := .cons h .nil
theorem Reps.snoc {ds : List D} {vs : List V} {d : D} {v : V} (r : Reps T F ds vs) (h : Rep T F d v) : Reps T F (ds ++ [d]) (vs ++ [v]) := r.append (.one h)
theorem Reps.drop : ∀ {ds : List D} {vs : List V} (n : Nat), Reps T F ds vs → Reps T F (ds.drop n) (vs.drop n)
  | _, _, 0, r => r
  | _, _, n + 1, .nil => by simpa using Reps.nil
  | _, _, n + 1, .cons _ t => by simpa using t.drop n
theorem Reps.take : ∀ {ds : List D} {vs : List V} (n : Nat), Reps T F ds vs → Reps T F (ds.take n) (vs.take n)
  | _, _, 0, _ => by simpa using Reps.nil
  | _, _, n + 1, .nil => by simpa using Reps.nil
  | _, _, n + 1, .cons h t => by simpa using Reps.cons h (t.take n)
theorem Reps.reverse : ∀ {ds : List D} {vs : List V}, Reps T F ds vs → Reps T F ds.reverse vs.reverse
  | _, _, .nil => by simpa using Reps.nil
  | _, _, .cons h t => by simpa using t.reverse.append (.one h)
theorem Reps.set : ∀ {ds : List D} {vs : List V} {d : D} {v : V} (i : Nat), Reps T F ds vs → Rep T F d v → Reps T F (ds.set i d) (vs.set i v)
  | _, _, _, _, _, .nil, _ => by simpa using Reps.nil
  | _, _, _, _, 0, .cons _ t, h => by simpa using Reps.cons h t
  | _, _, _, _, i + 1, .cons h0 t, h => by simpa using Reps.cons h0 (t.set i h)
end

/-! ## the ghost and the relation -/
structure Gh where
  F : Hp
  ρ : Nat → Addr

def RS (T : Tb) (g : Gh) (n : Nat) : SV → V → Prop
  | .d x, v => Rep T g.F x v
  | .h k, v => k < n ∧ v = .ref (g.ρ k)
inductive RSs (T : Tb) (g : Gh) (n : Nat) : List SV → List V → Prop
  | nil : RSs T g n [] []
  | cons {s : SV} {v : V} {ss : List SV} {vs : List V} : RS T g n s v → RSs T g n ss vs → RSs T g n (s :: ss) (v :: vs)

def OAt (T : Tb) (g : Gh) (n : Nat) (H : Hp) (a : Addr) : O → Prop
  | .dead => True
  | .lst xs => ∃ vs, H a = some (.lst vs) ∧ Reps T g.F xs vs
  | .dic ks xs => ∃ kvs : List (Key × V), H a = some (.dK kvs) ∧ ks = kvs.map (fun p => keyD p.1) ∧ Reps T g.F xs (kvs.map (·.2))
  | .ins c svs => ∃ dx ws, H a = some (.ins (T.ct c) dx ((flds c).zip ws)) ∧ ws.length ≤ (flds c).length ∧ RSs T g n svs ws
  | .dih ks svs => ∃ kvs : List (Key × V), H a = some (.dK kvs) ∧ ks = kvs.map (fun p => keyD p.1) ∧ RSs T g n svs (kvs.map (·.2))
  | .dig ks xs => ∃ kvs : List (NK × Addr × V), H a = some (NkO a kvs) ∧ ks.map nkT = kvs.map (fun p => some p.1) ∧ Reps T g.F ks (kvs.map fun p => V.ref p.2.1) ∧ Reps T g.F xs (kvs.map (·.2.2))

structure HRel (T : Tb) (B : Hp) (g : Gh) (own : List O) (H : Hp) : Prop where
  b : Le B H
  f : Le g.F H
  o : ∀ (k : Nat) (o : O), own[k]? = some o → OAt T g own.length H (g.ρ k) o
  nb : ∀ (k : Nat) (o : O), own[k]? = some o → o.live = true → B (g.ρ k) = none ∧ g.F (g.ρ k) = none
  inj : ∀ (j k : Nat) (p q : O), own[j]? = some p → own[k]? = some q → p.live = true → q.live = true → g.ρ j = g.ρ k → j = k

structure GExt (B : Hp) (g : Gh) (n : Nat) (g' : Gh) (n' : Nat) : Prop where
  le : n ≤ n'
  F : Le g.F g'.F
  ρ : ∀ k, k < n → g'.ρ k = g.ρ k
  fb : ∀ a o, g'.F a = some o → g.F a = some o ∨ B a = none

abbrev Sl := List (Option SV)
abbrev Own := List O
def SRel (T : Tb) (g : Gh) (n : Nat) (sd : Sl) (σ : St) : Prop := σ.length = sd.length ∧ ∀ (i : Nat) (sv : SV), sd[i]? = some (some sv) → ∃ v, σ[i]? = some (some v) ∧ RS T g n sv v

section
variable {T : Tb} {B : Hp} {g g1 g2 : Gh} {n n1 n2 : Nat}
theorem GExt.rfl' : GExt B g n g n := ⟨Nat.le_refl _, Le.rfl', fun _ _ => rfl, fun _ _ h => .inl h⟩
theorem GExt.trans (a : GExt B g n g1 n1) (b : GExt B g1 n1 g2 n2) : GExt B g n g2 n2 := by
  refine ⟨Nat.le_trans a.le b.le, a.F.trans b.F, fun k hk => (b.ρ k (Nat.lt_of_lt_of_le hk a.le)).trans (a.ρ k hk), fun x o h => ?_⟩
  rcases b.fb x o h with h | h
  · exact a.fb x o h
  · exact .inr h
theorem RS.ext {s : SV} {v : V} (e : GExt B g n g1 n1) (h : RS T g n s v) : RS T g1 n1 s v := by
  cases s with
  | d x => exact Rep.le e.F h
  | h k => exact ⟨Nat.lt_of_lt_of_le h.1 e.le, by rw [e.ρ k h.1]; exact h.2⟩
theorem RSs.ext (e : GExt B g n g1 n1) : ∀ {s : List SV} {v : List V}, RSs T g n s v → RSs T g1 n1 s v
  | _, _, .nil => .nil
  | _, _, .cons h r => .cons (h.ext e) (r.ext e)
theorem RSs.length : ∀ {s : List SV} {v : List V}, RSs T g n s v → s.length = v.length
  | _, _, .nil => rfl
  | _, _, .cons _ r => by rw [List.length_cons, List.length_cons, r.length]
theorem RSs.get : ∀ {ds : List SV} {vs : List V} {i : Nat} {d : SV}, RSs T g n ds vs → ds[i]? = some d → ∃ v, vs[i]? = some v ∧ RS T g n d v
  | _, _, _, _, .nil, e => by simp at e
  | _, _, 0, _, .cons h _, e => by simp at e; subst e; exact ⟨_, rfl, h⟩
  | _, _, i + 1, _, .cons _ r, e => by
    obtain ⟨v, h1, h2⟩ := RSs.get (i := i) r (by simpa using e)
    exact ⟨v, by simpa using h1, h2⟩
theorem RSs.set : ∀ {ds : List SV} {vs : List V} {d : SV} {v : V} (i : Nat), RSs T g n ds vs → RS T g n d v → RSs T g n (ds.set i d) (vs.set i v)
  | _, _, _, _, _, .nil, _ => by simpa using RSs.nil
  | _, _, _, _, 0, .cons _ t, h => by simpa using RSs.cons h t
  | _, _, _, _, i + 1, .cons h0 t, h => by simpa using RSs.cons h0 (t.set i h)
theorem RSs.snoc : ∀ {ds : List SV} {vs : List V} {d : SV} {v : V}, RSs T g n ds vs → RS T g n d v → RSs T g n (ds ++ [d]) (vs ++ [v])
  | _, _, _, _, .nil, h => .cons h .nil
  | _, _, _, _, .cons h0 t, h => .cons h0 (t.snoc h)
theorem SRel.ext {sd : Sl} {σ : St} (e : GExt B g n g1 n1) (h : SRel T g n sd σ) : SRel T g1 n1 sd σ := ⟨h.1, fun i sv q => by
  obtain ⟨v, h1, h2⟩ := h.2 i sv q
  exact ⟨v, h1, h2.ext e⟩⟩
theorem SRel.set {sd : Sl} {σ : St} {i : Nat} {sv : SV} {v : V} (h : SRel T g n sd σ) (r : RS T g n sv v) : SRel T g n (sd.set i (some sv)) (σ.set i (some v)) := by
  refine ⟨by simp [h.1], fun j s q => ?_⟩
  by_cases e : i = j
  · subst e
    by_cases hl : i < sd.length
    · rw [List.getElem?_set_self hl] at q
      cases q
      exact ⟨v, by rw [List.getElem?_set_self (by rw [h.1]; exact hl)], r⟩
    · rw [List.getElem?_eq_none (by simpa using hl)] at q; cases q
  · rw [List.getElem?_set_ne e] at q
    rw [List.getElem?_set_ne e]
    exact h.2 j s q
theorem SRel.unset {sd : Sl} {σ : St} {i : Nat} {o : Option V} (h : SRel T g n sd σ) : SRel T g n (sd.set i none) (σ.set i o) := by
  refine ⟨by simp [h.1], fun j s q => ?_⟩
  by_cases e : i = j
  · subst e
    by_cases hl : i < sd.length
    · rw [List.getElem?_set_self hl] at q; cases q
    · rw [List.getElem?_eq_none (by simpa using hl)] at q; cases q
  · rw [List.getElem?_set_ne e] at q
    rw [List.getElem?_set_ne e]
    exact h.2 j s q
/-- the own objects under a greater ghost -/
theorem OAt.ext {H : Hp} {a : Addr} {o : O} (e : GExt B g n g1 n1) (h : OAt T g n H a o) : OAt T g1 n1 H a o := by
  cases o with
  | dead => trivial
  | lst xs => obtain ⟨vs, h1, h2⟩ := h; exact ⟨vs, h1, h2.le e.F⟩
  | dic ks xs => obtain ⟨kvs, h1, h2, h3⟩ := h; exact ⟨kvs, h1, h2, h3.le e.F⟩
  | ins c svs => obtain ⟨dx, ws, h1, h2, h3⟩ := h; exact ⟨dx, ws, h1, h2, h3.ext e⟩
  | dih ks svs => obtain ⟨kvs, h1, h2, h3⟩ := h; exact ⟨kvs, h1, h2, h3.ext e⟩
  | dig ks xs => obtain ⟨kvs, h1, h2, h3, h4⟩ := h; exact ⟨kvs, h1, h2, h3.le e.F, h4.le e.F⟩
theorem OAt.there {H : Hp} {a : Addr} {o : O} (h : OAt T g n H a o) (hl : o.live = true) : ∃ ho, H a = some ho := by
  cases o with
  | dead => cases hl
  | lst xs => obtain ⟨vs, h1, _⟩ := h; exact ⟨_, h1⟩
  | dic ks xs => obtain ⟨kvs, h1, _⟩ := h; exact ⟨_, h1⟩
  | ins c svs => obtain ⟨dx, ws, h1, _⟩ := h; exact ⟨_, h1⟩
  | dih ks svs => obtain ⟨kvs, h1, _⟩ := h; exact ⟨_, h1⟩
  | dig ks xs => obtain ⟨kvs, h1, _⟩ := h; exact ⟨_, h1⟩
theorem OAt.heap {H H' : Hp} {a : Addr} {o : O} (h : OAt T g n H a o) (e : o.live = true → H' a = H a) : OAt T g n H' a o := by
  cases o with
  | dead => trivial
  | lst xs => obtain ⟨vs, h1, h2⟩ := h; exact ⟨vs, by rw [e rfl]; exact h1, h2⟩
  | dic ks xs => obtain ⟨kvs, h1, h2, h3⟩ := h; exact ⟨kvs, by rw [e rfl]; exact h1, h2, h3⟩
  | ins c svs => obtain ⟨dx, ws, h1, h2, h3⟩ := h; exact ⟨dx, ws, by rw [e rfl]; exact h1, h2, h3⟩
  | dih ks svs => obtain ⟨kvs, h1, h2, h3⟩ := h; exact ⟨kvs, by rw [e rfl]; exact h1, h2, h3⟩
  | dig ks xs => obtain ⟨kvs, h1, h2⟩ := h; exact ⟨kvs, by rw [e rfl]; exact h1, h2⟩
variable {own : Own} {H : Hp}
theorem HRel.free (R : HRel T B g own H) {p : Addr} (h : H p = none) : B p = none ∧ g.F p = none := by
  constructor
  · cases e : B p with
    | none => rfl
    | some o => rw [R.b _ _ e] at h; cases h
  · cases e : g.F p with
    | none => rfl
    | some o => rw [R.f _ _ e] at h; cases h
theorem HRel.neOwn (R : HRel T B g own H) {p : Addr} (h : H p = none) {k : Nat} {o : O} (hk : own[k]? = some o) (hl : o.live = true) : g.ρ k ≠ p := by
  obtain ⟨ho, e⟩ := (R.o k o hk).there hl
  exact ne_of_none e h
/-- a new frozen object -/
theorem HRel.new (R : HRel T B g own H) {p : Addr} (h : H p = none) (ho : HO) :
    HRel T B ⟨L2.upd g.F p ho, g.ρ⟩ own (L2.upd H p ho) ∧ GExt B g own.length ⟨L2.upd g.F p ho, g.ρ⟩ own.length := by
  obtain ⟨hB, hF⟩ := R.free h
  have ext : GExt B g own.length ⟨L2.upd g.F p ho, g.ρ⟩ own.length := by
    refine ⟨Nat.le_refl _, Le.upd hF, fun _ _ => rfl, fun a o e => ?_⟩
    by_cases ha : a = p
    · subst ha; exact .inr hB
    · exact .inl (by rw [← upd_ne (H := g.F) (o := ho) ha]; exact e)
  refine ⟨⟨R.b.trans (Le.upd h), fun a o e => ?_, fun k o hk => ?_, fun k o hk hl => ⟨(R.nb k o hk hl).1, ?_⟩, R.inj⟩, ext⟩
  · by_cases ha : a = p
    · subst ha
      have e : (L2.upd g.F a ho) a = some o := e
      rw [upd_same] at e
      rw [upd_same]; exact e
    · have e : (L2.upd g.F p ho) a = some o := e
      rw [upd_ne ha] at e
      rw [upd_ne ha]
      exact R.f _ _ e
  · exact ((R.o k o hk).ext ext).heap fun hl => upd_ne (R.neOwn h hk hl)
  · show L2.upd g.F p ho (g.ρ k) = none
    rw [upd_ne (R.neOwn h hk hl)]
    exact (R.nb k o hk hl).2
/-- a new object of one's own -/
theorem HRel.made (R : HRel T B g own H) {p : Addr} (h : H p = none) {ho : HO} {o : O}
    (at_ : OAt T ⟨g.F, fun k => if k = own.length then p else g.ρ k⟩ (own.length + 1) (L2.upd H p ho) p o) :
    HRel T B ⟨g.F, fun k => if k = own.length then p else g.ρ k⟩ (own ++ [o]) (L2.upd H p ho) ∧
      GExt B g own.length ⟨g.F, fun k => if k = own.length then p else g.ρ k⟩ (own ++ [o]).length := by
  obtain ⟨hB, hF⟩ := R.free h
  have ext : GExt B g own.length ⟨g.F, fun k => if k = own.length then p else g.ρ k⟩ (own ++ [o]).length :=
    ⟨by simp, Le.rfl', fun k hk => by show (if k = own.length then p else g.ρ k) = g.ρ k; rw [if_neg (by omega)], fun _ _ e => .inl e⟩
  have look : ∀ (k : Nat) (q : O), (own ++ [o])[k]? = some q → (k < own.length ∧ own[k]? = some q) ∨ (k = own.length ∧ q = o) := fun k q e => by
    by_cases hk : k < own.length
    · exact .inl ⟨hk, by rw [List.getElem?_append_left hk] at e; exact e⟩
    · have hk2 : k < (own ++ [o]).length := (List.getElem?_eq_some_iff.mp e).1
      have : k = own.length := by simp at hk2; omega
      subst this
      refine .inr ⟨rfl, ?_⟩
      simp at e
      exact e.symm
  have hl0 : (own ++ [o]).length = own.length + 1 := by simp
  refine ⟨⟨R.b.trans (Le.upd h), R.f.trans (Le.upd h), fun k q e => ?_, fun k q e hl => ?_, fun j k q r ej ek hq hr e => ?_⟩, ext⟩
  · rw [hl0]
    rcases look k q e with ⟨hk, e'⟩ | ⟨rfl, rfl⟩
    · show OAt T _ _ _ (if k = own.length then p else g.ρ k) q
      rw [if_neg (by omega)]
      rw [← hl0]
      exact ((R.o k q e').ext ext).heap fun hl => upd_ne (R.neOwn h e' hl)
    · show OAt T _ _ _ (if own.length = own.length then p else g.ρ _) q
      rw [if_pos rfl]
      exact at_
  · show B (if k = own.length then p else g.ρ k) = none ∧ g.F (if k = own.length then p else g.ρ k) = none
    rcases look k q e with ⟨hk, e'⟩ | ⟨rfl, rfl⟩
    · rw [if_neg (by omega)]; exact R.nb k q e' hl
    · rw [if_pos rfl]; exact ⟨hB, hF⟩
  · have e : (if j = own.length then p else g.ρ j) = (if k = own.length then p else g.ρ k) := e
    rcases look j q ej with ⟨hj, ej'⟩ | ⟨rfl, rfl⟩
    · rcases look k r ek with ⟨hk, ek'⟩ | ⟨rfl, rfl⟩
      · rw [if_neg (by omega), if_neg (by omega)] at e
        exact R.inj j k q r ej' ek' hq hr e
      · rw [if_neg (by omega), if_pos rfl] at e
        exact absurd e (R.neOwn h ej' hq)
    · rcases look k r ek with ⟨hk, ek'⟩ | ⟨rfl, rfl⟩
      · rw [if_pos rfl, if_neg (by omega)] at e
        exact absurd e.symm (R.neOwn h ek' hr)
      · rfl
/-- an object of one's own changes -/
theorem HRel.put (R : HRel T B g own H) {k : Nat} {o : O} (hk : own[k]? = some o) (hl : o.live = true) {ho : HO} {o' : O} (at_ : OAt T g own.length (L2.upd H (g.ρ k) ho) (g.ρ k) o') :
    HRel T B g (own.set k o') (L2.upd H (g.ρ k) ho) := by
  have hlt : k < own.length := (List.getElem?_eq_some_iff.mp hk).1
  obtain ⟨hB, hF⟩ := R.nb k o hk hl
  have look : ∀ (j : Nat) (q : O), (own.set k o')[j]? = some q → (j ≠ k ∧ own[j]? = some q) ∨ (j = k ∧ q = o') := fun j q e => by
    by_cases hj : k = j
    · subst hj
      rw [List.getElem?_set_self hlt] at e
      exact .inr ⟨rfl, (Option.some.inj e).symm⟩
    · rw [List.getElem?_set_ne hj] at e
      exact .inl ⟨fun z => hj z.symm, e⟩
  have nB : ∀ a u, B a = some u → a ≠ g.ρ k := fun a u e z => by rw [z, hB] at e; cases e
  have nF : ∀ a u, g.F a = some u → a ≠ g.ρ k := fun a u e z => by rw [z, hF] at e; cases e
  refine ⟨fun a u e => by rw [upd_ne (nB a u e)]; exact R.b a u e, fun a u e => by rw [upd_ne (nF a u e)]; exact R.f a u e, fun j q e => ?_, fun j q e hq => ?_, fun i j q r ei ej hq hr e => ?_⟩
  · rw [List.length_set]
    rcases look j q e with ⟨hj, e'⟩ | ⟨rfl, rfl⟩
    · exact (R.o j q e').heap fun hq => upd_ne fun z => hj (R.inj j k q o e' hk hq hl z)
    · exact at_
  · rcases look j q e with ⟨hj, e'⟩ | ⟨rfl, rfl⟩
    · exact R.nb j q e' hq
    · exact ⟨hB, hF⟩
  · rcases look i q ei with ⟨hi, ei'⟩ | ⟨rfl, rfl⟩
    · rcases look j r ej with ⟨hj, ej'⟩ | ⟨rfl, rfl⟩
      · exact R.inj i j q r ei' ej' hq hr e
      · exact absurd (R.inj i j q o ei' hk hq hl e) hi
    · rcases look j r ej with ⟨hj, ej'⟩ | ⟨rfl, rfl⟩
      · exact absurd (R.inj j i r o ej' hk hr hl e.symm) hj
      · rfl
/-- an object of one's own is frozen -/
theorem HRel.freeze (R : HRel T B g own H) {k : Nat} {o : O} (hk : own[k]? = some o) (hl : o.live = true) {ho : HO} (hh : H (g.ρ k) = some ho) :
    HRel T B ⟨L2.upd g.F (g.ρ k) ho, g.ρ⟩ (own.set k .dead) H ∧ GExt B g own.length ⟨L2.upd g.F (g.ρ k) ho, g.ρ⟩ (own.set k .dead).length := by
  have hlt : k < own.length := (List.getElem?_eq_some_iff.mp hk).1
  obtain ⟨hB, hF⟩ := R.nb k o hk hl
  have ext : GExt B g own.length ⟨L2.upd g.F (g.ρ k) ho, g.ρ⟩ (own.set k .dead).length := by
    refine ⟨by simp, Le.upd hF, fun _ _ => rfl, fun a u e => ?_⟩
    by_cases ha : a = g.ρ k
    · subst ha; exact .inr hB
    · exact .inl (by rw [← upd_ne (H := g.F) (o := ho) ha]; exact e)
  have look : ∀ (j : Nat) (q : O), (own.set k .dead)[j]? = some q → (j ≠ k ∧ own[j]? = some q) ∨ (j = k ∧ q = .dead) := fun j q e => by
    by_cases hj : k = j
    · subst hj
      rw [List.getElem?_set_self hlt] at e
      exact .inr ⟨rfl, (Option.some.inj e).symm⟩
    · rw [List.getElem?_set_ne hj] at e
      exact .inl ⟨fun z => hj z.symm, e⟩
  refine ⟨⟨R.b, fun a u e => ?_, fun j q e => ?_, fun j q e hq => ?_, fun i j q r ei ej hq hr e => ?_⟩, ext⟩
  · by_cases ha : a = g.ρ k
    · subst ha
      have e : (L2.upd g.F (g.ρ k) ho) (g.ρ k) = some u := e
      rw [upd_same] at e
      cases e; exact hh
    · have e : (L2.upd g.F (g.ρ k) ho) a = some u := e
      rw [upd_ne ha] at e
      exact R.f a u e
  · rcases look j q e with ⟨hj, e'⟩ | ⟨rfl, rfl⟩
    · exact (R.o j q e').ext ext
    · trivial
  · rcases look j q e with ⟨hj, e'⟩ | ⟨rfl, rfl⟩
    · refine ⟨(R.nb j q e' hq).1, ?_⟩
      show L2.upd g.F (g.ρ k) ho (g.ρ j) = none
      rw [upd_ne fun z => hj (R.inj j k q o e' hk hq hl z)]
      exact (R.nb j q e' hq).2
    · cases hq
  · rcases look i q ei with ⟨hi, ei'⟩ | ⟨rfl, rfl⟩
    · rcases look j r ej with ⟨hj, ej'⟩ | ⟨rfl, rfl⟩
      · exact R.inj i j q r ei' ej' hq hr e
      · cases hr
    · cases hq
end

/-- an object of one's own, locked and frozen -/
theorem HRel.freezeL {T : Tb} {B : Hp} {g : Gh} {own : Own} {H : Hp} (R : HRel T B g own H) {k : Nat} {o : O} (hk : own[k]? = some o) (hl : o.live = true) (ho : HO) :
    HRel T B ⟨L2.upd g.F (g.ρ k) ho, g.ρ⟩ (own.set k .dead) (L2.upd H (g.ρ k) ho) ∧ GExt B g own.length ⟨L2.upd g.F (g.ρ k) ho, g.ρ⟩ (own.set k .dead).length := by
  have hlt : k < own.length := (List.getElem?_eq_some_iff.mp hk).1
  obtain ⟨hB, hF⟩ := R.nb k o hk hl
  have R1 : HRel T B g (own.set k .dead) (L2.upd H (g.ρ k) ho) := R.put (ho := ho) (o' := .dead) hk hl trivial
  have ext : GExt B g own.length ⟨L2.upd g.F (g.ρ k) ho, g.ρ⟩ (own.set k .dead).length := by
    refine ⟨by simp, Le.upd hF, fun _ _ => rfl, fun a u e => ?_⟩
    by_cases ha : a = g.ρ k
    · subst ha; exact .inr hB
    · exact .inl (by rw [← upd_ne (H := g.F) (o := ho) ha]; exact e)
  have ext2 : GExt B g (own.set k .dead).length ⟨L2.upd g.F (g.ρ k) ho, g.ρ⟩ (own.set k .dead).length := ⟨Nat.le_refl _, ext.F, fun _ _ => rfl, ext.fb⟩
  have look : ∀ (j : Nat) (q : O), (own.set k .dead)[j]? = some q → q.live = true → g.ρ j ≠ g.ρ k := fun j q e hq z => by
    by_cases hj : k = j
    · subst hj
      rw [List.getElem?_set_self hlt] at e
      cases e
      cases hq
    · rw [List.getElem?_set_ne hj] at e
      exact hj (R.inj j k q o e hk hq hl z).symm
  refine ⟨⟨R1.b, fun a u e => ?_, fun j q e => (R1.o j q e).ext ext2, fun j q e hq => ⟨(R1.nb j q e hq).1, ?_⟩, R1.inj⟩, ext⟩
  · by_cases ha : a = g.ρ k
    · subst ha
      have e : (L2.upd g.F (g.ρ k) ho) (g.ρ k) = some u := e
      rw [upd_same] at e
      rw [upd_same]; exact e
    · have e : (L2.upd g.F (g.ρ k) ho) a = some u := e
      rw [upd_ne ha] at e
      exact R1.f a u e
  · show L2.upd g.F (g.ρ k) ho (g.ρ j) = none
    rw [upd_ne (look j q e hq)]
    exact (R1.nb j q e hq).2
/-- what is just found is locked for good -/
def tFroz (t : TE) : TE := fun σ H Q => t σ H fun x H1 => Q x H1 ∨ ∃ d u, H1 d = some u ∧ Mut (some u) ∧ ∀ od, Q x (upd H1 d (.frz od u))
def tFrozS (t : TS) : TS := fun D σ H => t D σ H ∨ ∃ d u, H d = some u ∧ Mut (some u) ∧ ∀ od, t D σ (upd H d (.frz od u))
theorem pss_froz {X : Cx} {l : List Stmt} {t : TS} (h : PSs X l t) : PSs X l (tFrozS t) := by
  refine ⟨fun pins s σ H D I hw => ?_⟩
  rcases hw with hw | ⟨d, u, hd, mu, hw⟩
  · exact h.run pins s σ H D I hw
  · obtain ⟨od, I1⟩ := I.lock hd mu
    exact h.run pins s σ _ D I1 (hw od)

/-! ## readings -/
/-- a result, or an exception of ours: its class, its fields -/
inductive Rz (α : Type) where
  | ok (a : α) | ex (k : Nat) (fs : List D)
abbrev M (α : Type) := Sl → Own → Option (Rz α × Own)
abbrev EM := M SV
abbrev TM := M Bool
abbrev AM := M (List SV)
inductive Fl where
  | nx (sd : Sl) (own : Own) | rt (s : SV) (own : Own) | bk (sd : Sl) (own : Own) | ct (sd : Sl) (own : Own) | ex (k : Nat) (fs : List D) (sd : Sl) (own : Own)
abbrev SM := Sl → Own → Option Fl

def M.bind {α β : Type} (f : M α) (k : α → M β) : M β := fun sd own => match f sd own with
  | some (.ok x, o1) => k x sd o1
  | some (.ex c fs, o1) => some (.ex c fs, o1)
  | none => none
def M.ret {α : Type} (x : α) : M α := fun _ own => some (.ok x, own)
/-- what the own objects tell, or nothing -/
def M.ask {α : Type} (f : Own → Option α) : M α := fun _ own => match f own with
  | some x => some (.ok x, own)
  | none => none
def M.fail {α : Type} : M α := fun _ _ => none
def SM.bind {α : Type} (f : M α) (k : α → SM) : SM := fun sd own => match f sd own with
  | some (.ok x, o1) => k x sd o1
  | some (.ex c fs, o1) => some (.ex c fs sd o1)
  | none => none

/-- an exception's own dict -/
def XD (T : Tb) (g : Gh) (H : Hp) (d : Option Addr) (k : Nat) (fs : List D) : Prop :=
  (fs = [] ∧ d = none) ∨ ∃ a ws, d = some a ∧ g.F a = some (.xd ((flds k).zip ws)) ∧ Reps T g.F fs ws

/-- what is fixed through a def's body: the tables, what is to stay, what is wanted of an exception -/
structure Cy where
  T : Tb
  B : Hp
  Ek : L2.St → XK

section
variable {α β γ δ : Type}
def ROk (Y : Cy) (rel : Gh → Nat → α → β → Prop) (g : Gh) (n : Nat) (σ : L2.St) (own' : Own) (Q : β → Hp → Prop) : Rz α → Prop
  | .ok x => ∀ g' v H', HRel Y.T Y.B g' own' H' → GExt Y.B g n g' own'.length → rel g' own'.length x v → Q v H'
  | .ex k fs => ∀ g' d H', HRel Y.T Y.B g' own' H' → GExt Y.B g n g' own'.length → XD Y.T g' H' d k fs → Y.Ek σ (.ref (Y.T.ct k)) d H'
/-- the reading at a point -/
def At (Y : Cy) (rel : Gh → Nat → α → β → Prop) (g : Gh) (sd : Sl) (own : Own) (σ : L2.St) (Q : β → Hp → Prop) (f : M α) : Prop :=
  ∃ r own', f sd own = some (r, own') ∧ ROk Y rel g own.length σ own' Q r
def trM (Y : Cy) (rel : Gh → Nat → α → β → Prop) (f : M α) : L2.St → Hp → (β → Hp → Prop) → Prop := fun σ H Q =>
  ∃ g sd own, HRel Y.T Y.B g own H ∧ SRel Y.T g own.length sd σ ∧ At Y rel g sd own σ Q f
def relB : Gh → Nat → Bool → Bool → Prop := fun _ _ a b => a = b
abbrev trE (Y : Cy) (f : EM) : TE := trM Y (RS Y.T) f
abbrev trT (Y : Cy) (f : TM) : TT := trM Y relB f
abbrev trA (Y : Cy) (f : AM) : TA := trM Y (RSs Y.T) f
def FOk (Y : Cy) (g : Gh) (n : Nat) (Dn : Ends) : Fl → Prop
  | .nx sd' own' => ∀ g' σ' H', HRel Y.T Y.B g' own' H' → SRel Y.T g' own'.length sd' σ' → GExt Y.B g n g' own'.length → Dn.nx σ' H'
  | .bk sd' own' => ∀ g' σ' H', HRel Y.T Y.B g' own' H' → SRel Y.T g' own'.length sd' σ' → GExt Y.B g n g' own'.length → Dn.bk σ' H'
  | .ct sd' own' => ∀ g' σ' H', HRel Y.T Y.B g' own' H' → SRel Y.T g' own'.length sd' σ' → GExt Y.B g n g' own'.length → Dn.ct σ' H'
  | .rt sv own' => ∀ g' v H', HRel Y.T Y.B g' own' H' → GExt Y.B g n g' own'.length → RS Y.T g' own'.length sv v → Dn.rt v H'
  | .ex k fs sd' own' => ∀ g' σ' d H', HRel Y.T Y.B g' own' H' → SRel Y.T g' own'.length sd' σ' → GExt Y.B g n g' own'.length → XD Y.T g' H' d k fs → Y.Ek σ' (.ref (Y.T.ct k)) d H'
def SAt (Y : Cy) (g : Gh) (sd : Sl) (own : Own) (Dn : Ends) (f : SM) : Prop := ∃ r, f sd own = some r ∧ FOk Y g own.length Dn r
def trS (Y : Cy) (f : SM) : TS := fun Dn σ H => ∃ g sd own, HRel Y.T Y.B g own H ∧ SRel Y.T g own.length sd σ ∧ SAt Y g sd own Dn f

section
variable {Y : Cy} {relA : Gh → Nat → α → β → Prop} {relC : Gh → Nat → γ → δ → Prop} {g g1 : Gh} {n n1 : Nat} {σ : L2.St} {own : Own} {sd : Sl} {H : Hp}
theorem ROk.shift {own' : Own} {Q : β → Hp → Prop} {r : Rz α} (e : GExt Y.B g n g1 n1) (h : ROk Y relA g n σ own' Q r) : ROk Y relA g1 n1 σ own' Q r := by
  cases r with
  | ok x => exact fun g' v H' R' e' rx => h g' v H' R' (e.trans e') rx
  | ex k fs => exact fun g' d H' R' e' x => h g' d H' R' (e.trans e') x
theorem FOk.shift {Dn : Ends} {r : Fl} (e : GExt Y.B g n g1 n1) (h : FOk Y g n Dn r) : FOk Y g1 n1 Dn r := by
  cases r with
  | nx sd' own' => exact fun g' σ' H' R' S' e' => h g' σ' H' R' S' (e.trans e')
  | bk sd' own' => exact fun g' σ' H' R' S' e' => h g' σ' H' R' S' (e.trans e')
  | ct sd' own' => exact fun g' σ' H' R' S' e' => h g' σ' H' R' S' (e.trans e')
  | rt sv own' => exact fun g' v H' R' e' rx => h g' v H' R' (e.trans e') rx
  | ex k fs sd' own' => exact fun g' σ' d H' R' S' e' x => h g' σ' d H' R' S' (e.trans e') x
theorem at_bind {f : M α} {k : α → M γ} {Q : δ → Hp → Prop} {Q1 : β → Hp → Prop} (R1 : HRel Y.T Y.B g own H) (S1 : SRel Y.T g own.length sd σ) (h : At Y relC g sd own σ Q (f.bind k))
    (c : ∀ g1 o1 x v H1, HRel Y.T Y.B g1 o1 H1 → SRel Y.T g1 o1.length sd σ → GExt Y.B g own.length g1 o1.length → relA g1 o1.length x v → At Y relC g1 sd o1 σ Q (k x) → Q1 v H1) : trM Y relA f σ H Q1 := by
  obtain ⟨r, own', e, q⟩ := h
  refine ⟨g, sd, own, R1, S1, ?_⟩
  unfold M.bind at e
  cases ef : f sd own with
  | none => rw [ef] at e; cases e
  | some p =>
    obtain ⟨r0, o1⟩ := p
    rw [ef] at e
    cases r0 with
    | ok x => exact ⟨.ok x, o1, ef, fun g' v H' R' x' rx => c g' o1 x v H' R' (S1.ext x') x' rx ⟨r, own', e, q.shift x'⟩⟩
    | ex k fs =>
      cases e
      exact ⟨.ex k fs, _, ef, q⟩
theorem s_bind {f : M α} {k : α → SM} {Dn : Ends} {Q1 : β → Hp → Prop} (R1 : HRel Y.T Y.B g own H) (S1 : SRel Y.T g own.length sd σ) (h : SAt Y g sd own Dn (SM.bind f k))
    (c : ∀ g1 o1 x v H1, HRel Y.T Y.B g1 o1 H1 → SRel Y.T g1 o1.length sd σ → GExt Y.B g own.length g1 o1.length → relA g1 o1.length x v → SAt Y g1 sd o1 Dn (k x) → Q1 v H1) : trM Y relA f σ H Q1 := by
  obtain ⟨r, e, q⟩ := h
  refine ⟨g, sd, own, R1, S1, ?_⟩
  unfold SM.bind at e
  cases ef : f sd own with
  | none => rw [ef] at e; cases e
  | some p =>
    obtain ⟨r0, o1⟩ := p
    rw [ef] at e
    cases r0 with
    | ok x => exact ⟨.ok x, o1, ef, fun g' v H' R' x' rx => c g' o1 x v H' R' (S1.ext x') x' rx ⟨r, e, q.shift x'⟩⟩
    | ex k fs =>
      cases e
      exact ⟨.ex k fs, o1, ef, fun g' d H' R' e' x => q g' σ d H' R' (S1.ext e') e' x⟩
theorem at_ret {x : α} {Q : β → Hp → Prop} (h : At Y relA g sd own σ Q (M.ret x)) : ∀ g' v H', HRel Y.T Y.B g' own H' → GExt Y.B g own.length g' own.length → relA g' own.length x v → Q v H' := by
  obtain ⟨r, own', e, q⟩ := h
  cases e
  exact q
theorem at_ask {f : Own → Option α} {Q : β → Hp → Prop} (h : At Y relA g sd own σ Q (M.ask f)) : ∃ x, f own = some x ∧ ∀ g' v H', HRel Y.T Y.B g' own H' → GExt Y.B g own.length g' own.length → relA g' own.length x v → Q v H' := by
  obtain ⟨r, own', e, q⟩ := h
  unfold M.ask at e
  cases ef : f own with
  | none => rw [ef] at e; cases e
  | some x => rw [ef] at e; cases e; exact ⟨x, rfl, q⟩
theorem at_fail {Q : β → Hp → Prop} (h : At Y relA g sd own σ Q M.fail) : False := by
  obtain ⟨r, own', e, q⟩ := h
  cases e
end
end

/-! ### consequence -/
section
variable {X : Cx}
theorem PE.imp {e : Expr} {t t' : TE} (h : PE X e t) (i : ∀ σ H Q, t' σ H Q → t σ H Q) : PE X e t' := ⟨fun pins s σ H Q I q => h.run pins s σ H Q I (i σ H Q q)⟩
theorem PT.imp {e : Expr} {t t' : TT} (h : PT X e t) (i : ∀ σ H Q, t' σ H Q → t σ H Q) : PT X e t' := ⟨fun pins s σ H Q I q => h.run pins s σ H Q I (i σ H Q q)⟩
theorem PW.imp {e : Expr} {t t' : TT} (h : PW X e t) (i : ∀ σ H Q, t' σ H Q → t σ H Q) : PW X e t' := ⟨fun wh pins s σ H Q I q => h.run wh pins s σ H Q I (i σ H Q q)⟩
theorem PA.imp {es : List Expr} {t t' : TA} (h : PA X es t) (i : ∀ σ H Q, t' σ H Q → t σ H Q) : PA X es t' := ⟨fun pos pins s σ H Q I q => h.run pos pins s σ H Q I (i σ H Q q)⟩
theorem PS.imp {st : Stmt} {t t' : TS} (h : PS X st t) (i : ∀ D σ H, t' D σ H → t D σ H) : PS X st t' := ⟨fun pins s σ H D I q => h.run pins s σ H D I (i D σ H q)⟩
theorem PSs.imp {st : List Stmt} {t t' : TS} (h : PSs X st t) (i : ∀ D σ H, t' D σ H → t D σ H) : PSs X st t' := ⟨fun pins s σ H D I q => h.run pins s σ H D I (i D σ H q)⟩
theorem PG.imp {e : Expr} {t t' : TG} (h : PG X e t) (i : ∀ v σ H Q, t' v σ H Q → t v σ H Q) : PG X e t' := ⟨fun pins s σ H v u Q I r q => h.run pins s σ H v u Q I r (i v σ H Q q)⟩
end
end Gx
end T_GxCore
section T_GxR1
set_option Elab.async false
set_option linter.all false
set_option maxRecDepth 100000
set_option maxHeartbeats 4000000
namespace Gx
open PySem PySem.Spec PyProof.Rows L2

/-! ## views -/
/-- a list or a tuple, as it is read -/
def seqV (own : Own) : SV → Option (List D)
  | .d (.lst xs) => some xs
  | .d (.tup xs) => some xs
  | .h k => match own[k]? with
    | some (.lst xs) => some xs
    | _ => none
  | _ => none
/-- a list alone -/
def lstV (own : Own) : SV → Option (List D)
  | .d (.lst xs) => some xs
  | .h k => match own[k]? with
    | some (.lst xs) => some xs
    | _ => none
  | _ => none
/-- data as it is read: a handle's list is seen through -/
def datV (own : Own) : SV → Option D
  | .d x => some x
  | .h k => match own[k]? with
    | some (.lst xs) => some (.lst xs)
    | some (.dic ks xs) => some (.dic ks xs)
    | _ => none
section
variable {T : Tb} {B : Hp} {g : Gh} {own : Own} {H : Hp} {s : SV} {v : V}
theorem lst_of (R : HRel T B g own H) (r : RS T g own.length s v) {xs : List D} (h : lstV own s = some xs) : ∃ a vs, v = .ref a ∧ H a = some (.lst vs) ∧ Reps T g.F xs vs := by
  cases s with
  | d x =>
    cases x with
    | lst ys =>
      cases h
      have r : Rep T g.F (.lst xs) v := r
      cases r with
      | lst h1 h2 => exact ⟨_, _, rfl, R.f _ _ h1, h2⟩
    | _ => cases h
  | h k =>
    have h : (match own[k]? with | some (.lst xs) => some xs | _ => none) = some xs := h
    cases e : own[k]? with
    | none => rw [e] at h; cases h
    | some o =>
      rw [e] at h
      cases o with
      | lst ys =>
        cases h
        obtain ⟨vs, h1, h2⟩ := R.o k _ e
        exact ⟨_, vs, r.2, h1, h2⟩
      | _ => cases h
theorem seq_of (R : HRel T B g own H) (r : RS T g own.length s v) {xs : List D} (h : seqV own s = some xs) : ∃ a vs, v = .ref a ∧ (SqL T.K H a vs ∨ SqT T.K H a vs) ∧ Reps T g.F xs vs := by
  cases s with
  | d x =>
    cases x with
    | lst ys =>
      obtain ⟨a, vs, e, h1, h2⟩ := lst_of R r (xs := xs) h
      exact ⟨a, vs, e, .inl (SqL.of h1), h2⟩
    | tup ys =>
      cases h
      have r : Rep T g.F (.tup xs) v := r
      cases r with
      | tup h1 h2 => exact ⟨_, _, rfl, .inr (SqT.le R.f h1), h2⟩
    | _ => cases h
  | h k =>
    obtain ⟨a, vs, e, h1, h2⟩ := lst_of R r (xs := xs) h
    exact ⟨a, vs, e, .inl (SqL.of h1), h2⟩
end

/-! ## comparing data -/
/-- data that == may read, at most n deep -/
def okN : Nat → D → Bool
  | _, .non => true
  | _, .bl _ => true
  | _, .int _ => true
  | _, .str x => PyData.strOk x
  | n + 1, .tup xs => xs.all (okN n)
  | n + 1, .lst xs => xs.all (okN n)
  | _, _ => false
def pyN : Nat → D → PyData
  | _, .bl b => .bool b
  | _, .int i => .int i
  | _, .str x => .str x
  | n + 1, .tup xs => .tuple (xs.map (pyN n))
  | n + 1, .lst xs => .list (xs.map (pyN n))
  | _, _ => .none
def eqAll (f : D → D → Bool) : List D → List D → Bool
  | [], [] => true
  | x :: xs, y :: ys => f x y && eqAll f xs ys
  | _, _ => false
def eqN : Nat → D → D → Bool
  | _, .non, .non => true
  | _, .bl a, .bl b => a == b
  | _, .bl a, .int j => (if a then 1 else 0) == j
  | _, .int i, .bl b => i == (if b then 1 else 0)
  | _, .int i, .int j => i == j
  | _, .str x, .str y => x == y
  | n + 1, .tup xs, .tup ys => eqAll (eqN n) xs ys
  | n + 1, .lst xs, .lst ys => eqAll (eqN n) xs ys
  | _, _, _ => false

theorem py_eq : ∀ (n : Nat) (x y : D), okN n x = true → okN n y = true → PyData.eqv (pyN n x) (pyN n y) = eqN n x y
  | 0, x, y, hx, hy => by
    cases x <;> cases y <;> first
      | rfl
      | (exact Bool.noConfusion hx)
      | (exact Bool.noConfusion hy)
  | n + 1, x, y, hx, hy => by
    have all : ∀ (xs ys : List D), xs.all (okN n) = true → ys.all (okN n) = true → PyData.eqvAll (xs.map (pyN n)) (ys.map (pyN n)) = eqAll (eqN n) xs ys := by
      intro xs
      induction xs with
      | nil => intro ys _ _; cases ys <;> rfl
      | cons a r ih =>
        intro ys h1 h2
        cases ys with
        | nil => rfl
        | cons b t =>
          rw [List.all_cons, Bool.and_eq_true] at h1 h2
          show (PyData.eqv (pyN n a) (pyN n b) && PyData.eqvAll (r.map (pyN n)) (t.map (pyN n))) = (eqN n a b && eqAll (eqN n) r t)
          rw [py_eq n a b h1.1 h2.1, ih t h1.2 h2.2]
    cases x <;> cases y <;> first
      | rfl
      | (exact Bool.noConfusion hx)
      | (exact Bool.noConfusion hy)
      | (exact all _ _ hx hy)
theorem py_lay : ∀ (n : Nat) (x : D), okN n x = true → (pyN n x).canLay0 = true ∧ (pyN n x).depth ≤ n
  | 0, x, hx => by
    cases x <;> first
      | exact ⟨rfl, Nat.le_refl _⟩
      | (exact Bool.noConfusion hx)
      | exact ⟨hx, Nat.le_refl _⟩
  | n + 1, x, hx => by
    have all : ∀ (xs : List D), xs.all (okN n) = true → PyData.canLayAll0 (xs.map (pyN n)) = true ∧ PyData.depthAll (xs.map (pyN n)) ≤ n := by
      intro xs
      induction xs with
      | nil => intro _; exact ⟨rfl, Nat.zero_le _⟩
      | cons a r ih =>
        intro h1
        rw [List.all_cons, Bool.and_eq_true] at h1
        obtain ⟨q1, q2⟩ := py_lay n a h1.1
        obtain ⟨q3, q4⟩ := ih h1.2
        refine ⟨?_, ?_⟩
        · show ((pyN n a).canLay0 && PyData.canLayAll0 (r.map (pyN n))) = true
          rw [q1, q3]; rfl
        · show max (pyN n a).depth (PyData.depthAll (r.map (pyN n))) ≤ n
          exact Nat.max_le.mpr ⟨q2, q4⟩
    cases x <;> first
      | exact ⟨rfl, Nat.zero_le _⟩
      | (exact Bool.noConfusion hx)
      | exact ⟨hx, Nat.zero_le _⟩
      | exact ⟨(all _ hx).1, Nat.succ_le_succ (all _ hx).2⟩
theorem shaped_of {x : D} (h : okN 60 x = true) : SeqAt.shaped (pyN 60 x) = true := by
  obtain ⟨h1, h2⟩ := py_lay 60 x h
  unfold SeqAt.shaped
  rw [h1, decide_eq_true (Nat.le_trans h2 (by decide))]; rfl

section
variable {T : Tb} {F H : Hp}
theorem SqL.leH {K : PySem.W.Frag} (l : Le F H) {a : Addr} {vs : List V} (h : F a = some (.lst vs)) : SqL K H a vs := SqL.of (l _ _ h)
theorem dp_of (l : Le F H) : ∀ (n : Nat) {x : D} {v : V}, Rep T F x v → okN n x = true → Dp T.K H v (pyN n x)
  | 0, _, _, r, h => by
    cases r with
    | non => exact .non
    | bl b => exact .bl b
    | int i => exact .int i
    | str x => exact .str x
    | ty n => exact Bool.noConfusion h
    | cls n => exact Bool.noConfusion h
    | tup h1 h2 => exact Bool.noConfusion h
    | lst h1 h2 => exact Bool.noConfusion h
    | dic h1 h2 h3 => exact Bool.noConfusion h
    | ldic h1 h2 h3 => exact Bool.noConfusion h
    | ndic h1 h2 h3 h4 => exact Bool.noConfusion h
    | obj h1 h2 h3 => exact Bool.noConfusion h
  | n + 1, _, _, r, h => by
    have all : ∀ {xs : List D} {vs : List V}, Reps T F xs vs → xs.all (okN n) = true → DpAll T.K H vs (xs.map (pyN n)) := by
      intro xs
      induction xs with
      | nil => intro vs r _; cases r; exact .nil
      | cons a t ih =>
        intro vs r hh
        cases r with
        | cons r1 r2 =>
          rw [List.all_cons, Bool.and_eq_true] at hh
          exact .cons (dp_of l n r1 hh.1) (ih r2 hh.2)
    cases r with
    | non => exact .non
    | bl b => exact .bl b
    | int i => exact .int i
    | str x => exact .str x
    | ty n => exact Bool.noConfusion h
    | cls n => exact Bool.noConfusion h
    | tup h1 h2 => exact .tup (SqT.le l h1) (all h2 h)
    | lst h1 h2 => exact .lst (SqL.leH l h1) (all h2 h)
    | dic h1 h2 h3 => exact Bool.noConfusion h
    | ldic h1 h2 h3 => exact Bool.noConfusion h
    | ndic h1 h2 h3 h4 => exact Bool.noConfusion h
    | obj h1 h2 h3 => exact Bool.noConfusion h
end
theorem dpAll_of {T : Tb} {F H : Hp} (l : Le F H) (n : Nat) : ∀ {xs : List D} {vs : List V}, Reps T F xs vs → xs.all (okN n) = true → DpAll T.K H vs (xs.map (pyN n))
  | _, _, .nil, _ => .nil
  | _, _, .cons r1 r2, hh => by
    rw [List.all_cons, Bool.and_eq_true] at hh
    exact .cons (dp_of l n r1 hh.1) (dpAll_of l n r2 hh.2)
/-- what is read as data -/
theorem dat_of {T : Tb} {B : Hp} {g : Gh} {own : Own} {H : Hp} {s : SV} {v : V} (R : HRel T B g own H) (r : RS T g own.length s v) {x : D} (h : datV own s = some x) (ok : okN 60 x = true) : Dp T.K H v (pyN 60 x) := by
  cases s with
  | d y =>
    have e : y = x := Option.some.inj h
    subst e
    exact dp_of R.f 60 r ok
  | h k =>
    have h : (match own[k]? with | some (.lst xs) => some (D.lst xs) | some (.dic ks xs) => some (D.dic ks xs) | _ => none) = some x := h
    cases e : own[k]? with
    | none => rw [e] at h; cases h
    | some o =>
      rw [e] at h
      cases o with
      | lst ys =>
        cases h
        obtain ⟨vs, h1, h2⟩ := R.o k _ e
        rw [r.2]
        have ok : ys.all (okN 59) = true := ok
        refine .lst (SqL.of h1) ?_
        exact dpAll_of R.f 59 h2 ok
      | dic ks ys => cases h; exact Bool.noConfusion ok
      | _ => cases h
end Gx
end T_GxR1
section T_GxR2
set_option Elab.async false
set_option linter.all false
set_option maxRecDepth 100000
set_option maxHeartbeats 4000000
namespace Gx
open PySem PySem.Spec PyProof.Rows L2

/-! ## expressions: what they reckon -/
def eV (i : Nat) : EM := fun sd own => match sd[i]? with
  | some (some s) => some (.ok s, own)
  | _ => none
def eK (d : D) : EM := M.ret (.d d)
def eB (m : Own → SV → SV → Option D) (f g : EM) : EM := f.bind fun x => g.bind fun y => M.ask fun own => (m own x y).map SV.d
def eU (m : Own → SV → Option D) (f : EM) : EM := f.bind fun x => M.ask fun own => (m own x).map SV.d
def eCh (m m' : Own → SV → SV → Option D) (f g h : EM) : EM := f.bind fun x => g.bind fun y => (M.ask fun own => m own x y).bind fun z => match z with
  | .bl true => h.bind fun w => M.ask fun own => (m' own y w).map SV.d
  | .bl false => M.ret (.d (.bl false))
  | _ => M.fail
def eAnd (f g : EM) : EM := f.bind fun x => match x with
  | .d (.bl true) => g
  | .d (.bl false) => M.ret (.d (.bl false))
  | _ => M.fail
def eOr (f g : EM) : EM := f.bind fun x => match x with
  | .d (.bl false) => g
  | .d (.bl true) => M.ret (.d (.bl true))
  | _ => M.fail
def eNot (f : EM) : EM := f.bind fun x => match x with
  | .d (.bl b) => M.ret (.d (.bl (!b)))
  | _ => M.fail
def tE (f : EM) : TM := f.bind fun x => match x with
  | .d (.bl b) => M.ret b
  | _ => M.fail
def tAnd (f g : TM) : TM := f.bind fun b => match b with
  | true => g
  | false => M.ret false
def tOr (f g : TM) : TM := f.bind fun b => match b with
  | true => M.ret true
  | false => g
def tNot (f : TM) : TM := f.bind fun b => M.ret (!b)
def eIf (c : TM) (f g : EM) : EM := c.bind fun b => match b with
  | true => f
  | false => g
def aNil : AM := M.ret []
def aCons (f : EM) (a : AM) : AM := f.bind fun x => a.bind fun xs => M.ret (x :: xs)
/-- all of them data -/
def dats : List SV → Option (List D)
  | [] => some []
  | .d x :: r => (dats r).map (x :: ·)
  | .h _ :: _ => none
def eTup (a : AM) : EM := a.bind fun xs => M.ask fun _ => (dats xs).bind fun ds => if ds.length ≤ sizeLine then some (.d (.tup ds)) else none
def eLst (a : AM) : EM := a.bind fun xs => M.ask fun _ => (dats xs).bind fun ds => if ds.length ≤ sizeLine then some (.d (.lst ds)) else none
/-- a list that will change -/
def eLstH (a : AM) : EM := a.bind fun xs => fun _ own => match dats xs with
  | some ds => if ds.length ≤ sizeLine then some (.ok (.h own.length), own ++ [.lst ds]) else none
  | none => none
/-- a call by values, nothing that stood is changed -/
def eCB (m : Own → List SV → Option SV) (a : AM) : EM := a.bind fun xs => M.ask fun own => m own xs

section
variable {X : Cx} {Y : Cy} {pos : Pos} {a b c : Expr} {f g h : EM} {t u : TM}

theorem dats_rel {T : Tb} {gh : Gh} {n : Nat} : ∀ {xs : List SV} {vs : List V} {ds : List D}, RSs T gh n xs vs → dats xs = some ds → Reps T gh.F ds vs
  | _, _, _, .nil, e => by cases e; exact .nil
  | _, _, ds, .cons (s := s) h r, e => by
    cases s with
    | d x =>
      have e : (dats _).map (x :: ·) = some ds := e
      obtain ⟨es, e1, e2⟩ := Option.map_eq_some_iff.mp e
      subst e2
      exact .cons h (dats_rel r e1)
    | h k => cases e

theorem r_v (i : Nat) (h : PE X a (tVar i)) : PE X a (trE Y (eV i)) := by
  refine PE.imp h fun σ H Q q => ?_
  obtain ⟨g, sd, own, R, S, r, own', e, q⟩ := q
  unfold eV at e
  cases e1 : sd[i]? with
  | none => rw [e1] at e; cases e
  | some o =>
    cases o with
    | none => rw [e1] at e; cases e
    | some s =>
      rw [e1] at e
      cases e
      obtain ⟨v, h1, h2⟩ := S.2 i s e1
      exact ⟨v, h1, q g v H R .rfl' h2⟩
theorem r_k {d : D} {v : V} (h : PE X a (tC v)) (r : ∀ F : Hp, Rep Y.T F d v) : PE X a (trE Y (eK d)) := by
  refine PE.imp h fun σ H Q q => ?_
  obtain ⟨g, sd, own, R, S, q⟩ := q
  exact at_ret q g v H R .rfl' (r _)
theorem r_int {i j pos} : PE X (.Constant (.int i) j pos) (trE Y (eK (.int i))) := r_k pe_int fun _ => .int i
theorem r_bl {i j pos} : PE X (.Constant (.bool i) j pos) (trE Y (eK (.bl i))) := r_k pe_bl fun _ => .bl i
theorem r_str {i j pos} : PE X (.Constant (.str i) j pos) (trE Y (eK (.str i))) := r_k pe_str fun _ => .str i
theorem r_non {j pos} : PE X (.Constant .none j pos) (trE Y (eK .non)) := r_k pe_non fun _ => .non

/-- an operator by values -/
def O2 (Y : Cy) (r : R2) (m : Own → SV → SV → Option D) : Prop := ∀ (gh : Gh) (own : Own) (H : Hp) (x y : SV) (v w : V) (z : D) (Q : VK),
  HRel Y.T Y.B gh own H → RS Y.T gh own.length x v → RS Y.T gh own.length y w → m own x y = some z →
  (∀ g' u H', HRel Y.T Y.B g' own H' → GExt Y.B gh own.length g' own.length → Rep Y.T g'.F z u → Q u H') → r v w H Q
theorem at_b {m : Own → SV → SV → Option D} {r : R2} (om : O2 Y r m) {σ : L2.St} {H : Hp} {Q : VK} (q : trE Y (eB m f g) σ H Q) : tOp r (trE Y f) (trE Y g) σ H Q := by
  obtain ⟨gh, sd, own, R, S, q⟩ := q
  refine at_bind R S q fun g1 o1 x v H1 R1 S1 e1 rx q1 => ?_
  refine at_bind R1 S1 q1 fun g2 o2 y w H2 R2 S2 e2 ry q2 => ?_
  obtain ⟨s, es, q3⟩ := at_ask q2
  obtain ⟨z, ez, e4⟩ := Option.map_eq_some_iff.mp es
  subst e4
  exact om g2 o2 H2 x y v w z Q R2 (rx.ext e2) ry ez q3
theorem r_bin {op : Operator} {m : Own → SV → SV → Option D} {r : R2} (ho : OpR X (binaryOp op) r) (om : O2 Y r m) (ha : PE X a (trE Y f)) (hb : PE X b (trE Y g)) : PE X (.BinOp a op b pos) (trE Y (eB m f g)) :=
  PE.imp (pe_op ho ha hb) fun _ _ _ q => at_b om q
theorem r_cmp {op : CmpOp} {m : Own → SV → SV → Option D} {r : R2} (ho : OpR X (compareOp op) r) (om : O2 Y r m) (ha : PE X a (trE Y f)) (hb : PE X b (trE Y g)) (hm : behindInMarks op b = false) : PE X (.Compare a [op] [b] pos) (trE Y (eB m f g)) :=
  PE.imp (pe_cmpR ho ha hb hm) fun _ _ _ q => at_b om q
theorem at_te {σ : L2.St} {H : Hp} {Q : Bool → Hp → Prop} (q : trT Y (tE f) σ H Q) : trE Y f σ H fun x H' => ∃ k, x = .bl k ∧ Q k H' := by
  obtain ⟨gh, sd, own, R, S, q⟩ := q
  refine at_bind R S q fun g1 o1 x v H1 R1 S1 e1 rx q1 => ?_
  cases x with
  | h k => exact (at_fail q1).elim
  | d x =>
    cases x with
    | bl k =>
      have rx : Rep Y.T g1.F (.bl k) v := rx
      cases rx
      exact ⟨k, rfl, at_ret q1 g1 k H1 R1 .rfl' rfl⟩
    | _ => exact (at_fail q1).elim
theorem b_te {m : Own → SV → SV → Option D} {r : R2} (om : O2 Y r m) {σ : L2.St} {H : Hp} {Q : Bool → Hp → Prop} (q : trT Y (tE (eB m f g)) σ H Q) : tTest (tOp r (trE Y f) (trE Y g)) σ H Q := at_b om (at_te q)
/-- a comparison as a test -/
theorem rt_cmp {op : CmpOp} {m : Own → SV → SV → Option D} {r : R2} (ho : OpR X (compareOp op) r) (om : O2 Y r m) (ha : PE X a (trE Y f)) (hb : PE X b (trE Y g)) (hm : behindInMarks op b = false) : PT X (.Compare a [op] [b] pos) (trT Y (tE (eB m f g))) :=
  PT.imp (pt_cmpR ho ha hb hm) fun _ _ _ q => b_te om q
/-- a plain expression as a test -/
theorem rt_val (h : PE X a (trE Y f)) (he : ∀ whole, isTrue a X.env whole = (do let v ← whole; standAt a.pos; holding [v] (truthy v)) := by intro _; rfl) : PT X a (trT Y (tE f)) :=
  PT.imp (pt_val h he) fun _ _ _ q => at_te q
theorem at_ch {m m' : Own → SV → SV → Option D} {r r' : R2} (om : O2 Y r m) (om' : O2 Y r' m') {σ : L2.St} {H : Hp} {Q : VK} (q : trE Y (eCh m m' f g h) σ H Q) : tChain r r' (trE Y f) (trE Y g) (trE Y h) σ H Q := by
  obtain ⟨gh, sd, own, R, S, q⟩ := q
  refine at_bind R S q fun g1 o1 x v H1 R1 S1 e1 rx q1 => ?_
  refine at_bind R1 S1 q1 fun g2 o2 y w H2 R2 S2 e2 ry q2 => ?_
  obtain ⟨r0, own', e, q2⟩ := q2
  cases ez : m o2 x y with
  | none => simp only [M.bind, M.ask, ez] at e; cases e
  | some z =>
    simp only [M.bind, M.ask, ez] at e
    refine om g2 o2 H2 x y v w z _ R2 (rx.ext e2) ry ez fun g3 u H3 R3 e3 rz => ?_
    cases z with
    | bl k =>
      cases rz
      refine ⟨k, rfl, ?_⟩
      cases k with
      | true =>
        rw [if_pos rfl]
        refine at_bind (relC := RS Y.T) R3 (S2.ext e3) (k := fun w => M.ask fun own => (m' own y w).map SV.d) ⟨r0, own', e, q2.shift e3⟩ fun g4 o4 zz ww H4 R4 S4 e4 rw4 q4 => ?_
        obtain ⟨s, es, q5⟩ := at_ask q4
        obtain ⟨z5, ez5, e5⟩ := Option.map_eq_some_iff.mp es
        subst e5
        exact om' g4 o4 H4 y zz w ww z5 Q R4 ((ry.ext e3).ext e4) rw4 ez5 q5
      | false =>
        rw [if_neg (by decide)]
        cases e
        exact q2 g3 _ H3 R3 e3 (.bl false)
    | _ => cases e
theorem r_ch {op op' : CmpOp} {m m' : Own → SV → SV → Option D} {r r' : R2} (ho : OpR X (compareOp op) r) (om : O2 Y r m) (ho' : OpR X (compareOp op') r') (om' : O2 Y r' m') (ha : PE X a (trE Y f)) (hb : PE X b (trE Y g)) (hc : PE X c (trE Y h)) (hlm : lastMarks [op, op'] [b, c] = false := by with_unfolding_all rfl) :
    PE X (.Compare a [op, op'] [b, c] pos) (trE Y (eCh m m' f g h)) := PE.imp (pe_chain ho ho' ha hb hc hlm) fun _ _ _ q => at_ch om om' q
theorem rt_ch {op op' : CmpOp} {m m' : Own → SV → SV → Option D} {r r' : R2} (ho : OpR X (compareOp op) r) (om : O2 Y r m) (ho' : OpR X (compareOp op') r') (om' : O2 Y r' m') (ha : PE X a (trE Y f)) (hb : PE X b (trE Y g)) (hc : PE X c (trE Y h)) (hlm : lastMarks [op, op'] [b, c] = false := by with_unfolding_all rfl) :
    PT X (.Compare a [op, op'] [b, c] pos) (trT Y (tE (eCh m m' f g h))) := PT.imp (pt_chain ho ho' ha hb hc hlm) fun _ _ _ q => at_ch om om' (at_te q)

theorem r_one {op} (h : PE X a (trE Y f)) : PE X (.BoolOp op [a] pos) (trE Y f) := pe_one h
theorem r_and {rest : List Expr} (ha : PE X a (trE Y f)) (hb : PE X (.BoolOp .And (b :: rest) pos) (trE Y g)) : PE X (.BoolOp .And (a :: b :: rest) pos) (trE Y (eAnd f g)) := by
  refine PE.imp (pe_and ha hb) fun σ H Q q => ?_
  obtain ⟨gh, sd, own, R, S, q⟩ := q
  refine at_bind R S q fun g1 o1 x v H1 R1 S1 e1 rx q1 => ?_
  cases x with
  | h k => exact (at_fail q1).elim
  | d x =>
    cases x with
    | bl k =>
      have rx : Rep Y.T g1.F (.bl k) v := rx
      cases rx
      refine ⟨k, rfl, ?_⟩
      cases k with
      | true => rw [if_pos rfl]; exact ⟨g1, sd, o1, R1, S1, q1⟩
      | false => rw [if_neg (by decide)]; exact at_ret q1 g1 _ H1 R1 .rfl' (Rep.bl false)
    | _ => exact (at_fail q1).elim
theorem r_or {rest : List Expr} (ha : PE X a (trE Y f)) (hb : PE X (.BoolOp .Or (b :: rest) pos) (trE Y g)) : PE X (.BoolOp .Or (a :: b :: rest) pos) (trE Y (eOr f g)) := by
  refine PE.imp (pe_or ha hb) fun σ H Q q => ?_
  obtain ⟨gh, sd, own, R, S, q⟩ := q
  refine at_bind R S q fun g1 o1 x v H1 R1 S1 e1 rx q1 => ?_
  cases x with
  | h k => exact (at_fail q1).elim
  | d x =>
    cases x with
    | bl k =>
      have rx : Rep Y.T g1.F (.bl k) v := rx
      cases rx
      refine ⟨k, rfl, ?_⟩
      cases k with
      | false => rw [if_neg (by decide)]; exact ⟨g1, sd, o1, R1, S1, q1⟩
      | true => rw [if_pos rfl]; exact at_ret q1 g1 _ H1 R1 .rfl' (Rep.bl true)
    | _ => exact (at_fail q1).elim
theorem r_not (ha : PE X a (trE Y f)) : PE X (.UnaryOp .Not a pos) (trE Y (eNot f)) := by
  refine PE.imp (pe_not ha) fun σ H Q q => ?_
  obtain ⟨gh, sd, own, R, S, q⟩ := q
  refine at_bind R S q fun g1 o1 x v H1 R1 S1 e1 rx q1 => ?_
  cases x with
  | h k => exact (at_fail q1).elim
  | d x =>
    cases x with
    | bl k =>
      have rx : Rep Y.T g1.F (.bl k) v := rx
      cases rx
      exact ⟨k, rfl, at_ret q1 g1 _ H1 R1 .rfl' (Rep.bl (!k))⟩
    | _ => exact (at_fail q1).elim
theorem rw_and1 (ha : PT X a (trT Y t)) : PW X (.BoolOp .And [a] pos) (trT Y t) := pw_and1 ha
theorem rw_or1 (ha : PT X a (trT Y t)) : PW X (.BoolOp .Or [a] pos) (trT Y t) := pw_or1 ha
theorem rw_and {rest : List Expr} (ha : PT X a (trT Y t)) (hb : PW X (.BoolOp .And (b :: rest) pos) (trT Y u)) : PW X (.BoolOp .And (a :: b :: rest) pos) (trT Y (tAnd t u)) := by
  refine PW.imp (pw_and ha hb) fun σ H Q q => ?_
  obtain ⟨gh, sd, own, R, S, q⟩ := q
  refine at_bind R S q fun g1 o1 x v H1 R1 S1 e1 rx q1 => ?_
  obtain rfl : x = v := rx
  cases x with
  | true => rw [if_pos rfl]; exact ⟨g1, sd, o1, R1, S1, q1⟩
  | false => rw [if_neg (by decide)]; exact at_ret q1 g1 _ H1 R1 .rfl' rfl
theorem rw_or {rest : List Expr} (ha : PT X a (trT Y t)) (hb : PW X (.BoolOp .Or (b :: rest) pos) (trT Y u)) : PW X (.BoolOp .Or (a :: b :: rest) pos) (trT Y (tOr t u)) := by
  refine PW.imp (pw_or ha hb) fun σ H Q q => ?_
  obtain ⟨gh, sd, own, R, S, q⟩ := q
  refine at_bind R S q fun g1 o1 x v H1 R1 S1 e1 rx q1 => ?_
  obtain rfl : x = v := rx
  cases x with
  | false => rw [if_neg (by decide)]; exact ⟨g1, sd, o1, R1, S1, q1⟩
  | true => rw [if_pos rfl]; exact at_ret q1 g1 _ H1 R1 .rfl' rfl
theorem rt_not (ha : PT X a (trT Y t)) : PT X (.UnaryOp .Not a pos) (trT Y (tNot t)) := by
  refine PT.imp (pt_not ha) fun σ H Q q => ?_
  obtain ⟨gh, sd, own, R, S, q⟩ := q
  refine at_bind R S q fun g1 o1 x v H1 R1 S1 e1 rx q1 => ?_
  obtain rfl : x = v := rx
  exact at_ret q1 g1 _ H1 R1 .rfl' rfl
theorem r_if (hc : PT X c (trT Y t)) (ha : PE X a (trE Y f)) (hb : PE X b (trE Y g)) : PE X (.IfExp c a b pos) (trE Y (eIf t f g)) := by
  refine PE.imp (pe_ifExp hc ha hb) fun σ H Q q => ?_
  obtain ⟨gh, sd, own, R, S, q⟩ := q
  refine at_bind R S q fun g1 o1 x v H1 R1 S1 e1 rx q1 => ?_
  obtain rfl : x = v := rx
  cases x with
  | true => rw [if_pos rfl]; exact ⟨g1, sd, o1, R1, S1, q1⟩
  | false => rw [if_neg (by decide)]; exact ⟨g1, sd, o1, R1, S1, q1⟩

/-! ### arguments, displays -/
theorem ra_nil : PA X [] (trA Y aNil) := by
  refine PA.imp pa_nil fun σ H Q q => ?_
  obtain ⟨gh, sd, own, R, S, q⟩ := q
  exact at_ret q gh _ H R .rfl' .nil
theorem ra_cons {es : List Expr} {al : AM} (ha : PE X a (trE Y f)) (hr : PA X es (trA Y al)) (hs : starEach (a :: es) X.env = (false, eval a X.env) :: starEach es X.env := by rfl) : PA X (a :: es) (trA Y (aCons f al)) := by
  refine PA.imp (pa_cons ha hr hs) fun σ H Q q => ?_
  obtain ⟨gh, sd, own, R, S, q⟩ := q
  refine at_bind R S q fun g1 o1 x v H1 R1 S1 e1 rx q1 => ?_
  refine at_bind R1 S1 q1 fun g2 o2 xs vs H2 R2 S2 e2 rs q2 => ?_
  exact at_ret q2 g2 _ H2 R2 .rfl' (.cons (rx.ext e2) rs)
theorem r_tup {es : List Expr} {x1} {al : AM} (ha : PA X es (trA Y al)) : PE X (.Tuple es x1 pos) (trE Y (eTup al)) := by
  refine PE.imp (pe_tup ha) fun σ H Q q => ?_
  obtain ⟨gh, sd, own, R, S, q⟩ := q
  refine at_bind R S q fun g1 o1 xs vs H1 R1 S1 e1 rs q1 => ?_
  obtain ⟨s, es, q2⟩ := at_ask q1
  obtain ⟨ds, ed, e3⟩ := Option.bind_eq_some_iff.mp es
  have rd := dats_rel rs ed
  by_cases hl : ds.length ≤ sizeLine
  · rw [if_pos hl] at e3
    cases e3
    refine ⟨by rw [← rd.length]; exact hl, fun p hp => ?_⟩
    obtain ⟨R2, e2⟩ := R1.new hp (.tup vs)
    exact q2 _ _ _ R2 e2 (Rep.tup (SqT.of upd_same) (rd.le e2.F))
  · rw [if_neg hl] at e3; cases e3
theorem r_lst {es : List Expr} {al : AM} (ha : PA X es (trA Y al)) : PE X (.List es pos) (trE Y (eLst al)) := by
  refine PE.imp (pe_lst ha) fun σ H Q q => ?_
  obtain ⟨gh, sd, own, R, S, q⟩ := q
  refine at_bind R S q fun g1 o1 xs vs H1 R1 S1 e1 rs q1 => ?_
  obtain ⟨s, es, q2⟩ := at_ask q1
  obtain ⟨ds, ed, e3⟩ := Option.bind_eq_some_iff.mp es
  have rd := dats_rel rs ed
  by_cases hl : ds.length ≤ sizeLine
  · rw [if_pos hl] at e3
    cases e3
    refine ⟨by rw [← rd.length]; exact hl, fun p hp => ?_⟩
    obtain ⟨R2, e2⟩ := R1.new hp (.lst vs)
    exact q2 _ _ _ R2 e2 (Rep.lst upd_same (rd.le e2.F))
  · rw [if_neg hl] at e3; cases e3
theorem r_lstH {es : List Expr} {al : AM} (ha : PA X es (trA Y al)) : PE X (.List es pos) (trE Y (eLstH al)) := by
  refine PE.imp (pe_lst ha) fun σ H Q q => ?_
  obtain ⟨gh, sd, own, R, S, q⟩ := q
  refine at_bind R S q fun g1 o1 xs vs H1 R1 S1 e1 rs q1 => ?_
  obtain ⟨r0, own', e, q1⟩ := q1
  cases ed : dats xs with
  | none => rw [ed] at e; cases e
  | some ds =>
    rw [ed] at e
    have rd := dats_rel rs ed
    by_cases hl : ds.length ≤ sizeLine
    · have e : (if ds.length ≤ sizeLine then some (Rz.ok (SV.h o1.length), o1 ++ [O.lst ds]) else none) = some (r0, own') := e
      rw [if_pos hl] at e
      cases e
      refine ⟨by rw [← rd.length]; exact hl, fun p hp => ?_⟩
      obtain ⟨R2, e2⟩ := R1.made hp (ho := .lst vs) (o := .lst ds) ⟨vs, upd_same, rd⟩
      exact q1 _ _ _ R2 e2 ⟨by simp, by show V.ref p = .ref (if o1.length = o1.length then p else _); rw [if_pos rfl]⟩
    · have e : (if ds.length ≤ sizeLine then some (Rz.ok (SV.h o1.length), o1 ++ [O.lst ds]) else none) = some (r0, own') := e
      rw [if_neg hl] at e; cases e

/-! ### built-ins by values -/
def OB (Y : Cy) (r : List V → Hp → VK → Prop) (m : Own → List SV → Option SV) : Prop := ∀ (gh : Gh) (own : Own) (H : Hp) (xs : List SV) (vs : List V) (z : SV) (Q : VK),
  HRel Y.T Y.B gh own H → RSs Y.T gh own.length xs vs → m own xs = some z →
  (∀ g' u H', HRel Y.T Y.B g' own H' → GExt Y.B gh own.length g' own.length → RS Y.T g' own.length z u → Q u H') → r vs H Q
theorem at_cb {m : Own → List SV → Option SV} {r : List V → Hp → VK → Prop} (om : OB Y r m) {al : AM} {σ : L2.St} {H : Hp} {Q : VK} (q : trE Y (eCB m al) σ H Q) : tCB r (trA Y al) σ H Q := by
  obtain ⟨gh, sd, own, R, S, q⟩ := q
  refine at_bind R S q fun g1 o1 xs vs H1 R1 S1 e1 rs q1 => ?_
  obtain ⟨s, es, q2⟩ := at_ask q1
  exact om g1 o1 H1 xs vs s Q R1 rs es q2
theorem r_cb {x : Str} {id : String} {p : Pos} {es : List Expr} {m : Own → List SV → Option SV} {r : List V → Hp → VK → Prop} {al : AM} (hc : CallR X (.builtin id) r) (om : OB Y r m) (hm : X.mg x = none) (ha : PA X (a :: es) (trA Y al)) (hg : Gl X x := by rfl) (hv : bootBuiltins x = some (.builtin id) := by decide +kernel)
    (hn : x ≠ "__name__" := by decide) (hdb : (x == ("__debug__" : Str)) = false := by decide) (he : starEach (a :: es) X.env = (false, eval a X.env) :: starEach es X.env := by rfl) (hpl : (backTo pos (starEach es X.env)).any (·.1) = false := by rfl) : PE X (.Call (.Name x p) (a :: es) [] pos) (trE Y (eCB m al)) :=
  PE.imp (pe_callB hc hg hm hv ha hn hdb he hpl) fun _ _ _ q => at_cb om q
theorem r_ct {x : Str} {ty : String} {p : Pos} {es : List Expr} {m : Own → List SV → Option SV} {r : List V → Hp → VK → Prop} {al : AM} (hc : CallR X (.type ty) r) (om : OB Y r m) (hm : X.mg x = none) (ha : PA X (a :: es) (trA Y al)) (hg : Gl X x := by rfl) (hv : bootBuiltins x = some (.type ty) := by decide +kernel)
    (hn : x ≠ "__name__" := by decide) (hdb : (x == ("__debug__" : Str)) = false := by decide) (he : starEach (a :: es) X.env = (false, eval a X.env) :: starEach es X.env := by rfl) (hpl : (backTo pos (starEach es X.env)).any (·.1) = false := by rfl) : PE X (.Call (.Name x p) (a :: es) [] pos) (trE Y (eCB m al)) :=
  PE.imp (pe_callTy hc hg hm hv ha hn hdb he hpl) fun _ _ _ q => at_cb om q
end
end Gx
end T_GxR2
section T_GxR3
set_option Elab.async false
set_option linter.all false
set_option maxRecDepth 100000
set_option maxHeartbeats 4000000
namespace Gx
open PySem PySem.Spec PyProof.Rows L2

section
variable {T : Tb} {F : Hp}
theorem rep_int {i : Int} {v : V} (r : Rep T F (.int i) v) : v = .int i := by cases r; rfl
theorem rep_str {i : Str} {v : V} (r : Rep T F (.str i) v) : v = .str i := by cases r; rfl
theorem rep_bl {i : Bool} {v : V} (r : Rep T F (.bl i) v) : v = .bl i := by cases r; rfl
theorem rep_non {v : V} (r : Rep T F .non v) : v = .non := by cases r; rfl
theorem reps_ints : ∀ {is : List Int} {vs : List V}, Reps T F (is.map D.int) vs → vs = is.map V.int
  | [], _, r => by cases r; rfl
  | i :: is, _, r => by
    cases r with
    | cons h t =>
      rw [rep_int h, reps_ints t]; rfl
theorem reps_bls : ∀ {is : List Bool} {vs : List V}, Reps T F (is.map D.bl) vs → vs = is.map V.bl
  | [], _, r => by cases r; rfl
  | i :: is, _, r => by
    cases r with
    | cons h t =>
      rw [rep_bl h, reps_bls t]; rfl
end
/-- ints, bools, texts out of data -/
def intsD : List D → Option (List Int)
  | [] => some []
  | .int i :: r => (intsD r).map (i :: ·)
  | _ :: _ => none
def blsD : List D → Option (List Bool)
  | [] => some []
  | .bl i :: r => (blsD r).map (i :: ·)
  | _ :: _ => none
def strsD : List D → Option (List Str)
  | [] => some []
  | .str i :: r => (strsD r).map (i :: ·)
  | _ :: _ => none
theorem intsD_map : ∀ {ds : List D} {is : List Int}, intsD ds = some is → ds = is.map D.int
  | [], _, h => by cases h; rfl
  | .int i :: r, is, h => by
    have h : (intsD r).map (i :: ·) = some is := h
    obtain ⟨js, e1, e2⟩ := Option.map_eq_some_iff.mp h
    subst e2
    rw [intsD_map e1]; rfl
  | .non :: _, _, h => by cases h
  | .bl _ :: _, _, h => by cases h
  | .str _ :: _, _, h => by cases h
  | .ty _ :: _, _, h => by cases h
  | .cls _ :: _, _, h => by cases h
  | .tup _ :: _, _, h => by cases h
  | .lst _ :: _, _, h => by cases h
  | .dic _ _ :: _, _, h => by cases h
  | .obj _ _ :: _, _, h => by cases h
theorem intsD_of : ∀ (is : List Int), intsD (is.map D.int) = some is
  | [] => rfl
  | i :: r => by show (intsD (r.map D.int)).map (i :: ·) = _; rw [intsD_of r]; rfl
theorem blsD_map : ∀ {ds : List D} {is : List Bool}, blsD ds = some is → ds = is.map D.bl
  | [], _, h => by cases h; rfl
  | .bl i :: r, is, h => by
    have h : (blsD r).map (i :: ·) = some is := h
    obtain ⟨js, e1, e2⟩ := Option.map_eq_some_iff.mp h
    subst e2
    rw [blsD_map e1]; rfl
  | .non :: _, _, h => by cases h
  | .int _ :: _, _, h => by cases h
  | .str _ :: _, _, h => by cases h
  | .ty _ :: _, _, h => by cases h
  | .cls _ :: _, _, h => by cases h
  | .tup _ :: _, _, h => by cases h
  | .lst _ :: _, _, h => by cases h
  | .dic _ _ :: _, _, h => by cases h
  | .obj _ _ :: _, _, h => by cases h
theorem blsD_of : ∀ (is : List Bool), blsD (is.map D.bl) = some is
  | [] => rfl
  | i :: r => by show (blsD (r.map D.bl)).map (i :: ·) = _; rw [blsD_of r]; rfl
/-! ## operators upon ints -/
/-- two ints, a condition, the value -/
def m2I (C : Int → Int → Bool) (f : Int → Int → D) : Own → SV → SV → Option D := fun _ x y => match x, y with
  | .d (.int i), .d (.int j) => if C i j = true then some (f i j) else none
  | _, _ => none
theorem sv_int {T : Tb} {g : Gh} {n : Nat} {i : Int} {v : V} (r : RS T g n (.d (.int i)) v) : v = .int i := rep_int r
theorem m2I_inv {C : Int → Int → Bool} {f : Int → Int → D} {own : Own} {x y : SV} {z : D} (h : m2I C f own x y = some z) : ∃ i j, x = .d (.int i) ∧ y = .d (.int j) ∧ C i j = true ∧ z = f i j := by
  cases x with
  | h k => cases h
  | d x =>
    cases x with
    | int i =>
      cases y with
      | h k => cases h
      | d y =>
        cases y with
        | int j =>
          have h : (if C i j = true then some (f i j) else none) = some z := h
          by_cases c : C i j = true
          · rw [if_pos c] at h; cases h; exact ⟨i, j, rfl, rfl, c, rfl⟩
          · rw [if_neg c] at h; cases h
        | _ => cases h
    | _ => cases h
section
variable {Y : Cy}
theorem o2_I0 {g : Int → Int → V} {f : Int → Int → D} (hf : ∀ F i j, Rep Y.T F (f i j) (g i j)) : O2 Y (rI0 g) (m2I (fun _ _ => true) f) := by
  intro gh own H x y v w z Q R rx ry h k
  obtain ⟨i, j, rfl, rfl, _, rfl⟩ := m2I_inv h
  exact ⟨i, j, sv_int rx, sv_int ry, k gh _ H R .rfl' (hf _ i j)⟩
theorem o2_I {C : Int → Int → Prop} {c : Int → Int → Bool} {g : Int → Int → V} {f : Int → Int → D} (hc : ∀ i j, c i j = true → C i j) (hf : ∀ F i j, Rep Y.T F (f i j) (g i j)) : O2 Y (rI C g) (m2I c f) := by
  intro gh own H x y v w z Q R rx ry h k
  obtain ⟨i, j, rfl, rfl, e, rfl⟩ := m2I_inv h
  exact ⟨i, j, sv_int rx, sv_int ry, hc i j e, k gh _ H R .rfl' (hf _ i j)⟩
end
def mSub := m2I (fun _ _ => true) fun i j => .int (i - j)
def mMul := m2I (fun i j => decide ((-(2 ^ 64) < i ∧ i < 2 ^ 64) ∨ (-(2 ^ 64) < j ∧ j < 2 ^ 64))) fun i j => .int (i * j)
def mFdiv := m2I (fun _ j => decide (0 < j ∧ j < 1073741824)) fun i j => .int (i / j)
def mMod := m2I (fun _ j => decide (0 < j)) fun i j => .int (i % j)
def mPow := m2I (fun i j => decide (0 ≤ j ∧ j ≤ 1000000 ∧ i.natAbs < 2 ^ 64)) fun i j => .int (i ^ j.toNat)
def mLt := m2I (fun _ _ => true) fun i j => .bl (decide (i < j))
def mLe := m2I (fun _ _ => true) fun i j => .bl (decide (i ≤ j))
def mGt := m2I (fun _ _ => true) fun i j => .bl (decide (j < i))
def mGe := m2I (fun _ _ => true) fun i j => .bl (decide (j ≤ i))
def mNeg : Own → SV → Option D := fun _ x => match x with
  | .d (.int i) => some (.int (-i))
  | _ => none
/-- + of ints, texts, tuples, lists -/
def mAdd : Own → SV → SV → Option D := fun own x y => match x, y with
  | .d (.int i), .d (.int j) => some (.int (i + j))
  | .d (.str a), .d (.str b) => if a.length + b.length ≤ sizeLine then some (.str (a ++ b)) else none
  | .d (.tup xs), .d (.tup ys) => if xs.length + ys.length ≤ sizeLine then some (.tup (xs ++ ys)) else none
  | x, y => (lstV own x).bind fun xs => (lstV own y).bind fun ys => if xs.length + ys.length ≤ sizeLine then some (.lst (xs ++ ys)) else none
def mEq : Own → SV → SV → Option D := fun own x y => (datV own x).bind fun a => (datV own y).bind fun b => if (okN 60 a && okN 60 b) = true then some (.bl (eqN 60 a b)) else none
def mNe : Own → SV → SV → Option D := fun own x y => (datV own x).bind fun a => (datV own y).bind fun b => if (okN 60 a && okN 60 b) = true then some (.bl (!eqN 60 a b)) else none
def mIsN : Own → SV → SV → Option D := fun _ x y => match x, y with
  | .d .non, .d .non => some (.bl true)
  | _, .d .non => some (.bl false)
  | _, _ => none
def mNotN : Own → SV → SV → Option D := fun _ x y => match x, y with
  | .d .non, .d .non => some (.bl false)
  | _, .d .non => some (.bl true)
  | _, _ => none
/-- the mark of a locked dict is no key -/
def unM : List D → List D
  | .ty 5 :: ks => ks
  | ks => ks
theorem unM_keys : ∀ kvs : List (Key × V), unM (kvs.map fun p => keyD p.1) = kvs.map fun p => keyD p.1
  | [] => rfl
  | (.inl _, _) :: _ => rfl
  | (.inr _, _) :: _ => rfl
/-- the mark of a locked dict with tuple keys -/
def six : List D → Bool
  | .ty 6 :: _ => true
  | _ => false
def dicV (own : Own) : SV → Option (List D × List D)
  | .d (.dic ks xs) => if six ks = true then none else some (unM ks, xs)
  | .h k => match own[k]? with
    | some (.dic ks xs) => some (ks, xs)
    | _ => none
  | _ => none
def keyOf : D → Option Key
  | .int i => some (.inl i)
  | .str x => some (.inr x)
  | _ => none
/-- the value of a key -/
def getK (k : Key) : List D → List D → Option D
  | .int i :: ks, x :: xs => if k = .inl i then some x else getK k ks xs
  | .str i :: ks, x :: xs => if k = .inr i then some x else getK k ks xs
  | _, _ => none
def mIn (neg : Bool) : Own → SV → SV → Option D := fun own x y => match dicV own y with
  | some (ks, xs) => match x with
    | .d d => (keyOf d).map fun k => .bl ((getK k ks xs).isSome != neg)
    | _ => none
  | none => (seqV own y).bind fun ys => (datV own x).bind fun a => if (okN 60 a && ys.all (okN 59)) = true then some (.bl ((ys.any fun z => eqN 60 z a) != neg)) else none

section
variable {X : Cx} {Y : Cy}
theorem okN_mono : ∀ (n : Nat) (d : D), okN n d = true → okN (n + 1) d = true
  | 0, d, h => by cases d <;> first | rfl | exact h | exact Bool.noConfusion h
  | n + 1, d, h => by
    have all : ∀ xs : List D, xs.all (okN n) = true → xs.all (okN (n + 1)) = true := fun xs h => by
      rw [List.all_eq_true] at h ⊢
      exact fun x hx => okN_mono n x (h x hx)
    cases d <;> first | rfl | exact h | exact Bool.noConfusion h | exact all _ h
theorem pyN_mono : ∀ (n : Nat) (d : D), okN n d = true → pyN (n + 1) d = pyN n d
  | 0, d, h => by cases d <;> first | rfl | exact Bool.noConfusion h
  | n + 1, d, h => by
    have all : ∀ xs : List D, xs.all (okN n) = true → xs.map (pyN (n + 1)) = xs.map (pyN n) := fun xs h => by
      rw [List.all_eq_true] at h
      exact List.map_congr_left fun x hx => pyN_mono n x (h x hx)
    cases d <;> first | rfl | exact Bool.noConfusion h | exact congrArg PyData.tuple (all _ h) | exact congrArg PyData.list (all _ h)
theorem eqN_mono : ∀ (n : Nat) (a b : D), okN n a = true → okN n b = true → eqN (n + 1) a b = eqN n a b := fun n a b ha hb => by
  rw [← py_eq n a b ha hb, ← py_eq (n + 1) a b (okN_mono n a ha) (okN_mono n b hb), pyN_mono n a ha, pyN_mono n b hb]

theorem o2_eq : O2 Y (rEqD Y.T.K) mEq := by
  intro gh own H x y v w z Q R rx ry h k
  obtain ⟨a, ea, h⟩ := Option.bind_eq_some_iff.mp h
  obtain ⟨b, eb, h⟩ := Option.bind_eq_some_iff.mp h
  by_cases c : (okN 60 a && okN 60 b) = true
  · rw [if_pos c] at h
    cases h
    obtain ⟨c1, c2⟩ := Bool.and_eq_true_iff.mp c
    refine ⟨_, _, dat_of R rx ea c1, dat_of R ry eb c2, shaped_of c1, shaped_of c2, ?_⟩
    rw [py_eq 60 a b c1 c2]
    exact k gh _ H R .rfl' (.bl _)
  · rw [if_neg c] at h; cases h
theorem o2_ne : O2 Y (rNeD Y.T.K) mNe := by
  intro gh own H x y v w z Q R rx ry h k
  obtain ⟨a, ea, h⟩ := Option.bind_eq_some_iff.mp h
  obtain ⟨b, eb, h⟩ := Option.bind_eq_some_iff.mp h
  by_cases c : (okN 60 a && okN 60 b) = true
  · rw [if_pos c] at h
    cases h
    obtain ⟨c1, c2⟩ := Bool.and_eq_true_iff.mp c
    refine ⟨_, _, dat_of R rx ea c1, dat_of R ry eb c2, shaped_of c1, shaped_of c2, ?_⟩
    rw [py_eq 60 a b c1 c2]
    exact k gh _ H R .rfl' (.bl _)
  · rw [if_neg c] at h; cases h
abbrev rAddA (K : PySem.W.Frag) : R2 := fun x y H Q => (rI0 (fun i j => .int (i + j)) x y H Q ∨ ∃ i j, x = .str i ∧ y = .str j ∧ i.length + j.length ≤ sizeLine ∧ Q (.str (i ++ j)) H) ∨ (rCatA K x y H Q ∨ rCat x y H Q)
theorem op_addA : OpR X (binaryOp .Add) (rAddA X.K) := (op_add.or op_add_str).or (op_catA.or op_cat)
theorem o2_add : O2 Y (rAddA Y.T.K) mAdd := by
  intro gh own H x y v w z Q R rx ry h k
  have lists : (lstV own x).bind (fun xs => (lstV own y).bind fun ys => if xs.length + ys.length ≤ sizeLine then some (D.lst (xs ++ ys)) else none) = some z → rAddA Y.T.K v w H Q := fun h => by
    obtain ⟨xs, ex, h⟩ := Option.bind_eq_some_iff.mp h
    obtain ⟨ys, ey, h⟩ := Option.bind_eq_some_iff.mp h
    obtain ⟨a, vs, rfl, h1, h2⟩ := lst_of R rx ex
    obtain ⟨b, ws, rfl, h3, h4⟩ := lst_of R ry ey
    by_cases c : xs.length + ys.length ≤ sizeLine
    · rw [if_pos c] at h
      cases h
      refine .inr (.inr ⟨a, b, vs, ws, rfl, rfl, h1, h3, by rw [← h2.length, ← h4.length]; exact c, fun p hp => ?_⟩)
      obtain ⟨R2, e2⟩ := R.new hp (.lst (vs ++ ws))
      exact k _ _ _ R2 e2 (.lst upd_same ((h2.append h4).le e2.F))
    · rw [if_neg c] at h; cases h
  cases x with
  | h kx => exact lists h
  | d x =>
    cases x with
    | int i =>
      cases y with
      | h ky => exact lists h
      | d y =>
        cases y with
        | int j => cases h; exact .inl (.inl ⟨i, j, sv_int rx, sv_int ry, k gh _ H R .rfl' (.int _)⟩)
        | _ => exact lists h
    | str a =>
      cases y with
      | h ky => exact lists h
      | d y =>
        cases y with
        | str b =>
          have h : (if a.length + b.length ≤ sizeLine then some (D.str (a ++ b)) else none) = some z := h
          by_cases c : a.length + b.length ≤ sizeLine
          · rw [if_pos c] at h; cases h
            exact .inl (.inr ⟨a, b, rep_str rx, rep_str ry, c, k gh _ H R .rfl' (.str _)⟩)
          · rw [if_neg c] at h; cases h
        | _ => exact lists h
    | tup xs =>
      cases y with
      | h ky => exact lists h
      | d y =>
        cases y with
        | tup ys =>
          have h : (if xs.length + ys.length ≤ sizeLine then some (D.tup (xs ++ ys)) else none) = some z := h
          by_cases c : xs.length + ys.length ≤ sizeLine
          · rw [if_pos c] at h; cases h
            have rx' : Rep Y.T gh.F (.tup xs) v := rx
            have ry' : Rep Y.T gh.F (.tup ys) w := ry
            cases rx' with
            | @tup a vs _ h1 h2 =>
              cases ry' with
              | @tup b ws _ h3 h4 =>
                have lx := h2.length
                have ly := h4.length
                refine .inr (.inl ⟨a, b, vs, ws, rfl, rfl, SqT.le R.f h1, SqT.le R.f h3, by rw [← lx, ← ly]; exact c, fun e => ?_, fun _ e => ?_, fun _ _ p hp => ?_⟩)
                · subst e
                  have : xs = [] := List.length_eq_zero_iff.mp lx
                  subst this
                  exact k gh _ H R .rfl' ry
                · subst e
                  have : ys = [] := List.length_eq_zero_iff.mp ly
                  subst this
                  rw [List.append_nil] at k
                  exact k gh _ H R .rfl' rx
                · obtain ⟨R2, e2⟩ := R.new hp (.tup (vs ++ ws))
                  exact k _ _ _ R2 e2 (.tup (SqT.of upd_same) ((h2.append h4).le e2.F))
          · rw [if_neg c] at h; cases h
        | _ => exact lists h
    | _ => exact lists h
def isNonS : SV → Bool
  | .d .non => true
  | _ => false
abbrev rIsNo : R2 := fun x y H Q => y = .non ∧ Q (.bl (decide (x = .non))) H
abbrev rNotNo : R2 := fun x y H Q => y = .non ∧ Q (.bl (!decide (x = .non))) H
end
end Gx
end T_GxR3
section T_GxR4
set_option Elab.async false
set_option linter.all false
set_option maxRecDepth 100000
set_option maxHeartbeats 4000000
namespace Gx
open PySem PySem.Spec PyProof.Rows L2

/-! ## in -/
theorem getK_rel {T : Tb} {F : Hp} {k : Key} : ∀ {kvs : List (Key × V)} {xs : List D}, Reps T F xs (kvs.map (·.2)) →
    (∀ d, getK k (kvs.map fun p => keyD p.1) xs = some d → ∃ v, valV kvs k = some v ∧ Rep T F d v) ∧ (getK k (kvs.map fun p => keyD p.1) xs = none → valV kvs k = none) := by
  intro kvs
  induction kvs with
  | nil => intro xs r; cases r; exact ⟨fun d h => (nomatch h), fun _ => rfl⟩
  | cons p r ih =>
    intro xs rr
    cases rr with
    | @cons d v ds vs h t =>
      obtain ⟨i1, i2⟩ := ih t
      obtain ⟨kk, kv⟩ := p
      have hd : getK k (List.map (fun p => keyD p.1) ((kk, kv) :: r)) (d :: ds) = if k = kk then some d else getK k (r.map fun p => keyD p.1) ds := by
        cases kk <;> rfl
      have hv : valV ((kk, kv) :: r) k = if kk = k then some kv else valV r k := by
        unfold valV
        rw [List.find?_cons]
        by_cases c : kk = k
        · rw [if_pos c, decide_eq_true c]; rfl
        · rw [if_neg c, decide_eq_false c]
      rw [hd, hv]
      by_cases c : k = kk
      · subst c
        rw [if_pos rfl, if_pos rfl]
        exact ⟨fun e he => ⟨kv, rfl, by cases he; exact h⟩, fun z => (nomatch z)⟩
      · rw [if_neg c, if_neg (fun z => c z.symm)]
        exact ⟨i1, i2⟩
theorem dic_of {T : Tb} {B : Hp} {g : Gh} {own : Own} {H : Hp} {s : SV} {v : V} (R : HRel T B g own H) (r : RS T g own.length s v) {ks xs : List D} (h : dicV own s = some (ks, xs)) :
    ∃ a, ∃ kvs : List (Key × V), v = .ref a ∧ Rd H a (.dK kvs) ∧ ks = kvs.map (fun p => keyD p.1) ∧ Reps T g.F xs (kvs.map (·.2)) := by
  cases s with
  | d x =>
    cases x with
    | dic k1 x1 =>
      have r : Rep T g.F (.dic k1 x1) v := r
      have h : (if six k1 = true then none else some (unM k1, x1)) = some (ks, xs) := h
      by_cases c6 : six k1 = true
      case pos => rw [if_pos c6] at h; cases h
      rw [if_neg c6] at h
      cases h
      cases r with
      | ndic h1 h2 h3 h4 => exact (c6 rfl).elim
      | dic h1 h2 h3 => subst h2; exact ⟨_, _, rfl, Rd.le R.f h1, unM_keys _, h3⟩
      | ldic h1 h2 h3 => exact ⟨_, _, rfl, .inr ⟨_, R.f _ _ h1⟩, h2, h3⟩
    | _ => cases h
  | h k =>
    have h : (match own[k]? with | some (.dic ks xs) => some (ks, xs) | _ => none) = some (ks, xs) := h
    cases e : own[k]? with
    | none => rw [e] at h; cases h
    | some o =>
      rw [e] at h
      cases o with
      | dic k1 x1 =>
        cases h
        obtain ⟨kvs, h1, h2, h3⟩ := R.o k _ e
        exact ⟨_, kvs, r.2, .inl h1, h2, h3⟩
      | _ => cases h
theorem keyOf_rel {T : Tb} {F : Hp} {d : D} {v : V} {k : Key} (h : keyOf d = some k) (r : Rep T F d v) : v = kV k := by
  cases d with
  | int i => cases h; exact rep_int r
  | str i => cases h; exact rep_str r
  | _ => cases h
abbrev rInDic (neg : Bool) : R2 := fun y x H Q => ∃ a o, x = .ref a ∧ DGet H a y o ∧ Q (.bl (o.isSome != neg)) H
/-- in a tuple of data -/
abbrev rInDT (K : PySem.W.Frag) (neg : Bool) : R2 := fun x y H Q => ∃ d ds, Dp K H x d ∧ Dp K H y (.tuple ds) ∧ SeqAt.shaped d = true ∧ SeqAt.shaped (.tuple ds) = true ∧ Q (.bl ((ds.any fun z => PyData.eqv z d) != neg)) H
section
variable {X : Cx}
theorem op_inDic (hu : X.A.units + 1 < cLine) : OpR X (compareOp .In) (rInDic false) := by
  intro pins s σ H y x u v Q I ry rx h
  obtain ⟨a, o, ex, g, q⟩ := h
  subst ex
  obtain rfl : v = Value.ref a := rx
  exact d_in hu I g ry fun s3 I3 => ⟨.bl (o.isSome != false), H, I3, by show Value.bool _ = Value.bool _; simp, q⟩
theorem op_ninDic (hu : X.A.units + 1 < cLine) : OpR X (compareOp .NotIn) (rInDic true) := by
  intro pins s σ H y x u v Q I ry rx h
  obtain ⟨a, o, ex, g, q⟩ := h
  subst ex
  obtain rfl : v = Value.ref a := rx
  exact d_notIn hu I g ry fun s3 I3 => ⟨.bl (o.isSome != true), H, I3, by cases o <;> rfl, q⟩
theorem room_t {A : Around} {d : PyData} {n : Nat} (h : SeqAt.shaped d = true) (hu : A.units + 65 < cLine) : A.units + 1 + min n d.depth < cLine := by
  have h1 := SeqAt.depth_of_shaped h
  have h2 : min n d.depth ≤ d.depth := Nat.min_le_right _ _
  omega
theorem op_inDT (hu : X.A.units + 65 < cLine) : OpR X (compareOp .In) (rInDT X.K false) := by
  intro pins s σ H x y v u Q I rx ry h
  obtain ⟨d, ds, hd, he, sd, se, q⟩ := h
  obtain ⟨as, r1⟩ := Dp.reads I d x v hd rx
  obtain ⟨bs, r2⟩ := Dp.reads I (.tuple ds) y u he ry
  exact SeqAt.in_tuple_reads r2 r1 (SeqAt.canLay_of_shaped se) (SeqAt.canLay_of_shaped sd) (room_t sd hu) ⟨.bl _, H, I, by show Value.bool _ = Value.bool _; simp, q⟩
theorem op_ninDT (hu : X.A.units + 65 < cLine) : OpR X (compareOp .NotIn) (rInDT X.K true) := by
  intro pins s σ H x y v u Q I rx ry h
  obtain ⟨d, ds, hd, he, sd, se, q⟩ := h
  obtain ⟨as, r1⟩ := Dp.reads I d x v hd rx
  obtain ⟨bs, r2⟩ := Dp.reads I (.tuple ds) y u he ry
  exact SeqAt.notIn_tuple_reads r2 r1 (SeqAt.canLay_of_shaped se) (SeqAt.canLay_of_shaped sd) (room_t sd hu) ⟨.bl _, H, I, by show Value.bool _ = Value.bool _; cases (ds.any fun z => PyData.eqv z d) <;> rfl, q⟩
abbrev rInA (K : PySem.W.Frag) : R2 := fun x y H Q => (rInD K x y H Q ∨ rInDT K false x y H Q) ∨ rInDic false x y H Q
abbrev rNinA (K : PySem.W.Frag) : R2 := fun x y H Q => (rNotInD K x y H Q ∨ rInDT K true x y H Q) ∨ rInDic true x y H Q
theorem op_inA (hu : X.A.units + 65 < cLine) : OpR X (compareOp .In) (rInA X.K) := ((op_inD hu).or (op_inDT hu)).or (op_inDic (by omega))
theorem op_ninA (hu : X.A.units + 65 < cLine) : OpR X (compareOp .NotIn) (rNinA X.K) := ((op_notInD hu).or (op_ninDT hu)).or (op_ninDic (by omega))
end
section
variable {Y : Cy}
theorem in_core {gh : Gh} {own : Own} {H : Hp} {x y : SV} {v w : V} {ys : List D} {a : D} (R : HRel Y.T Y.B gh own H) (rx : RS Y.T gh own.length x v) (ry : RS Y.T gh own.length y w) (hy : seqV own y = some ys) (hx : datV own x = some a)
    (c1 : okN 60 a = true) (c2 : ys.all (okN 59) = true) : ∃ d ds, Dp Y.T.K H v d ∧ (Dp Y.T.K H w (.list ds) ∨ Dp Y.T.K H w (.tuple ds)) ∧ SeqAt.shaped d = true ∧ SeqAt.shaped (.list ds) = true ∧ SeqAt.shaped (.tuple ds) = true ∧ (ds.any fun z => PyData.eqv z d) = ys.any fun z => eqN 60 z a := by
  obtain ⟨p, vs, rfl, hs, hr⟩ := seq_of R ry hy
  have da := dpAll_of R.f 59 hr c2
  have l1 := shaped_of (x := .lst ys) c2
  have l2 := shaped_of (x := .tup ys) c2
  refine ⟨_, ys.map (pyN 59), dat_of R rx hx c1, ?_, shaped_of c1, l1, l2, ?_⟩
  · rcases hs with hs | hs
    · exact .inl (.lst hs da)
    · exact .inr (.tup hs da)
  · rw [List.any_map]
    have c2' : ∀ z ∈ ys, okN 59 z = true := by rw [List.all_eq_true] at c2; exact c2
    clear hr da l1 l2 c2 hy
    induction ys with
    | nil => rfl
    | cons z t ih =>
      rw [List.any_cons, List.any_cons, ih fun q hq => c2' q (List.mem_cons_of_mem _ hq)]
      have hz := c2' z List.mem_cons_self
      show (PyData.eqv (pyN 59 z) (pyN 60 a) || _) = _
      rw [← pyN_mono 59 z hz, py_eq 60 z a (okN_mono 59 z hz) c1]
theorem mIn_inv {neg : Bool} {own : Own} {x y : SV} {z : D} (h : mIn neg own x y = some z) :
    (∃ ks xs d k, dicV own y = some (ks, xs) ∧ x = .d d ∧ keyOf d = some k ∧ z = .bl ((getK k ks xs).isSome != neg)) ∨
    (∃ ys a, seqV own y = some ys ∧ datV own x = some a ∧ okN 60 a = true ∧ ys.all (okN 59) = true ∧ z = .bl ((ys.any fun z => eqN 60 z a) != neg)) := by
  unfold mIn at h
  cases e : dicV own y with
  | some p =>
    obtain ⟨ks, xs⟩ := p
    rw [e] at h
    cases x with
    | h k => cases h
    | d d =>
      obtain ⟨k, e1, e2⟩ := Option.map_eq_some_iff.mp h
      exact .inl ⟨ks, xs, d, k, rfl, rfl, e1, e2.symm⟩
  | none =>
    rw [e] at h
    obtain ⟨ys, e1, h⟩ := Option.bind_eq_some_iff.mp h
    obtain ⟨a, e2, h⟩ := Option.bind_eq_some_iff.mp h
    by_cases c : (okN 60 a && ys.all (okN 59)) = true
    · rw [if_pos c] at h
      cases h
      obtain ⟨c1, c2⟩ := Bool.and_eq_true_iff.mp c
      exact .inr ⟨ys, a, e1, e2, c1, c2, rfl⟩
    · rw [if_neg c] at h; cases h
theorem dget_of {gh : Gh} {own : Own} {H : Hp} {y : SV} {w : V} {ks xs : List D} {k : Key} (R : HRel Y.T Y.B gh own H) (ry : RS Y.T gh own.length y w) (h : dicV own y = some (ks, xs)) :
    ∃ a o, w = .ref a ∧ DGet H a (kV k) o ∧ (∀ d, getK k ks xs = some d → ∃ v, o = some v ∧ Rep Y.T gh.F d v) ∧ (getK k ks xs = none → o = none) := by
  obtain ⟨a, kvs, rfl, h1, h2, h3⟩ := dic_of R ry h
  subst h2
  obtain ⟨q1, q2⟩ := getK_rel (k := k) h3
  exact ⟨a, valV kvs k, rfl, .inl ⟨kvs, k, h1, rfl, rfl⟩, q1, q2⟩
theorem o2_in : O2 Y (rInA Y.T.K) (mIn false) := by
  intro gh own H x y v w z Q R rx ry h k
  rcases mIn_inv h with ⟨ks, xs, d, kk, e1, rfl, e2, rfl⟩ | ⟨ys, a, e1, e2, c1, c2, rfl⟩
  · obtain ⟨a, o, rfl, hg, h1, h2⟩ := dget_of (k := kk) R ry e1
    obtain rfl := keyOf_rel e2 (show Rep Y.T gh.F d v from rx)
    refine .inr ⟨a, o, rfl, hg, ?_⟩
    have : o.isSome = (getK kk ks xs).isSome := by
      cases e : getK kk ks xs with
      | none => rw [h2 e]; rfl
      | some d => obtain ⟨v, ev, _⟩ := h1 d e; rw [ev]; rfl
    rw [this]
    exact k gh _ H R .rfl' (.bl _)
  · obtain ⟨d, ds, h1, h2, h3, h4, h5, h6⟩ := in_core R rx ry e1 e2 c1 c2
    rcases h2 with h2 | h2
    · refine .inl (.inl ⟨d, ds, h1, h2, h3, h4, ?_⟩)
      rw [h6]
      have := k gh (.bl (ys.any fun z => eqN 60 z a)) H R .rfl' (by simpa using Rep.bl (T := Y.T) (F := gh.F) _)
      exact this
    · refine .inl (.inr ⟨d, ds, h1, h2, h3, h5, ?_⟩)
      rw [h6]
      exact k gh _ H R .rfl' (.bl _)
theorem o2_nin : O2 Y (rNinA Y.T.K) (mIn true) := by
  intro gh own H x y v w z Q R rx ry h k
  rcases mIn_inv h with ⟨ks, xs, d, kk, e1, rfl, e2, rfl⟩ | ⟨ys, a, e1, e2, c1, c2, rfl⟩
  · obtain ⟨a, o, rfl, hg, h1, h2⟩ := dget_of (k := kk) R ry e1
    obtain rfl := keyOf_rel e2 (show Rep Y.T gh.F d v from rx)
    refine .inr ⟨a, o, rfl, hg, ?_⟩
    have : o.isSome = (getK kk ks xs).isSome := by
      cases e : getK kk ks xs with
      | none => rw [h2 e]; rfl
      | some d => obtain ⟨v, ev, _⟩ := h1 d e; rw [ev]; rfl
    rw [this]
    exact k gh _ H R .rfl' (.bl _)
  · obtain ⟨d, ds, h1, h2, h3, h4, h5, h6⟩ := in_core R rx ry e1 e2 c1 c2
    have fin : Rep Y.T gh.F (.bl ((ys.any fun z => eqN 60 z a) != true)) (.bl (!(ys.any fun z => eqN 60 z a))) := by
      cases (ys.any fun z => eqN 60 z a) <;> exact .bl _
    rcases h2 with h2 | h2
    · refine .inl (.inl ⟨d, ds, h1, h2, h3, h4, ?_⟩)
      rw [h6]
      exact k gh _ H R .rfl' fin
    · refine .inl (.inr ⟨d, ds, h1, h2, h3, h5, ?_⟩)
      rw [h6]
      exact k gh _ H R .rfl' (.bl _)
end

/-! ## subscripts -/
def mIx : Own → SV → SV → Option D := fun own x y => match dicV own x with
  | some (ks, xs) => match y with
    | .d d => (keyOf d).bind fun k => getK k ks xs
    | _ => none
  | none => match y with
    | .d (.int i) => (seqV own x).bind fun xs => atI xs i
    | _ => none
abbrev rIxDic : R2 := fun x y H Q => ∃ a v, x = .ref a ∧ DGet H a y (some v) ∧ Q v H
abbrev rIxA (K : PySem.W.Frag) : R2 := fun x y H Q => (rIxL K x y H Q ∨ rIxT K x y H Q) ∨ rIxDic x y H Q
theorem ix_dic {X : Cx} (hu : X.A.units + 1 < cLine) : IxR X rIxDic := by
  intro value slice pins s σ H x y v u Q I rx ry h hs
  obtain ⟨a, z, rfl, g, q⟩ := h
  obtain rfl : v = Value.ref a := rx
  exact tail_any (dict_typeIs I g) PySem.F.slot_dict_getitem.lookup (d_getItem hu I g ry fun w' s3 I3 rw' => ⟨z, H, I3, rw', q⟩) hs
theorem ix_A {X : Cx} (hu : X.A.units + 1 < cLine) : IxR X (rIxA X.K) := (ix_list.or ix_tup).or (ix_dic hu)
theorem atI_rel {T : Tb} {F : Hp} {xs : List D} {vs : List V} {i : Int} {d : D} (r : Reps T F xs vs) (h : atI xs i = some d) : ∃ v, atI vs i = some v ∧ Rep T F d v := by
  unfold atI at h ⊢
  rw [r.length] at h
  obtain ⟨j, e1, e2⟩ := Option.bind_eq_some_iff.mp h
  obtain ⟨v, e3, e4⟩ := r.get e2
  exact ⟨v, by rw [e1]; exact e3, e4⟩
theorem o2_ix {Y : Cy} : O2 Y (rIxA Y.T.K) mIx := by
  intro gh own H x y v w z Q R rx ry h k
  unfold mIx at h
  cases e : dicV own x with
  | some p =>
    obtain ⟨ks, xs⟩ := p
    rw [e] at h
    cases y with
    | h k => cases h
    | d d =>
      obtain ⟨kk, e1, e2⟩ := Option.bind_eq_some_iff.mp h
      obtain ⟨a, o, rfl, hg, h1, h2⟩ := dget_of (k := kk) R rx e
      obtain rfl := keyOf_rel e1 (show Rep Y.T gh.F d w from ry)
      obtain ⟨v, ev, rv⟩ := h1 z e2
      subst ev
      exact .inr ⟨a, v, rfl, hg, k gh v H R .rfl' rv⟩
  | none =>
    rw [e] at h
    cases y with
    | h k => cases h
    | d d =>
      cases d with
      | int i =>
        obtain ⟨xs, e1, e2⟩ := Option.bind_eq_some_iff.mp h
        obtain ⟨a, vs, rfl, hs, hr⟩ := seq_of R rx e1
        obtain ⟨v, ev, rv⟩ := atI_rel hr e2
        rcases hs with hs | hs
        · exact .inl (.inl ⟨a, vs, i, v, rfl, sv_int ry, hs, ev, k gh v H R .rfl' rv⟩)
        · exact .inl (.inr ⟨a, vs, i, v, rfl, sv_int ry, hs, ev, k gh v H R .rfl' rv⟩)
      | _ => cases h
theorem r_ix {X : Cx} {Y : Cy} {a b : Expr} {f g : EM} {pos : Pos} {m : Own → SV → SV → Option D} {r : R2} (hr : IxR X r) (om : O2 Y r m) (ha : PE X a (trE Y f)) (hb : PE X b (trE Y g)) (hs : PlainIx b := by intro _ _; rfl) : PE X (.Subscript a b pos) (trE Y (eB m f g)) :=
  PE.imp (pe_ix hr ha hb hs) fun _ _ _ q => at_b om q

/-! ## slices -/
abbrev OM := M (Option Int)
def relO : Gh → Nat → Option Int → Option Int → Prop := fun _ _ a b => a = b
def oNo : OM := M.ret none
def oSo (f : EM) : OM := f.bind fun x => match x with
  | .d (.int i) => M.ret (some i)
  | _ => M.fail
abbrev trO (Y : Cy) (f : OM) : TO := trM Y relO f
def cutD (xs : List D) (lo hi : Option Int) : List D := (xs.drop (HT.sIx xs.length 0 lo)).take (HT.sIx xs.length xs.length hi - HT.sIx xs.length 0 lo)
def mSl (own : Own) (x : SV) (lo hi : Option Int) : Option D := match x with
  | .d (.tup xs) => some (.tup (cutD xs lo hi))
  | x => (lstV own x).map fun xs => .lst (cutD xs lo hi)
def eSl (f : EM) (l h : OM) : EM := f.bind fun x => l.bind fun lo => h.bind fun hi => M.ask fun own => (mSl own x lo hi).map SV.d
theorem PO.imp {X : Cx} {e : Option Expr} {t t' : TO} (h : PO X e t) (i : ∀ σ H Q, t' σ H Q → t σ H Q) : PO X e t' := ⟨fun pins s σ H Q I q => h.run pins s σ H Q I (i σ H Q q)⟩
section
variable {X : Cx} {Y : Cy} {pos p2 : Pos} {a : Expr} {lo hi : Option Expr} {f : EM} {l h : OM}
end
end Gx
end T_GxR4
section T_GxR5
set_option Elab.async false
set_option linter.all false
set_option maxRecDepth 100000
set_option maxHeartbeats 4000000
namespace Gx
open PySem PySem.Spec PyProof.Rows L2

/-! ## built-ins by values -/
theorem rss1 {T : Tb} {g : Gh} {n : Nat} {x : SV} {vs : List V} (r : RSs T g n [x] vs) : ∃ v, vs = [v] ∧ RS T g n x v := by
  cases r with
  | cons h t => cases t; exact ⟨_, rfl, h⟩
theorem rss2 {T : Tb} {g : Gh} {n : Nat} {x y : SV} {vs : List V} (r : RSs T g n [x, y] vs) : ∃ v w, vs = [v, w] ∧ RS T g n x v ∧ RS T g n y w := by
  cases r with
  | cons h t =>
    obtain ⟨w, rfl, hw⟩ := rss1 t
    exact ⟨_, _, rfl, h, hw⟩
/-- one argument -/
def m1 (m : Own → SV → Option D) : Own → List SV → Option SV := fun own xs => match xs with
  | [x] => (m own x).map SV.d
  | _ => none
def m2 (m : Own → SV → SV → Option D) : Own → List SV → Option SV := fun own xs => match xs with
  | [x, y] => (m own x y).map SV.d
  | _ => none
def O1 (Y : Cy) (r : V → Hp → VK → Prop) (m : Own → SV → Option D) : Prop := ∀ (gh : Gh) (own : Own) (H : Hp) (x : SV) (v : V) (z : D) (Q : VK),
  HRel Y.T Y.B gh own H → RS Y.T gh own.length x v → m own x = some z →
  (∀ g' u H', HRel Y.T Y.B g' own H' → GExt Y.B gh own.length g' own.length → Rep Y.T g'.F z u → Q u H') → r v H Q
theorem ob_1 {Y : Cy} {m : Own → SV → Option D} {r : V → Hp → VK → Prop} {rr : List V → Hp → VK → Prop} (om : O1 Y r m) (hr : ∀ v H Q, r v H Q → rr [v] H Q) : OB Y rr (m1 m) := by
  intro gh own H xs vs z Q R rs h k
  match xs, rs, h with
  | [x], rs, h =>
    obtain ⟨d, e1, e2⟩ := Option.map_eq_some_iff.mp h
    subst e2
    obtain ⟨v, rfl, rx⟩ := rss1 rs
    exact hr v H Q (om gh own H x v d Q R rx e1 k)
theorem ob_2 {Y : Cy} {m : Own → SV → SV → Option D} {r : R2} {rr : List V → Hp → VK → Prop} (om : O2 Y r m) (hr : ∀ v w H Q, r v w H Q → rr [v, w] H Q) : OB Y rr (m2 m) := by
  intro gh own H xs vs z Q R rs h k
  match xs, rs, h with
  | [x, y], rs, h =>
    obtain ⟨d, e1, e2⟩ := Option.map_eq_some_iff.mp h
    subst e2
    obtain ⟨v, w, rfl, rx, ry⟩ := rss2 rs
    exact hr v w H Q (om gh own H x y v w d Q R rx ry e1 k)

/-! ### len -/
def mLen : Own → SV → Option D := fun own x => match dicV own x with
  | some (ks, _) => some (.int ks.length)
  | none => match x with
    | .d (.str z) => if z.length ≤ sizeLine then some (.int z.length) else none
    | x => (seqV own x).map fun xs => .int xs.length
abbrev rLenA (K : PySem.W.Frag) : List V → Hp → VK → Prop := fun xs H Q => (∃ x n, xs = [x] ∧ LenV K x H n ∧ Q (.int n) H) ∨ ∃ a, ∃ kvs : List (Key × V), xs = [V.ref a] ∧ Rd H a (.dK kvs) ∧ Q (.int kvs.length) H
theorem call_lenR {X : Cx} : CallR X (.builtin "len") (fun xs H Q => ∃ a, ∃ kvs : List (Key × V), xs = [V.ref a] ∧ Rd H a (.dK kvs) ∧ Q (.int kvs.length) H) := by
  intro pins s σ H xs us Q I r h
  obtain ⟨a, kvs, rfl, ha, q⟩ := h
  obtain ⟨u, rfl, ru⟩ := vals1 r
  cases ru
  exact d_len I ha fun t s' I' => ⟨.int kvs.length, H, I', ⟨t, rfl⟩, q⟩
theorem call_lenA {X : Cx} : CallR X (.builtin "len") (rLenA X.K) := call_len.or call_lenR
theorem ob_len {Y : Cy} : OB Y (rLenA Y.T.K) (m1 mLen) := by
  refine ob_1 (r := fun v H Q => rLenA Y.T.K [v] H Q) (fun gh own H x v z Q R rx h k => ?_) fun _ _ _ h => h
  unfold mLen at h
  have seqs : (seqV own x).map (fun xs => D.int xs.length) = some z → rLenA Y.T.K [v] H Q := fun h => by
    obtain ⟨xs, e1, e2⟩ := Option.map_eq_some_iff.mp h
    subst e2
    obtain ⟨a, vs, rfl, hs, hr⟩ := seq_of R rx e1
    have e := hr.length
    rw [e] at k
    refine .inl ⟨_, vs.length, rfl, ?_, k gh _ H R .rfl' (.int _)⟩
    rcases hs with hs | hs
    · exact .inl ⟨vs, hs, rfl⟩
    · exact .inr ⟨vs, hs, rfl⟩
  cases e : dicV own x with
  | some p =>
    obtain ⟨ks, xs⟩ := p
    rw [e] at h
    cases h
    obtain ⟨a, kvs, rfl, h1, h2, h3⟩ := dic_of R rx e
    subst h2
    rw [List.length_map] at k
    exact .inr ⟨a, kvs, rfl, h1, k gh _ H R .rfl' (.int _)⟩
  | none =>
    rw [e] at h
    cases x with
    | h k => exact seqs h
    | d x =>
      cases x with
      | str s =>
        have h : (if s.length ≤ sizeLine then some (D.int s.length) else none) = some z := h
        by_cases c : s.length ≤ sizeLine
        · rw [if_pos c] at h
          cases h
          obtain rfl := rep_str (show Rep Y.T gh.F (.str s) v from rx)
          exact .inl ⟨_, s.length, rfl, ⟨c, rfl⟩, k gh _ H R .rfl' (.int _)⟩
        · rw [if_neg c] at h; cases h
      | _ => exact seqs h

/-! ### tuple(), list() -/
def mTupC : Own → SV → Option D := fun own x => (seqV own x).map .tup
def mLstC : Own → SV → Option D := fun own x => (seqV own x).map .lst
theorem ob_tup {X : Cx} {Y : Cy} (hK : X.K = Y.T.K := by rfl) : OB Y (fun xs H Q => ∃ p ys, xs = [V.ref p] ∧ ((SqL X.K H p ys ∧ ∀ l, H l = none → Q (.ref l) (upd H l (.tup ys))) ∨ (SqT X.K H p ys ∧ Q (.ref p) H))) (m1 mTupC) := by
  refine ob_1 (r := fun v H Q => ∃ p ys, v = .ref p ∧ ((SqL X.K H p ys ∧ ∀ l, H l = none → Q (.ref l) (upd H l (.tup ys))) ∨ (SqT X.K H p ys ∧ Q (.ref p) H))) (fun gh own H x v z Q R rx h k => ?_) fun _ _ _ ⟨p, ys, e, q⟩ => ⟨p, ys, by rw [e], q⟩
  obtain ⟨xs, e1, e2⟩ := Option.map_eq_some_iff.mp h
  subst e2
  rw [hK]
  cases x with
  | d x =>
    cases x with
    | tup ys =>
      cases e1
      have rx' : Rep Y.T gh.F (.tup xs) v := rx
      cases rx' with
      | @tup p vs _ h1 h2 => exact ⟨p, vs, rfl, .inr ⟨SqT.le R.f h1, k gh _ H R .rfl' (.tup h1 h2)⟩⟩
    | lst ys =>
      obtain ⟨p, vs, rfl, h1, h2⟩ := lst_of R rx (xs := xs) e1
      refine ⟨p, vs, rfl, .inl ⟨SqL.of h1, fun q hq => ?_⟩⟩
      obtain ⟨R2, e2⟩ := R.new hq (.tup vs)
      exact k _ _ _ R2 e2 (.tup (SqT.of upd_same) (h2.le e2.F))
    | _ => cases e1
  | h kk =>
    obtain ⟨p, vs, rfl, h1, h2⟩ := lst_of R rx (xs := xs) e1
    refine ⟨p, vs, rfl, .inl ⟨SqL.of h1, fun q hq => ?_⟩⟩
    obtain ⟨R2, e2⟩ := R.new hq (.tup vs)
    exact k _ _ _ R2 e2 (.tup (SqT.of upd_same) (h2.le e2.F))
abbrev rLstOf (K : PySem.W.Frag) : List V → Hp → VK → Prop := fun xs H Q => ∃ p ys, xs = [.ref p] ∧ (SqL K H p ys ∨ SqT K H p ys) ∧ ∀ l, H l = none → Q (.ref l) (upd H l (.lst ys))
/-- list(x), a list that will change -/
def eLstCH (a : AM) : EM := a.bind fun xs => fun _ own => match xs with
  | [x] => match seqV own x with
    | some ds => some (.ok (.h own.length), own ++ [.lst ds])
    | none => none
  | _ => none
/-! ### sum, max, min, any, all, abs, int -/
def maxI : List Int → Option Int
  | [] => none
  | x :: xs => some (xs.foldl max x)
def minI : List Int → Option Int
  | [] => none
  | x :: xs => some (xs.foldl min x)
theorem foldl_max : ∀ (xs : List Int) (x : Int), (xs.foldl max x = x ∨ xs.foldl max x ∈ xs) ∧ x ≤ xs.foldl max x ∧ ∀ y ∈ xs, y ≤ xs.foldl max x
  | [], x => ⟨.inl rfl, Int.le_refl _, fun _ h => nomatch h⟩
  | z :: zs, x => by
    obtain ⟨h1, h2, h3⟩ := foldl_max zs (max x z)
    have e : (z :: zs).foldl max x = zs.foldl max (max x z) := rfl
    rw [e]
    have a1 : x ≤ max x z := Int.le_max_left _ _
    have a2 : z ≤ max x z := Int.le_max_right _ _
    refine ⟨?_, Int.le_trans a1 h2, fun y hy => ?_⟩
    · rcases h1 with h1 | h1
      · rw [h1]
        by_cases c : x ≤ z
        · exact .inr (by rw [show max x z = z from Int.max_eq_right c]; exact List.mem_cons_self)
        · exact .inl (Int.max_eq_left (by omega))
      · exact .inr (List.mem_cons_of_mem _ h1)
    · rcases List.mem_cons.mp hy with rfl | hy
      · exact Int.le_trans a2 h2
      · exact h3 y hy
theorem foldl_min : ∀ (xs : List Int) (x : Int), (xs.foldl min x = x ∨ xs.foldl min x ∈ xs) ∧ xs.foldl min x ≤ x ∧ ∀ y ∈ xs, xs.foldl min x ≤ y
  | [], x => ⟨.inl rfl, Int.le_refl _, fun _ h => nomatch h⟩
  | z :: zs, x => by
    obtain ⟨h1, h2, h3⟩ := foldl_min zs (min x z)
    have e : (z :: zs).foldl min x = zs.foldl min (min x z) := rfl
    rw [e]
    have a1 : min x z ≤ x := Int.min_le_left _ _
    have a2 : min x z ≤ z := Int.min_le_right _ _
    refine ⟨?_, Int.le_trans h2 a1, fun y hy => ?_⟩
    · rcases h1 with h1 | h1
      · rw [h1]
        by_cases c : x ≤ z
        · exact .inl (Int.min_eq_left c)
        · exact .inr (by rw [show min x z = z from Int.min_eq_right (by omega)]; exact List.mem_cons_self)
      · exact .inr (List.mem_cons_of_mem _ h1)
    · rcases List.mem_cons.mp hy with rfl | hy
      · exact Int.le_trans h2 a2
      · exact h3 y hy
theorem maxI_of {xs : List Int} {m : Int} (h : maxI xs = some m) : m ∈ xs ∧ ∀ y ∈ xs, y ≤ m := by
  cases xs with
  | nil => cases h
  | cons x xs =>
    cases h
    obtain ⟨h1, h2, h3⟩ := foldl_max xs x
    refine ⟨?_, fun y hy => ?_⟩
    · rcases h1 with h1 | h1
      · rw [h1]; exact List.mem_cons_self
      · exact List.mem_cons_of_mem _ h1
    · rcases List.mem_cons.mp hy with rfl | hy
      · exact h2
      · exact h3 y hy
theorem minI_of {xs : List Int} {m : Int} (h : minI xs = some m) : m ∈ xs ∧ ∀ y ∈ xs, m ≤ y := by
  cases xs with
  | nil => cases h
  | cons x xs =>
    cases h
    obtain ⟨h1, h2, h3⟩ := foldl_min xs x
    refine ⟨?_, fun y hy => ?_⟩
    · rcases h1 with h1 | h1
      · rw [h1]; exact List.mem_cons_self
      · exact List.mem_cons_of_mem _ h1
    · rcases List.mem_cons.mp hy with rfl | hy
      · exact h2
      · exact h3 y hy
def mInts (f : List Int → Option D) : Own → SV → Option D := fun own x => (lstV own x).bind fun ds => (intsD ds).bind f
def mSum := mInts fun is => some (.int is.sum)
def mMaxL := mInts fun is => (maxI is).map D.int
def mMinL := mInts fun is => (minI is).map D.int
def mAny : Own → SV → Option D := fun own x => (lstV own x).bind fun ds => (blsD ds).map fun bs => .bl (bs.any id)
def mAll : Own → SV → Option D := fun own x => (lstV own x).bind fun ds => (blsD ds).map fun bs => .bl (bs.all id)
theorem ints_of {Y : Cy} {gh : Gh} {own : Own} {H : Hp} {x : SV} {v : V} {ds : List D} {is : List Int} (R : HRel Y.T Y.B gh own H) (rx : RS Y.T gh own.length x v) (h1 : lstV own x = some ds) (h2 : intsD ds = some is) : ∃ a, v = .ref a ∧ SqL Y.T.K H a (is.map V.int) := by
  obtain ⟨a, vs, rfl, h3, h4⟩ := lst_of R rx h1
  rw [intsD_map h2] at h4
  rw [reps_ints h4] at h3
  exact ⟨a, rfl, SqL.of h3⟩
theorem bls_of {Y : Cy} {gh : Gh} {own : Own} {H : Hp} {x : SV} {v : V} {ds : List D} {is : List Bool} (R : HRel Y.T Y.B gh own H) (rx : RS Y.T gh own.length x v) (h1 : lstV own x = some ds) (h2 : blsD ds = some is) : ∃ a, v = .ref a ∧ SqL Y.T.K H a (is.map V.bl) := by
  obtain ⟨a, vs, rfl, h3, h4⟩ := lst_of R rx h1
  rw [blsD_map h2] at h4
  rw [reps_bls h4] at h3
  exact ⟨a, rfl, SqL.of h3⟩
theorem ob_maxL {Y : Cy} : OB Y (rMax Y.T.K) (m1 mMaxL) := by
  refine ob_1 (r := fun v H Q => rMax Y.T.K [v] H Q) (fun gh own H x v z Q R rx h k => ?_) fun _ _ _ h => h
  obtain ⟨ds, e1, h⟩ := Option.bind_eq_some_iff.mp h
  obtain ⟨is, e2, h⟩ := Option.bind_eq_some_iff.mp h
  obtain ⟨m, e3, e4⟩ := Option.map_eq_some_iff.mp h
  subst e4
  obtain ⟨a, rfl, hs⟩ := ints_of R rx e1 e2
  obtain ⟨q1, q2⟩ := maxI_of e3
  refine ⟨a, is, rfl, hs, List.length_pos_of_mem q1, fun m' h1 h2 => ?_⟩
  obtain rfl : m' = m := Int.le_antisymm (q2 _ h1) (h2 _ q1)
  exact k gh _ H R .rfl' (.int _)
theorem ob_minL {Y : Cy} : OB Y (rMin Y.T.K) (m1 mMinL) := by
  refine ob_1 (r := fun v H Q => rMin Y.T.K [v] H Q) (fun gh own H x v z Q R rx h k => ?_) fun _ _ _ h => h
  obtain ⟨ds, e1, h⟩ := Option.bind_eq_some_iff.mp h
  obtain ⟨is, e2, h⟩ := Option.bind_eq_some_iff.mp h
  obtain ⟨m, e3, e4⟩ := Option.map_eq_some_iff.mp h
  subst e4
  obtain ⟨a, rfl, hs⟩ := ints_of R rx e1 e2
  obtain ⟨q1, q2⟩ := minI_of e3
  refine ⟨a, is, rfl, hs, List.length_pos_of_mem q1, fun m' h1 h2 => ?_⟩
  obtain rfl : m' = m := Int.le_antisymm (h2 _ q1) (q2 _ h1)
  exact k gh _ H R .rfl' (.int _)
theorem ob_any {Y : Cy} : OB Y (rAny Y.T.K) (m1 mAny) := by
  refine ob_1 (r := fun v H Q => rAny Y.T.K [v] H Q) (fun gh own H x v z Q R rx h k => ?_) fun _ _ _ h => h
  obtain ⟨ds, e1, h⟩ := Option.bind_eq_some_iff.mp h
  obtain ⟨bs, e2, h⟩ := Option.map_eq_some_iff.mp h
  subst h
  obtain ⟨a, rfl, hs⟩ := bls_of R rx e1 e2
  exact ⟨a, bs, rfl, hs, k gh _ H R .rfl' (.bl _)⟩
theorem ob_all {Y : Cy} : OB Y (rAll Y.T.K) (m1 mAll) := by
  refine ob_1 (r := fun v H Q => rAll Y.T.K [v] H Q) (fun gh own H x v z Q R rx h k => ?_) fun _ _ _ h => h
  obtain ⟨ds, e1, h⟩ := Option.bind_eq_some_iff.mp h
  obtain ⟨bs, e2, h⟩ := Option.map_eq_some_iff.mp h
  subst h
  obtain ⟨a, rfl, hs⟩ := bls_of R rx e1 e2
  exact ⟨a, bs, rfl, hs, k gh _ H R .rfl' (.bl _)⟩
def mAbs : Own → SV → Option D := fun _ x => match x with
  | .d (.int i) => some (.int (if i < 0 then -i else i))
  | _ => none
def mInt : Own → SV → Option D := fun _ x => match x with
  | .d (.int i) => some (.int i)
  | .d (.bl b) => some (.int (if b then 1 else 0))
  | _ => none
theorem ob_abs {Y : Cy} : OB Y (fun xs H Q => ∃ i, xs = [V.int i] ∧ Q (.int (if i < 0 then -i else i)) H) (m1 mAbs) := by
  refine ob_1 (r := fun v H Q => ∃ i, v = V.int i ∧ Q (.int (if i < 0 then -i else i)) H) (fun gh own H x v z Q R rx h k => ?_) fun _ _ _ ⟨i, e, q⟩ => ⟨i, by rw [e], q⟩
  cases x with
  | h k => cases h
  | d x =>
    cases x with
    | int i => cases h; exact ⟨i, sv_int rx, k gh _ H R .rfl' (.int _)⟩
    | _ => cases h
theorem ob_int {Y : Cy} : OB Y (fun xs H Q => (∃ i, xs = [V.int i] ∧ Q (.int i) H) ∨ ∃ k, xs = [V.bl k] ∧ Q (.int (if k then 1 else 0)) H) (m1 mInt) := by
  refine ob_1 (r := fun v H Q => (∃ i, v = V.int i ∧ Q (.int i) H) ∨ ∃ k, v = V.bl k ∧ Q (.int (if k then 1 else 0)) H) (fun gh own H x v z Q R rx h k => ?_) fun _ _ _ q => ?_
  · cases x with
    | h k => cases h
    | d x =>
      cases x with
      | int i => cases h; exact .inl ⟨i, sv_int rx, k gh _ H R .rfl' (.int _)⟩
      | bl b => cases h; exact .inr ⟨b, rep_bl rx, k gh _ H R .rfl' (.int _)⟩
      | _ => cases h
  · rcases q with ⟨i, e, q⟩ | ⟨i, e, q⟩
    · exact .inl ⟨i, by rw [e], q⟩
    · exact .inr ⟨i, by rw [e], q⟩
def mMax2 := m2I (fun _ _ => true) fun i j => .int (if j > i then j else i)
def mMin2 := m2I (fun _ _ => true) fun i j => .int (if j < i then j else i)
theorem ob_max2 {Y : Cy} : OB Y (fun xs H Q => ∃ i j, xs = [V.int i, V.int j] ∧ Q (.int (if j > i then j else i)) H) (m2 mMax2) :=
  ob_2 (o2_I0 (g := fun i j => .int (if j > i then j else i)) fun _ _ _ => .int _) fun _ _ _ _ ⟨i, j, e1, e2, q⟩ => ⟨i, j, by rw [e1, e2], q⟩
theorem ob_min2 {Y : Cy} : OB Y (fun xs H Q => ∃ i j, xs = [V.int i, V.int j] ∧ Q (.int (if j < i then j else i)) H) (m2 mMin2) :=
  ob_2 (o2_I0 (g := fun i j => .int (if j < i then j else i)) fun _ _ _ => .int _) fun _ _ _ _ ⟨i, j, e1, e2, q⟩ => ⟨i, j, by rw [e1, e2], q⟩

/-! ### isinstance with a built-in class -/
def tyOf : D → Option Nat
  | .int _ => some 0
  | .bl _ => some 1
  | .str _ => some 2
  | .tup _ => some 3
  | .lst _ => some 4
  | .dic ks _ => if six ks = true then none else some 5
  | .non => some 6
  | _ => none
def isTy (t k : Nat) : Bool := t == k || (t == 1 && k == 0)
/-- isinstance(x, a built-in class); of data alone -/
def mIsi : Own → SV → SV → Option D := fun own x c => match c with
  | .d (.ty k) => if k < 7 then (datV own x).bind fun d => (tyOf d).map fun t => .bl (isTy t k) else none
  | _ => none
theorem kit_tys : ∀ t k : Nat, t < 7 → k < 7 → kitB (tyName t) (tyName k) = some (isTy t k) := by
  intro t k ht hk
  have : ∀ t : Fin 7, ∀ k : Fin 7, kitB (tyName t) (tyName k) = some (isTy t k) := by decide +kernel
  exact this ⟨t, ht⟩ ⟨k, hk⟩
theorem tyOf_dic {ks xs : List D} {t : Nat} (h : tyOf (.dic ks xs) = some t) : six ks = false ∧ t = 5 := by
  have h : (if six ks = true then none else some 5) = some t := h
  cases c : six ks with
  | true => rw [c, if_pos rfl] at h; cases h
  | false => rw [c, if_neg (by decide)] at h; cases h; exact ⟨rfl, rfl⟩
theorem tyOf_lt {d : D} {t : Nat} (h : tyOf d = some t) : t < 7 := by
  cases d
  case dic ks xs => rw [(tyOf_dic h).2]; decide
  all_goals (cases h <;> decide)
theorem tyX_of {T : Tb} {B : Hp} {g : Gh} {own : Own} {H : Hp} {s : SV} {v : V} {d : D} {t : Nat} (R : HRel T B g own H) (r : RS T g own.length s v) (h : datV own s = some d) (e : tyOf d = some t) : TyX T.K H v (.type (tyName t)) := by
  have lists : ∀ {xs : List D}, lstV own s = some xs → TyX T.K H v (.type "list") := fun {xs} h => by
    obtain ⟨a, vs, rfl, h1, _⟩ := lst_of R r h
    exact .base (.lst h1)
  have dicts : ∀ {ks xs : List D}, dicV own s = some (ks, xs) → TyX T.K H v (.type "dict") := fun {ks xs} h => by
    obtain ⟨a, kvs, rfl, h1, _⟩ := dic_of R r h
    rcases h1 with h1 | ⟨o, h1⟩
    · exact .base (.dK h1)
    · exact .fDict h1
  cases s with
  | d x =>
    have ex : x = d := Option.some.inj h
    subst ex
    have r' : Rep T g.F x v := r
    cases x with
    | non => cases e; cases r'; exact .base .non
    | bl b => cases e; cases r'; exact .base (.bl b)
    | int i => cases e; cases r'; exact .base (.int i)
    | str z => cases e; cases r'; exact .base (.str z)
    | tup xs =>
      cases e
      cases r' with
      | tup h1 h2 =>
        rcases SqT.le R.f h1 with (h1 | ⟨o, h1⟩) | ⟨o, its, n, h1, h2, _⟩
        · exact .base (.tup h1)
        · exact .fTuple h1
        · exact .kTuple h1 h2
    | lst xs => cases e; exact lists (xs := xs) rfl
    | dic ks xs =>
      obtain ⟨c6, rfl⟩ := tyOf_dic e
      exact dicts (ks := unM ks) (xs := xs) (by show (if six ks = true then none else some (unM ks, xs)) = _; rw [c6]; rfl)
    | _ => cases e
  | h k =>
    have h : (match own[k]? with | some (.lst xs) => some (D.lst xs) | some (.dic ks xs) => some (D.dic ks xs) | _ => none) = some d := h
    cases eo : own[k]? with
    | none => rw [eo] at h; cases h
    | some o =>
      rw [eo] at h
      cases o with
      | lst xs => cases h; cases e; exact lists (xs := xs) (by show (match own[k]? with | some (.lst xs) => some xs | _ => none) = _; rw [eo])
      | dic ks xs => cases h; obtain ⟨_, rfl⟩ := tyOf_dic e; exact dicts (ks := ks) (xs := xs) (by show (match own[k]? with | some (.dic ks xs) => some (ks, xs) | _ => none) = _; rw [eo])
      | _ => cases h
theorem ob_isi {Y : Cy} : OB Y (rIsi Y.T.K) (m2 mIsi) := by
  refine ob_2 (r := fun v w H Q => rIsi Y.T.K [v, w] H Q) (fun gh own H x c v w z Q R rx rc h k => ?_) fun _ _ _ _ h => h
  unfold mIsi at h
  cases c with
  | h k => cases h
  | d c =>
    cases c with
    | ty kk =>
      have h : (if kk < 7 then (datV own x).bind fun d => (tyOf d).map fun t => D.bl (isTy t kk) else none) = some z := h
      by_cases c : kk < 7
      · rw [if_pos c] at h
        obtain ⟨d, e1, h⟩ := Option.bind_eq_some_iff.mp h
        obtain ⟨t, e2, e3⟩ := Option.map_eq_some_iff.mp h
        subst e3
        have rc : Rep Y.T gh.F (.ty kk) w := rc
        cases rc
        exact ⟨v, _, _, _, isTy t kk, rfl, .ty _, tyX_of R rx e1 e2, kit_ty (kit_tys t kk (tyOf_lt e2) c), k gh _ H R .rfl' (.bl _)⟩
      · rw [if_neg c] at h; cases h
    | _ => cases h
end Gx
end T_GxR5
section T_GxR6
set_option Elab.async false
set_option linter.all false
set_option maxRecDepth 100000
set_option maxHeartbeats 4000000
namespace Gx
open PySem PySem.Spec PyProof.Rows L2

/-! ## statements -/
def sNil : SM := fun sd own => some (.nx sd own)
def sSeq (f g : SM) : SM := fun sd own => match f sd own with
  | some (.nx sd' own') => g sd' own'
  | r => r
def sExpr (f : EM) : SM := SM.bind f fun _ => sNil
def sRet (f : EM) : SM := SM.bind f fun x => fun _ own => some (.rt x own)
def sRetN : SM := fun _ own => some (.rt (.d .non) own)
def sBrk : SM := fun sd own => some (.bk sd own)
def sCnt : SM := fun sd own => some (.ct sd own)
def sIf (c : TM) (f g : SM) : SM := SM.bind c fun b => match b with
  | true => f
  | false => g
def sSet (i : Nat) (f : EM) : SM := SM.bind f fun x => fun sd own => some (.nx (sd.set i (some x)) own)
/-- several names at once -/
def setL : List Nat → List SV → Sl → Option Sl
  | [], [], sd => some sd
  | i :: is, x :: xs, sd => setL is xs (sd.set i (some x))
  | _, _, _ => none
def sPar (is : List Nat) (a : AM) : SM := SM.bind a fun xs => fun sd own => (setL is xs sd).map fun sd' => .nx sd' own
/-- a, b = e, e a tuple of data -/
def sUnp (is : List Nat) (f : EM) : SM := SM.bind f fun x => fun sd own => match x with
  | .d (.tup ds) => (setL is (ds.map SV.d) sd).map fun sd' => .nx sd' own
  | _ => none
/-- name op= e, ints -/
def sAug (g : Int → Int → Int) (i : Nat) (f : EM) : SM := fun sd own => match sd[i]? with
  | some (some (.d (.int k))) => SM.bind f (fun y => fun sd own => match y with
    | .d (.int m) => some (.nx (sd.set i (some (.d (.int (g k m))))) own)
    | _ => none) sd own
  | _ => none
/-- o[i] = v, o a list of one's own -/
def setIx (own : Own) (o i : SV) (v : D) : Option Own := match o, i with
  | .h k, .d (.int z) => match own[k]? with
    | some (.lst xs) => (ixN xs.length z).map fun j => own.set k (.lst (xs.set j v))
    | _ => none
  | _, _ => none
def sPutL (o i v : EM) : SM := SM.bind v fun x => SM.bind o fun a => SM.bind i fun b => fun sd own => match x with
  | .d d => (setIx own a b d).map fun own' => .nx sd own'
  | _ => none
/-- never come to -/
def sNo : SM := fun _ _ => none
def eNo : EM := fun _ _ => none

section
variable {X : Cx} {Y : Cy} {pos : Pos} {a b c : Expr} {f g : EM} {t : TM} {st : Stmt} {l m : List Stmt} {p q : SM}
theorem rss_nil : PSs X [] (trS Y sNil) := PSs.imp pss_nil fun D σ H q => by
  obtain ⟨gh, sd, own, R, S, r, e, k⟩ := q
  cases e
  exact k gh σ H R S .rfl'
theorem seq_at {Dn : Ends} {σ : L2.St} {H : Hp} (h : trS Y (sSeq p q) Dn σ H) : trS Y p { Dn with nx := trS Y q Dn } σ H := by
  obtain ⟨gh, sd, own, R, S, r, e, k⟩ := h
  refine ⟨gh, sd, own, R, S, ?_⟩
  unfold sSeq at e
  cases ep : p sd own with
  | none => rw [ep] at e; cases e
  | some r0 =>
    rw [ep] at e
    refine ⟨r0, ep, ?_⟩
    cases r0 with
    | nx sd' own' => exact fun g' σ' H' R' S' e' => ⟨g', sd', own', R', S', r, e, k.shift e'⟩
    | rt s own' => cases e; exact k
    | bk sd' own' => cases e; exact k
    | ct sd' own' => cases e; exact k
    | ex c fs sd' own' => cases e; exact k
theorem rss_cons (h1 : PS X st (trS Y p)) (h2 : PSs X l (trS Y q)) : PSs X (st :: l) (trS Y (sSeq p q)) := PSs.imp (pss_cons h1 h2) fun D σ H h => seq_at h
theorem rss_one (h1 : PS X st (trS Y p)) : PSs X [st] (trS Y p) := pss_one h1
theorem sat_nx {g' : Gh} {sd sd' : Sl} {own own' : Own} {Dn : Ends} {f : SM} (h : SAt Y g' sd own Dn f) (e : f sd own = some (.nx sd' own')) : ∀ g2 σ' H', HRel Y.T Y.B g2 own' H' → SRel Y.T g2 own'.length sd' σ' → GExt Y.B g' own.length g2 own'.length → Dn.nx σ' H' := by
  obtain ⟨r, e1, k⟩ := h
  rw [e] at e1
  cases e1
  exact k
theorem rs_expr (h : PE X a (trE Y f)) (hs : swapsWith a none pos.line X.env = pure false := by rfl) : PS X (.Expr a pos) (trS Y (sExpr f)) := PS.imp (ps_expr h hs) fun D σ H q => by
  obtain ⟨gh, sd, own, R, S, q⟩ := q
  refine s_bind R S q fun g1 o1 x v H1 R1 S1 e1 rx q1 => ?_
  exact sat_nx q1 rfl g1 σ H1 R1 S1 .rfl'
theorem rs_ret (h : PE X a (trE Y f)) : PS X (.Return (some a) pos) (trS Y (sRet f)) := PS.imp (ps_ret h) fun D σ H q => by
  obtain ⟨gh, sd, own, R, S, q⟩ := q
  refine s_bind R S q fun g1 o1 x v H1 R1 S1 e1 rx q1 => ?_
  obtain ⟨r, e, k⟩ := q1
  cases e
  exact k g1 v H1 R1 .rfl' rx
theorem rs_if (hc : PT X c (trT Y t)) (ha : PSs X l (trS Y p)) (hb : PSs X m (trS Y q)) : PS X (.If c l m pos) (trS Y (sIf t p q)) := PS.imp (ps_if hc ha hb) fun D σ H q => by
  obtain ⟨gh, sd, own, R, S, q⟩ := q
  refine s_bind R S q fun g1 o1 x v H1 R1 S1 e1 rx q1 => ?_
  obtain rfl : x = v := rx
  cases x with
  | true => rw [if_pos rfl]; exact ⟨g1, sd, o1, R1, S1, q1⟩
  | false => rw [if_neg (by decide)]; exact ⟨g1, sd, o1, R1, S1, q1⟩
theorem rs_set {i : Nat} {x : Str} {pos' : Pos} (hN : X.N.Nodup) (h : PE X a (trE Y f)) (hi : X.N[i]? = some x := by rfl) (hx : Loc X.env.scope x := by first | exact Or.inl rfl | exact Or.inr rfl) (hs : swapsWith a (some (.Name x pos')) pos.line X.env = pure false := by rfl)
    (hf : X.fn x = true ∨ X.env.scope.names.lookup x = some .local := by first | exact .inl rfl | exact .inr rfl) : PS X (.Assign [.Name x pos'] a pos) (trS Y (sSet i f)) := PS.imp (ps_set hN hi hx h hs hf) fun D σ H q => by
  obtain ⟨gh, sd, own, R, S, q⟩ := q
  refine s_bind R S q fun g1 o1 x v H1 R1 S1 e1 rx q1 => ?_
  exact sat_nx q1 rfl g1 _ H1 R1 (S1.set rx) .rfl'
theorem rs_par {i j : Nat} {x y : Str} {al : AM} {px py pt : Pos} {kt k2 pt2} (hN : X.N.Nodup) (ha : PA X [a, b] (trA Y al)) (hc : X.calm = true := by rfl) (hi : X.N[i]? = some x := by rfl) (hj : X.N[j]? = some y := by rfl) (hij : i ≠ j := by decide)
    (hx : X.env.scope.names.lookup x = some .local := by rfl) (hy : X.env.scope.names.lookup y = some .local := by rfl)
    (hw : swappedStores [.Tuple [.Name x px, .Name y py] kt pt] (.Tuple [a, b] k2 pt2) X.env = pure (some [x, y]) := by rfl)
    (hs : swapsWithSole [.Tuple [.Name x px, .Name y py] kt pt] (.Tuple [a, b] k2 pt2) pos.line X.env = pure false := by rfl) :
    PS X (.Assign [.Tuple [.Name x px, .Name y py] kt pt] (.Tuple [a, b] k2 pt2) pos) (trS Y (sPar [i, j] al)) := PS.imp (ps_par hc hN hi hj hij hx hy ha hw hs) fun D σ H q => by
  obtain ⟨gh, sd, own, R, S, q⟩ := q
  refine s_bind R S q fun g1 o1 xs vs H1 R1 S1 e1 rs q1 => ?_
  obtain ⟨r, e, k⟩ := q1
  match xs, rs, e with
  | [s1, s2], rs, e =>
    obtain ⟨v, w, rfl, r1, r2⟩ := rss2 rs
    cases e
    exact ⟨v, w, rfl, k g1 _ H1 R1 ((S1.set r1).set r2) .rfl'⟩
  | [], _, e => cases e
  | [_], _, e => cases e
  | _ :: _ :: _ :: _, _, e => cases e
/-! several names -/
def gSets : List Nat → TGs
  | [] => gNil
  | i :: is => gCons (gName i) (gSets is)
theorem rs_putL {po : Pos} {o i : Expr} {fo fi : EM} (ho : PE X o (trE Y fo)) (hi : PE X i (trE Y fi)) (hv : PE X a (trE Y f)) (hs : swapsWithSole [.Subscript o i po] a pos.line X.env = pure false := by rfl) (hw : swappedStores [.Subscript o i po] a X.env = pure none := by rfl)
    (h1 : (assignEach [.Subscript o i po] X.env).map (·.2) = [assign (.Subscript o i po) X.env] := by rfl)
    (ha : ∀ v, assign (.Subscript o i po) X.env v = (do
      let ov ← holding [v] (eval o X.env)
      let iv ← holding [v, ov] (eval i X.env)
      standAt po
      holding [v, ov, iv] (setItem ov iv v)
      release [v, ov, iv] []) := by intro _; rfl) : PS X (.Assign [.Subscript o i po] a pos) (trS Y (sPutL fo fi f)) := PS.imp (ps_asg hv (pg_sub ho hi set_list ha) hs hw h1) fun D σ H q => by
  obtain ⟨gh, sd, own, R, S, q⟩ := q
  refine s_bind R S q fun g1 o1 x v H1 R1 S1 e1 rx q1 => ?_
  refine s_bind R1 S1 q1 fun g2 o2 y w H2 R2 S2 e2 ry q2 => ?_
  refine s_bind R2 S2 q2 fun g3 o3 z u H3 R3 S3 e3 rz q3 => ?_
  have rx3 := (rx.ext e2).ext e3
  have ry3 := ry.ext e3
  obtain ⟨r, e, k⟩ := q3
  cases x with
  | h kk => cases e
  | d d =>
    obtain ⟨own', e4, e5⟩ := Option.map_eq_some_iff.mp e
    subst e5
    cases y with
    | d y => cases e4
    | h kk =>
      cases z with
      | h k2 => cases e4
      | d z =>
        cases z with
        | int i =>
          have e4 : (match o3[kk]? with | some (.lst xs) => (ixN xs.length i).map fun j => o3.set kk (.lst (xs.set j d)) | _ => none) = some own' := e4
          cases eo : o3[kk]? with
          | none => rw [eo] at e4; cases e4
          | some ob =>
            rw [eo] at e4
            cases ob with
            | lst xs =>
              obtain ⟨j, e6, e7⟩ := Option.map_eq_some_iff.mp e4
              subst e7
              obtain ⟨vs, h1, h2⟩ := R3.o kk _ eo
              have hw := ry3.2
              subst hw
              obtain rfl := sv_int rz
              refine ⟨g3.ρ kk, vs, i, j, rfl, rfl, h1, by rw [← h2.length]; exact e6, ?_⟩
              have R4 := R3.put (ho := .lst (vs.set j v)) (o' := .lst (xs.set j d)) eo rfl ⟨_, upd_same, h2.set j rx3⟩
              exact k g3 σ _ R4 (by rw [List.length_set]; exact S3) (by rw [List.length_set]; exact .rfl')
            | _ => cases e4
        | _ => cases e4
/-- a ghost's step: the list in slot i is frozen -/
def sFrz (i : Nat) (p : SM) : SM := fun sd own => match sd[i]? with
  | some (some (.h k)) => match own[k]? with
    | some (.lst xs) => p (sd.set i (some (.d (.lst xs)))) (own.set k .dead)
    | some (.dic ks xs) => p (sd.set i (some (.d (.dic ks xs)))) (own.set k .dead)
    | _ => none
  | _ => none
theorem set_same {α : Type} : ∀ {l : List α} {i : Nat} {x : α}, l[i]? = some x → l.set i x = l
  | [], _, _, h => by simp at h
  | _ :: _, 0, _, h => by simp at h; subst h; rfl
  | a :: l, i + 1, x, h => by
    rw [List.set_cons_succ, set_same (by simpa using h)]
end
end Gx
end T_GxR6
section T_GxR7
set_option Elab.async false
set_option linter.all false
set_option maxRecDepth 100000
set_option maxHeartbeats 4000000
namespace Gx
open PySem PySem.Spec PyProof.Rows L2

/-! ## methods that change a list of one's own -/
abbrev MM := Own → List D → List SV → Option (D × List D)
def eMut (mm : MM) (f : EM) (a : AM) : EM := f.bind fun x => (M.ask fun own => lstV own x).bind fun _ => a.bind fun ys => fun _ own => match x with
  | .h k => match own[k]? with
    | some (.lst xs) => match mm own xs ys with
      | some (z, xs') => some (.ok (.d z), own.set k (.lst xs'))
      | none => none
    | _ => none
  | _ => none
def OMt (Y : Cy) (r : V → List V → Hp → VK → Prop) (mm : MM) : Prop := ∀ (gh : Gh) (own : Own) (H : Hp) (p : Addr) (xs : List D) (vs : List V) (ys : List SV) (ws : List V) (z : D) (xs' : List D) (Q : VK),
  HRel Y.T Y.B gh own H → H p = some (.lst vs) → Reps Y.T gh.F xs vs → RSs Y.T gh own.length ys ws → mm own xs ys = some (z, xs') →
  (∀ u vs', Reps Y.T gh.F xs' vs' → Rep Y.T gh.F z u → Q u (upd H p (.lst vs'))) → r (.ref p) ws H Q
theorem ask_at {α γ δ : Type} {Y : Cy} {relC : Gh → Nat → γ → δ → Prop} {gh : Gh} {sd : Sl} {own : Own} {σ : L2.St} {Q : δ → Hp → Prop} {f : Own → Option α} {k : α → M γ} (h : At Y relC gh sd own σ Q ((M.ask f).bind k)) : ∃ x, f own = some x ∧ At Y relC gh sd own σ Q (k x) := by
  obtain ⟨r, own', e, q⟩ := h
  unfold M.bind M.ask at e
  cases ef : f own with
  | none => simp only [ef] at e; cases e
  | some x => simp only [ef] at e; exact ⟨x, rfl, r, own', e, q⟩
theorem at_mut {Y : Cy} {K : PySem.W.Frag} {r : V → List V → Hp → VK → Prop} {mm : MM} {f : EM} {al : AM} (om : OMt Y r mm) {σ : L2.St} {H : Hp} {Q : VK} (q : trE Y (eMut mm f al) σ H Q) : tBM K "list" r (trE Y f) (trA Y al) σ H Q := by
  obtain ⟨gh, sd, own, R, S, q⟩ := q
  refine at_bind R S q fun g1 o1 x v H1 R1 S1 e1 rx q1 => ?_
  obtain ⟨xs0, ex0, q1⟩ := ask_at q1
  obtain ⟨a0, vs0, rfl, h0, _⟩ := lst_of R1 rx ex0
  refine ⟨.inl ⟨rfl, _, SqL.of h0⟩, ?_⟩
  refine at_bind R1 S1 q1 fun g2 o2 ys ws H2 R2 S2 e2 rs q2 => ?_
  obtain ⟨r0, own', e, k⟩ := q2
  cases x with
  | d x => cases e
  | h kk =>
    have rx2 := rx.ext e2
    cases eo : o2[kk]? with
    | none => simp only [eo] at e; cases e
    | some ob =>
      cases ob with
      | lst xs =>
        simp only [eo] at e
        cases em : mm o2 xs ys with
        | none => simp only [em] at e; cases e
        | some p =>
          obtain ⟨z, xs'⟩ := p
          simp only [em] at e
          cases e
          obtain ⟨vs, h1, h2⟩ := R2.o kk _ eo
          have ea : a0 = g2.ρ kk := V.ref.inj rx2.2
          subst ea
          refine om g2 o2 H2 (g2.ρ kk) xs vs ys ws z xs' Q R2 h1 h2 rs em fun u vs' r1 r2 => ?_
          have R4 := R2.put (ho := .lst vs') (o' := .lst xs') eo rfl ⟨_, upd_same, r1⟩
          exact k g2 u _ R4 (by rw [List.length_set]; exact .rfl') r2
      | _ => simp only [eo] at e; cases e
section
variable {X : Cx} {Y : Cy} {apos cpos : Pos} {o e : Expr} {es : List Expr} {name : Str} {id : String} {r : V → List V → Hp → VK → Prop} {mm : MM} {f : EM} {al : AM}
theorem r_mut (slot : Slot "list" name id) (hty : typeOf (.builtin id) = pure (.type "method_descriptor")) (hm : MtR X id r) (om : OMt Y r mm) (ho : PE X o (trE Y f)) (ha : PA X (e :: es) (trA Y al))
    (hbase : attributeBase o name X.env (eval o X.env) = eval o X.env := by rfl)
    (hfew : ((backTo cpos (starEach (e :: es) X.env)).all (fun x => !x.1) && (backToKw cpos (keywordEach [] X.env)).all (fun x => x.1.isSome)
      && decide ((e :: es).length + ([] : List Keyword).length + (if ([] : List Keyword).isEmpty then 0 else 1) < 30)) = true := by rfl)
    (hline : (apos.endLine == cpos.line) = true := by rfl) (hs : starEach (e :: es) X.env = (false, eval e X.env) :: starEach es X.env := by rfl) (hplain : (backTo cpos (starEach es X.env)).any (·.1) = false := by rfl) :
    PE X (.Call (.Attribute o name apos) (e :: es) [] cpos) (trE Y (eMut mm f al)) :=
  PE.imp (pe_bm PySem.F.plainAttrs_list slot hty hm ho ha hbase hfew hline hs hplain) fun _ _ _ q => at_mut om q
end
def mmApp : MM := fun _ xs ys => match ys with
  | [.d y] => if xs.length < sizeLine then some (.non, xs ++ [y]) else none
  | _ => none
theorem om_app {Y : Cy} : OMt Y rAppend mmApp := by
  intro gh own H p xs vs ys ws z xs' Q R h1 h2 rs e k
  match ys, rs, e with
  | [.d y], rs, e =>
    obtain ⟨w, rfl, rw'⟩ := rss1 rs
    have e : (if xs.length < sizeLine then some (D.non, xs ++ [y]) else none) = some (z, xs') := e
    by_cases c : xs.length < sizeLine
    · rw [if_pos c] at e
      cases e
      exact ⟨p, vs, w, rfl, rfl, h1, by rw [← h2.length]; exact c, k _ _ (h2.snoc rw') .non⟩
    · rw [if_neg c] at e; cases e
def mmExt : MM := fun own xs ys => match ys with
  | [y] => (lstV own y).bind fun zs => if xs.length + zs.length ≤ sizeLine then some (.non, xs ++ zs) else none
  | _ => none
theorem om_ext {Y : Cy} : OMt Y rExtend mmExt := by
  intro gh own H p xs vs ys ws z xs' Q R h1 h2 rs e k
  match ys, rs, e with
  | [y], rs, e =>
    obtain ⟨w, rfl, rw'⟩ := rss1 rs
    obtain ⟨zs, e1, e⟩ := Option.bind_eq_some_iff.mp e
    obtain ⟨b, us, rfl, h3, h4⟩ := lst_of R rw' e1
    by_cases c : xs.length + zs.length ≤ sizeLine
    · rw [if_pos c] at e
      cases e
      exact ⟨p, b, vs, us, rfl, rfl, h1, h3, by rw [← h2.length, ← h4.length]; exact c, k _ _ (h2.append h4) .non⟩
    · rw [if_neg c] at e; cases e
theorem Reps.eraseIdx {T : Tb} {F : Hp} : ∀ {ds : List D} {vs : List V} (i : Nat), Reps T F ds vs → Reps T F (ds.eraseIdx i) (vs.eraseIdx i)
  | _, _, _, .nil => .nil
  | _, _, 0, .cons _ t => t
  | _, _, i + 1, .cons h t => .cons h (t.eraseIdx i)
def mmPopAt : MM := fun _ xs ys => match ys with
  | [.d (.int i)] => if -(2 ^ 63) ≤ i ∧ i < 2 ^ 63 then (seqIndex? i xs.length).bind fun k => (xs[k]?).map fun y => (y, xs.eraseIdx k) else none
  | _ => none
/-! ## for -/
abbrev IM := M (List D)
/-- what an iterator yields -/
structure Walks (T : Tb) (J : It) (g0 : Gh) (xs : List D) : Prop where
  go : ∀ (B : Hp) (i : Nat) (g : Gh) (own : Own) (H : Hp), HRel T B g own H → Le g0.F g.F → i < xs.length → J.go i H
  stop : ∀ (B : Hp) (i : Nat) (g : Gh) (own : Own) (H : Hp), HRel T B g own H → Le g0.F g.F → xs.length ≤ i → J.stop i H
  yld : ∀ (B : Hp) (i : Nat) (g : Gh) (own : Own) (H : Hp) (x : V) (H' : Hp) (d : D), HRel T B g own H → Le g0.F g.F → J.yld i H x H' → xs[i]? = some d →
    ∃ g2, HRel T B g2 own H' ∧ GExt B g own.length g2 own.length ∧ Rep T g2.F d x
def trI (Y : Cy) (f : IM) : TI := trM Y (fun g _ xs J => Walks Y.T J g xs) f
theorem PI.imp {X : Cx} {tg e : Expr} {t t' : TI} (h : PI X tg e t) (i : ∀ σ H Q, t' σ H Q → t σ H Q) : PI X tg e t' := ⟨fun pins s σ H Q I q => h.run pins s σ H Q I (i σ H Q q)⟩
theorem PI.or {X : Cx} {tg e : Expr} {t t' : TI} (h : PI X tg e t) (h' : PI X tg e t') : PI X tg e (fun σ H Q => t σ H Q ∨ t' σ H Q) := ⟨fun pins s σ H Q I q => q.elim (h.run pins s σ H Q I) (h'.run pins s σ H Q I)⟩
/-- a list or a tuple of data -/
def iSeq (f : EM) : IM := f.bind fun x => match x with
  | .d (.lst xs) => M.ret xs
  | .d (.tup xs) => M.ret xs
  | _ => M.fail
section
variable {X : Cx} {Y : Cy} {tg a b c : Expr} {f : EM}
theorem ri_seq (h : PE X a (trE Y f)) (hK : X.K = Y.T.K := by rfl) : PI X tg a (trI Y (iSeq f)) := by
  refine PI.imp (PI.or (pi_list h) (pi_tup h)) fun σ H Q q => ?_
  obtain ⟨gh, sd, own, R, S, q⟩ := q
  obtain ⟨r, own', e, q0⟩ := id q
  unfold iSeq M.bind at e
  cases ef : f sd own with
  | none => rw [ef] at e; cases e
  | some p =>
    obtain ⟨r0, o1⟩ := p
    rw [ef] at e
    cases r0 with
    | ex k fs => cases e; exact .inl ⟨gh, sd, own, R, S, _, _, ef, q0⟩
    | ok x =>
      cases x with
      | h k => cases e
      | d x =>
        cases x with
        | lst xs =>
          cases e
          refine .inl ⟨gh, sd, own, R, S, _, _, ef, fun g' v H' R' e' rx => ?_⟩
          have rx : Rep Y.T g'.F (.lst xs) v := rx
          cases rx with
          | @lst p vs _ h1 h2 =>
            rw [hK]
            refine ⟨p, rfl, ⟨vs, SqL.of (R'.f _ _ h1)⟩, q0 g' _ H' R' e' ⟨fun _ i g own H R l hi => ?_, fun _ i g own H R l hi => ?_, fun _ i g own H x H2 d R l y hd => ?_⟩⟩
            · obtain ⟨v, hv⟩ : ∃ v, vs[i]? = some v := ⟨vs[i]'(by rw [← h2.length]; exact hi), by simp⟩
              exact ⟨vs, v, SqL.of (R.f _ _ (l _ _ h1)), hv⟩
            · exact ⟨vs, SqL.of (R.f _ _ (l _ _ h1)), by rw [← h2.length]; exact hi⟩
            · obtain ⟨e1, e2⟩ := y
              subst e1
              obtain ⟨v, hv, rv⟩ := h2.get hd
              have := e2 vs (SqL.of (R.f _ _ (l _ _ h1)))
              rw [hv] at this
              cases this
              exact ⟨g, R, .rfl', rv.le l⟩
        | tup xs =>
          cases e
          refine .inr ⟨gh, sd, own, R, S, _, _, ef, fun g' v H' R' e' rx => ?_⟩
          have rx : Rep Y.T g'.F (.tup xs) v := rx
          cases rx with
          | @tup p vs _ h1 h2 =>
            rw [hK]
            refine ⟨p, rfl, ⟨vs, SqT.le R'.f h1⟩, q0 g' _ H' R' e' ⟨fun _ i g own H R l hi => ?_, fun _ i g own H R l hi => ?_, fun _ i g own H x H2 d R l y hd => ?_⟩⟩
            · obtain ⟨v, hv⟩ : ∃ v, vs[i]? = some v := ⟨vs[i]'(by rw [← h2.length]; exact hi), by simp⟩
              exact ⟨vs, v, SqT.le R.f (SqT.le l h1), hv⟩
            · exact ⟨vs, SqT.le R.f (SqT.le l h1), by rw [← h2.length]; exact hi⟩
            · obtain ⟨e1, e2⟩ := y
              subst e1
              obtain ⟨v, hv, rv⟩ := h2.get hd
              have := e2 vs (SqT.le R.f (SqT.le l h1))
              rw [hv] at this
              cases this
              exact ⟨g, R, .rfl', rv.le l⟩
        | _ => cases e
/-- range: the items -/
def rgD (a : Int) (n : Nat) : List D := (List.range n).map fun i => .int (a + (i : Nat))
def rgOk (a b : Int) : Bool := decide (-(2 ^ 62) ≤ a ∧ a < 2 ^ 62 ∧ -(2 ^ 62) ≤ b ∧ b < 2 ^ 62)
def iRg1 (a : AM) : IM := a.bind fun xs => match xs with
  | [.d (.int j)] => if rgOk 0 j = true then M.ret (rgD 0 j.toNat) else M.fail
  | _ => M.fail
def iRg2 (a : AM) : IM := a.bind fun xs => match xs with
  | [.d (.int i), .d (.int j)] => if rgOk i j = true then M.ret (rgD i (j - i).toNat) else M.fail
  | _ => M.fail
theorem walks_rg {g0 : Gh} {lo : Int} {n : Nat} : Walks Y.T (Itr lo n) g0 (rgD lo n) := by
  have hl : (rgD lo n).length = n := by unfold rgD; simp
  refine ⟨fun _ i g own H R l hi => by rw [hl] at hi; exact hi, fun _ i g own H R l hi => by rw [hl] at hi; exact hi, fun _ i g own H x H2 d R l y hd => ?_⟩
  obtain ⟨e1, e2⟩ := y
  subst e1 e2
  unfold rgD at hd
  rw [List.getElem?_map] at hd
  have hi : i < n := by
    by_cases c : i < n
    · exact c
    · rw [List.getElem?_eq_none (by simp; omega)] at hd; cases hd
  rw [List.getElem?_range hi] at hd
  cases hd
  exact ⟨g, R, .rfl', .int _⟩
theorem ri_rg1 {p pos : Pos} {al : AM} (hm : X.mg "range" = none) (ha : PA X [a] (trA Y al)) (hg : Gl X "range" := by rfl) (hs : starEach [a] X.env = [(false, eval a X.env)] := by rfl) : PI X tg (.Call (.Name "range" p) [a] [] pos) (trI Y (iRg1 al)) := by
  refine PI.imp (pi_range1 hg hm ha hs) fun σ H Q q => ?_
  obtain ⟨gh, sd, own, R, S, q⟩ := q
  refine at_bind R S q fun g1 o1 xs vs H1 R1 S1 e1 rs q1 => ?_
  match xs, rs, q1 with
  | [.d (.int j)], rs, q1 =>
    obtain ⟨v, rfl, rv⟩ := rss1 rs
    obtain rfl := sv_int rv
    have q1 : At Y _ g1 sd o1 σ Q (if rgOk 0 j = true then M.ret (rgD 0 j.toNat) else M.fail) := q1
    by_cases c : rgOk 0 j = true
    · rw [if_pos c] at q1
      obtain ⟨c1, c2, c3, c4⟩ := of_decide_eq_true c
      exact ⟨j, rfl, c3, c4, at_ret q1 g1 _ H1 R1 .rfl' walks_rg⟩
    · rw [if_neg c] at q1; exact (at_fail q1).elim
end
/-- a target -/
abbrev GM := D → Sl → Option Sl
def tgN (i : Nat) : GM := fun d sd => some (sd.set i (some (.d d)))
def tgU (is : List Nat) : GM := fun d sd => match d with
  | .tup ds => setL is (ds.map SV.d) sd
  | _ => none
/-- only the slots at is differ -/
def Upd (is : List Nat) (σ σ' : L2.St) : Prop := σ'.length = σ.length ∧ ∀ j, j ∉ is → σ'[j]? = σ[j]?
theorem Upd.rfl' {is : List Nat} {σ : L2.St} : Upd is σ σ := ⟨rfl, fun _ _ => rfl⟩
def OG (T : Tb) (gg : TG) (tg : GM) (is : List Nat) : Prop := ∀ (B : Hp) (gh : Gh) (own : Own) (H : Hp) (d : D) (v : V) (sd sd' : Sl) (σ : L2.St) (Q : L2.St → Hp → Prop),
  HRel T B gh own H → Rep T gh.F d v → SRel T gh own.length sd σ → tg d sd = some sd' → (∀ σ', SRel T gh own.length sd' σ' → Upd is σ σ' → Q σ' H) → gg v σ H Q
theorem og_n {T : Tb} (i : Nat) : OG T (gName i) (tgN i) [i] := by
  intro B gh own H d v sd sd' σ Q R r S e k
  cases e
  exact k _ (S.set r) ⟨by simp, fun j hj => List.getElem?_set_ne (fun z => hj (by rw [z]; exact List.mem_singleton.mpr rfl))⟩
def forL (tg : GM) (body : SM) : List D → SM
  | [] => sNil
  | x :: xs => fun sd own => match tg x sd with
    | none => none
    | some sd1 => match body sd1 own with
      | some (.nx sd2 own2) => forL tg body xs sd2 own2
      | some (.ct sd2 own2) => forL tg body xs sd2 own2
      | some (.bk sd2 own2) => some (.nx sd2 own2)
      | r => r
def sFor (src : IM) (tg : GM) (body : SM) : SM := SM.bind src fun xs => forL tg body xs
theorem rs_for {X : Cx} {Y : Cy} {t iter : Expr} {body : List Stmt} {pos : Pos} {src : IM} {tg : GM} {gg : TG} {is : List Nat} {p : SM} (hp : PassesOwn (model X.prog X.w) X.A X.env X.xe) (hi : PI X t iter (trI Y src)) (hg : PG X t gg) (og : OG Y.T gg tg is) (hb : PSs X body (trS Y p)) (hc : X.calm = true := by rfl)
    (hs : ∀ x, foldedSetIterable iter X.env x = pure x := by intro _; rfl) : PS X (.For t iter body [] pos) (trS Y (sFor src tg p)) := PS.imp (ps_for hp hc hi hg hb hs) fun Dn σ H q => by
  obtain ⟨gh, sd, own, R, S, q⟩ := q
  refine s_bind R S q fun g1 o1 xs J H1 R1 S1 e1 wk q1 => ?_
  refine ⟨fun i m σ H => m = xs.length - i ∧ i ≤ xs.length ∧ ∃ g2 sd2 o2, HRel Y.T Y.B g2 o2 H ∧ SRel Y.T g2 o2.length sd2 σ ∧ Le g1.F g2.F ∧ SAt Y g2 sd2 o2 Dn (forL tg p (xs.drop i)), ⟨xs.length, by omega, Nat.zero_le _, g1, sd, o1, R1, S1, .rfl', by rw [List.drop_zero]; exact q1⟩, ?_⟩
  rintro i m σ2 H2 ⟨rfl, hi, g2, sd2, o2, R2, S2, l2, q2⟩
  by_cases c : i < xs.length
  · refine .inr ⟨wk.go _ i g2 o2 H2 R2 l2 c, fun σ' H' => i + 1 ≤ xs.length ∧ ∃ g2 sd2 o2, HRel Y.T Y.B g2 o2 H' ∧ SRel Y.T g2 o2.length sd2 σ' ∧ Le g1.F g2.F ∧ SAt Y g2 sd2 o2 Dn (forL tg p (xs.drop (i + 1))),
      fun σ' H' w => ⟨xs.length - (i + 1), by omega, rfl, w⟩, fun x H' y => ?_⟩
    have hx : xs[i]? = some xs[i] := by simp [c]
    obtain ⟨g3, R3, e3, r3⟩ := wk.yld _ i g2 o2 H2 x H' xs[i] R2 l2 y hx
    rw [List.drop_eq_getElem_cons c] at q2
    obtain ⟨r, er, k⟩ := q2
    have l3 := l2.trans e3.F
    have S3 := S2.ext e3
    have k3 := k.shift e3
    unfold forL at er
    cases et : tg xs[i] sd2 with
    | none => simp only [et] at er; cases er
    | some sd3 =>
      simp only [et] at er
      refine og _ g3 o2 H' xs[i] x sd2 sd3 σ2 _ R3 r3 S3 et fun σ3 S4 _ => ?_
      cases eb : p sd3 o2 with
      | none => simp only [eb] at er; cases er
      | some rb =>
        simp only [eb] at er
        refine ⟨g3, sd3, o2, R3, S4, rb, eb, ?_⟩
        cases rb with
        | nx sd5 o5 => exact fun g5 σ5 H5 R5 S5 e5 => ⟨c, g5, sd5, o5, R5, S5, l3.trans e5.F, r, er, k3.shift e5⟩
        | ct sd5 o5 => exact fun g5 σ5 H5 R5 S5 e5 => ⟨c, g5, sd5, o5, R5, S5, l3.trans e5.F, r, er, k3.shift e5⟩
        | bk sd5 o5 => cases er; exact k3
        | rt s o5 => cases er; exact k3
        | ex cc fs sd5 o5 => cases er; exact k3
  · have e : i = xs.length := by omega
    subst e
    rw [List.drop_length] at q2
    exact .inl ⟨wk.stop _ _ g2 o2 H2 R2 l2 (Nat.le_refl _), sat_nx q2 rfl g2 σ2 H2 R2 S2 .rfl'⟩

/-! ## while -/
def whL (c : TM) (body : SM) : Nat → SM
  | 0 => sNo
  | n + 1 => SM.bind c fun b => match b with
    | false => sNil
    | true => fun sd own => match body sd own with
      | some (.nx sd2 own2) => whL c body n sd2 own2
      | some (.ct sd2 own2) => whL c body n sd2 own2
      | some (.bk sd2 own2) => some (.nx sd2 own2)
      | r => r
end Gx
end T_GxR7
section T_GxR8
set_option Elab.async false
set_option linter.all false
set_option maxRecDepth 100000
set_option maxHeartbeats 4000000
namespace Gx
open PySem PySem.Spec PyProof.Rows L2

/-! ## defs and calls -/
abbrev FM := List SV → Own → Option (Rz SV × Own)
def startD (N : Nat) (xs : List SV) : Sl := xs.map some ++ List.replicate (N - xs.length) none
def runDef (N : Nat) (body : SM) : FM := fun xs own => match body (startD N xs) own with
  | some (.rt s own') => some (.ok s, own')
  | some (.nx _ own') => some (.ok (.d .non), own')
  | some (.ex c fs _ own') => some (.ex c fs, own')
  | _ => none
/-- a def's promise -/
def spF (T : Tb) (n : Nat) (Ff : FM) : Sp := fun vs H Q E => ∃ (B : Hp) (g : Gh) (own : Own) (xs : List SV), HRel T B g own H ∧ RSs T g own.length xs vs ∧ xs.length = n ∧ ∃ r own', Ff xs own = some (r, own') ∧
  ROk ⟨T, B, fun _ => E⟩ (RS T) g own.length [] own' Q r
theorem srel_start {T : Tb} {g : Gh} {n : Nat} {N : List Str} {xs : List SV} {vs : List V} (r : RSs T g n xs vs) : SRel T g n (startD N.length xs) (L2.start N vs) := by
  have hl := r.length
  refine ⟨by unfold startD L2.start; simp [hl], fun i s e => ?_⟩
  unfold startD at e
  unfold L2.start
  by_cases c : i < xs.length
  · rw [List.getElem?_append_left (by simpa using c), List.getElem?_map] at e
    obtain ⟨s0, e1, e2⟩ := Option.map_eq_some_iff.mp e
    cases e2
    obtain ⟨v, e3, r3⟩ := r.get e1
    exact ⟨v, by rw [List.getElem?_append_left (by rw [List.length_map, ← hl]; exact c), List.getElem?_map, e3]; rfl, r3⟩
  · rw [List.getElem?_append_right (by simpa using c)] at e
    rw [List.getElem?_replicate] at e
    split at e
    · cases e
    · cases e
theorem def_ok {P : Program} {w : World} {K : PySem.W.Frag} {mg : Str → Option Value} {base : Heap} {x qual : Str} {st : Stmt} {f : Addr} {fd : FuncData} {N ps : List Str} {k n : Nat} {T : Tb} {body : SM}
    (F : Fun K x qual st f fd) (S : FnScope N ps (defScope st)) (hn : ps.length = n)
    (h : ∀ (cdv : Value) (A : Around) (outer : List Env) (s : Shared) (H : Hp) (E : XK) (B : Hp), Room k (A.deeper (envOfC qual (defScope st) s.heap.objs.size f cdv)) →
      PSs (cxOf (L2.CX P w) P w K mg base N qual (defScope st) f cdv A outer s H E) (defBody st) (trS ⟨T, B, fun _ => E⟩ body)) :
    FnOk P w K mg base (L2.CX P w) (k + 1) f fd ps (spF T n (runDef N.length body)) := by
  refine F.okX S (fun vs H Q E h => ?_) (fun cdv A outer s H vs Q E hr hs => ?_)
  · obtain ⟨B, g, own, xs, R, rs, hl, _⟩ := h
    rw [← rs.length, hl, hn]
  · obtain ⟨B, g, own, xs, R, rs, hl, r, own', e, q⟩ := hs
    refine ⟨_, h cdv A outer s H E B hr, g, startD N.length xs, own, R, srel_start rs, ?_⟩
    unfold runDef at e
    cases eb : body (startD N.length xs) own with
    | none => rw [eb] at e; cases e
    | some rb =>
      rw [eb] at e
      refine ⟨rb, eb, ?_⟩
      cases rb with
      | rt s o => cases e; exact q
      | nx sd o => cases e; exact fun g' σ' H' R' S' e' => q g' .non H' R' e' (Rep.non)
      | ex c fs sd o => cases e; exact fun g' σ' d H' R' S' e' x => q g' d H' R' e' x
      | bk sd o => cases e
      | ct sd o => cases e
/-- a def as it is called -/
structure Cal (P : Program) (w : World) (K : PySem.W.Frag) (mg : Str → Option Value) (base : Heap) (T : Tb) (k : Nat) (x : Str) (n : Nat) (Ff : FM) : Prop where
  ex : ∃ (f : Addr) (fd : FuncData) (ps : List Str), mg x = some (.ref f) ∧ PySem.W.keepIn K (.ref f) = true ∧ Binds K fd ps [] ∧ FnOk P w K mg base (L2.CX P w) k f fd ps (spF T n Ff)
theorem Cal.of {P : Program} {w : World} {K : PySem.W.Frag} {mg : Str → Option Value} {base : Heap} {T : Tb} {k n : Nat} {x : Str} {Ff : FM} {f : Addr} {fd : FuncData} {ps : List Str} (hm : mg x = some (.ref f)) (hk : PySem.W.keepIn K (.ref f) = true) (hb : Binds K fd ps [])
    (F : FnOk P w K mg base (L2.CX P w) k f fd ps (spF T n Ff)) : Cal P w K mg base T k x n Ff := ⟨f, fd, ps, hm, hk, hb, F⟩

/-! ### what a call does to the caller's objects -/
/-- a frozen object -/
def allD : List SV → Option (List D)
  | [] => some []
  | .d x :: r => (allD r).map (x :: ·)
  | .h _ :: _ => none
def frzO : O → Option D
  | .lst xs => some (.lst xs)
  | .dic ks xs => some (.dic ks xs)
  | .dih _ _ => none
  | .dig _ _ => none
  | .ins c vs => if (flds c).length = vs.length then (allD vs).map fun ds => .obj c ds else none
  | .dead => none
/-- the result of a callee without objects of ours, as data -/
def resD (own' : Own) : SV → Option D
  | .d z => some z
  | .h k => (own'[k]?).bind frzO
def callD (n : Nat) (Ff : FM) (xs : List SV) : EM := fun _ own => if xs.length ≠ n then none else match dats xs with
  | none => none
  | some _ => match Ff xs [] with
    | some (.ok s, own') => match resD own' s with
      | some z => some (.ok (.d z), own)
      | none => none
    | some (.ex c fs, _) => some (.ex c fs, own)
    | none => none
def eCallD (n : Nat) (Ff : FM) (a : AM) : EM := a.bind fun xs => callD n Ff xs
section
variable {T : Tb} {g : Gh} {n : Nat}
theorem allD_rel : ∀ {vs : List SV} {ws : List V} {ds : List D}, RSs T g n vs ws → allD vs = some ds → Reps T g.F ds ws
  | _, _, _, .nil, e => by cases e; exact .nil
  | _, _, ds, .cons (s := s) h r, e => by
    cases s with
    | d x =>
      have e : (allD _).map (x :: ·) = some ds := e
      obtain ⟨es, e1, e2⟩ := Option.map_eq_some_iff.mp e
      subst e2
      exact .cons h (allD_rel r e1)
    | h k => cases e
/-- an own object frozen is data -/
theorem frz_rel {B : Hp} {own : Own} {H : Hp} {k : Nat} {o : O} {d : D} (R : HRel T B g own H) (hk : own[k]? = some o) (e : frzO o = some d) : ∃ ho, H (g.ρ k) = some ho ∧ Rep T (L2.upd g.F (g.ρ k) ho) d (.ref (g.ρ k)) := by
  have at_ := R.o k o hk
  cases o with
  | dead => cases e
  | lst xs =>
    cases e
    obtain ⟨vs, h1, h2⟩ := at_
    have hF := (R.nb k _ hk rfl).2
    exact ⟨_, h1, .lst upd_same (h2.le (Le.upd hF))⟩
  | dic ks xs =>
    cases e
    obtain ⟨kvs, h1, h2, h3⟩ := at_
    have hF := (R.nb k _ hk rfl).2
    exact ⟨_, h1, .dic (.inl upd_same) h2 (h3.le (Le.upd hF))⟩
  | dih ks xs => cases e
  | dig ks xs => cases e
  | ins c vs =>
    have e : (if (flds c).length = vs.length then (allD vs).map fun ds => D.obj c ds else none) = some d := e
    by_cases cc : (flds c).length = vs.length
    · rw [if_pos cc] at e
      obtain ⟨ds, e1, e2⟩ := Option.map_eq_some_iff.mp e
      subst e2
      obtain ⟨dx, ws, h1, h2, h3⟩ := at_
      have hF := (R.nb k _ hk rfl).2
      exact ⟨_, h1, .obj upd_same (by rw [cc]; exact h3.length) ((allD_rel h3 e1).le (Le.upd hF))⟩
    · rw [if_neg cc] at e; cases e
theorem frzO_live {o : O} {d : D} (e : frzO o = some d) : o.live = true := by
  cases o <;> first | rfl | cases e
end
/-- the caller's ghost behind a callee that changed nothing of ours: F' is what the callee knows frozen -/
theorem HRel.after {T : Tb} {B : Hp} {g : Gh} {own : Own} {H H' : Hp} {F' : Hp} (R : HRel T B g own H) (hH : Le H H') (hF : Le g.F F') (hF' : Le F' H') (fb : ∀ a o, F' a = some o → g.F a = some o ∨ H a = none) :
    HRel T B ⟨F', g.ρ⟩ own H' ∧ GExt B g own.length ⟨F', g.ρ⟩ own.length := by
  have ext : GExt B g own.length ⟨F', g.ρ⟩ own.length := ⟨Nat.le_refl _, hF, fun _ _ => rfl, fun a o e => by
    rcases fb a o e with h | h
    · exact .inl h
    · exact .inr (R.free h).1⟩
  refine ⟨⟨R.b.trans hH, hF', fun k o hk => ?_, fun k o hk hl => ⟨(R.nb k o hk hl).1, ?_⟩, R.inj⟩, ext⟩
  · refine ((R.o k o hk).ext ext).heap fun hl => ?_
    obtain ⟨ho, e⟩ := (R.o k o hk).there hl
    show H' (g.ρ k) = H (g.ρ k)
    rw [e]; exact hH _ _ e
  · show F' (g.ρ k) = none
    cases e : F' (g.ρ k) with
    | none => rfl
    | some o2 =>
      obtain ⟨ho, eh⟩ := (R.o k o hk).there hl
      rcases fb _ _ e with h | h
      · rw [(R.nb k o hk hl).2] at h; cases h
      · rw [eh] at h; cases h
/-- a callee started without objects of ours -/
theorem hrel_fresh {T : Tb} {F H : Hp} {ρ : Nat → Addr} (l : Le F H) : HRel T H ⟨F, ρ⟩ [] H :=
  ⟨Le.rfl', l, fun k o h => by simp at h, fun k o h => by simp at h, fun j k p q h => by simp at h⟩
theorem dats_rss {T : Tb} {g g' : Gh} {n n' : Nat} (hF : Le g.F g'.F) : ∀ (xs : List SV) (vs : List V) (ds : List D), dats xs = some ds → RSs T g n xs vs → RSs T g' n' xs vs := by
  intro xs
  induction xs with
  | nil => intro vs ds _ r; cases r; exact .nil
  | cons s r ih =>
    intro vs ds e rs
    cases rs with
    | cons h t =>
      cases s with
      | d x =>
        have e : (dats r).map (x :: ·) = some ds := e
        obtain ⟨es, e1, e2⟩ := Option.map_eq_some_iff.mp e
        exact .cons (Rep.le hF h) (ih _ es e1 t)
      | h k => cases e
theorem _root_.L2.Room.u65 {k : Nat} {A : Around} (r : Room k A) : A.units + 65 < cLine := by have := r.un; omega
theorem call_D {T : Tb} {B : Hp} {Ek : L2.St → XK} {Ff : FM} {n : Nat} {g1 : Gh} {sd : Sl} {own : Own} {σ : L2.St} {H : Hp} {Q : VK} {xs : List SV} {vs : List V} (R : HRel T B g1 own H) (rs : RSs T g1 own.length xs vs)
    (q : At ⟨T, B, Ek⟩ (RS T) g1 sd own σ Q (callD n Ff xs)) : spF T n Ff vs H Q (Ek σ) := by
  obtain ⟨r, own', e, k⟩ := q
  unfold callD at e
  by_cases hl : xs.length = n
  case neg => rw [if_pos hl] at e; cases e
  rw [if_neg (fun z => z hl)] at e
  cases ed : dats xs with
  | none => simp only [ed] at e; cases e
  | some ds =>
    simp only [ed] at e
    cases ef : Ff xs [] with
    | none => simp only [ef] at e; cases e
    | some p =>
      obtain ⟨rf, of⟩ := p
      simp only [ef] at e
      refine ⟨H, ⟨g1.F, g1.ρ⟩, [], xs, hrel_fresh R.f, dats_rss Le.rfl' xs vs ds ed rs, hl, rf, of, ef, ?_⟩
      cases rf with
      | ok s =>
        simp only at e
        cases er : resD of s with
        | none => simp only [er] at e; cases e
        | some z =>
          simp only [er] at e
          cases e
          intro g' v H' R' e' rv
          cases s with
          | d y =>
            cases er
            obtain ⟨R2, e2⟩ := R.after R'.b e'.F R'.f e'.fb
            exact k _ v H' R2 e2 rv
          | h kk =>
            obtain ⟨o, eo, ez⟩ := Option.bind_eq_some_iff.mp er
            obtain ⟨ho, eh, rz⟩ := frz_rel R' eo ez
            obtain ⟨R3, e3⟩ := R'.freeze eo (frzO_live ez) eh
            have e4 := e'.trans e3
            obtain ⟨R2, e2⟩ := R.after (F' := L2.upd g'.F (g'.ρ kk) ho) R'.b e4.F R3.f e4.fb
            have hv := rv.2
            subst hv
            exact k _ _ H' R2 e2 rz
      | ex c fs =>
        cases e
        intro g' d H' R' e' x
        obtain ⟨R2, e2⟩ := R.after R'.b e'.F R'.f e'.fb
        refine k _ d H' R2 e2 ?_
        rcases x with x | ⟨a, ws, h1, h2, h3⟩
        · exact .inl x
        · exact .inr ⟨a, ws, h1, h2, h3⟩
section
variable {X : Cx} {Y : Cy} {k j n : Nat} {x : Str} {Ff : FM} {p pos : Pos} {a : Expr} {es : List Expr} {al : AM}
/-- the caller's context: the tables, where exceptions go -/
structure CxOk (X : Cx) (Y : Cy) : Prop where
  K : X.K = Y.T.K
  pass : ∀ σ, PassesAt (L2.CX X.prog X.w) X σ (Y.Ek σ)
theorem r_call (c : Cal X.prog X.w X.K X.mg X.base Y.T k x n Ff) (hr : Room j X.A) (hk : k ≤ j) (cx : CxOk X Y) (ha : PA X (a :: es) (trA Y al)) (hg : Gl X x := by rfl) (hdb : (x == ("__debug__" : Str)) = false := by decide)
    (he : starEach (a :: es) X.env = (false, eval a X.env) :: starEach es X.env := by rfl) (hpl : (backTo pos (starEach es X.env)).any (·.1) = false := by rfl) : PE X (.Call (.Name x p) (a :: es) [] pos) (trE Y (eCallD n Ff al)) := by
  obtain ⟨f, fd, ps, hm, hkp, hb, F⟩ := c.ex
  refine PE.imp (pe_callSD (E := Y.Ek) F (hr.mono hk) hg hm hkp hb .nil cx.pass ha hdb he hpl) fun σ H Q q => ?_
  obtain ⟨gh, sd, own, R, S, q⟩ := q
  refine at_bind R S q fun g1 o1 xs vs H1 R1 S1 e1 rs q1 => ?_
  rw [List.append_nil]
  exact call_D R1 rs q1
end

/-! ### a callee that changes one object of ours -/
def flatO : O → Bool
  | .lst _ => true
  | .dic _ _ => true
  | .ins _ vs => (allD vs).isSome
  | .dih _ _ => false
  | .dig _ _ => true
  | .dead => false
theorem flat_rss {T : Tb} {g g2 : Gh} {n n2 : Nat} (l : Le g.F g2.F) : ∀ (vs : List SV) (ws : List V), (allD vs).isSome = true → RSs T g n vs ws → RSs T g2 n2 vs ws := by
  intro vs
  induction vs with
  | nil => intro ws _ r; cases r; exact .nil
  | cons s t ih =>
    intro ws e r
    cases r with
    | cons h r =>
      cases s with
      | h k => cases e
      | d x =>
        have e : ((allD t).map (x :: ·)).isSome = true := e
        rw [Option.isSome_map] at e
        exact .cons (Rep.le l h) (ih _ e r)
theorem flat_at {T : Tb} {g g2 : Gh} {n n2 : Nat} {H : Hp} {a : Addr} {o : O} (f : flatO o = true) (l : Le g.F g2.F) (h : OAt T g n H a o) : OAt T g2 n2 H a o := by
  cases o with
  | dead => trivial
  | lst xs => obtain ⟨vs, h1, h2⟩ := h; exact ⟨vs, h1, h2.le l⟩
  | dic ks xs => obtain ⟨kvs, h1, h2, h3⟩ := h; exact ⟨kvs, h1, h2, h3.le l⟩
  | ins c svs => obtain ⟨dx, ws, h1, h2, h3⟩ := h; exact ⟨dx, ws, h1, h2, flat_rss l svs ws f h3⟩
  | dih _ _ => cases f
  | dig ks xs => obtain ⟨kvs, h1, h2, h3, h4⟩ := h; exact ⟨kvs, h1, h2, h3.le l, h4.le l⟩
theorem flat_live {o : O} (f : flatO o = true) : o.live = true := by
  cases o <;> first | rfl | cases f
/-- the heap without p -/
def wo (H : Hp) (p : Addr) : Hp := fun a => if a = p then none else H a
theorem wo_ne {H : Hp} {p a : Addr} (h : a ≠ p) : wo H p a = H a := if_neg h
theorem wo_same {H : Hp} {p : Addr} : wo H p p = none := if_pos rfl
theorem wo_le {H : Hp} {p : Addr} : Le (wo H p) H := fun a o e => by
  by_cases c : a = p
  · rw [c, wo_same] at e; cases e
  · rw [wo_ne c] at e; exact e
/-- a callee started with one object of ours -/
theorem hrel_one {T : Tb} {B : Hp} {g : Gh} {own : Own} {H : Hp} {k : Nat} {o : O} (R : HRel T B g own H) (hk : own[k]? = some o) (f : flatO o = true) : HRel T (wo H (g.ρ k)) ⟨g.F, fun _ => g.ρ k⟩ [o] H := by
  have nb := R.nb k o hk (flat_live f)
  refine ⟨wo_le, R.f, fun j q e => ?_, fun j q e hl => ⟨wo_same, nb.2⟩, fun i j p q e1 e2 _ _ _ => ?_⟩
  · match j, e with
    | 0, e => cases e; exact flat_at (g := g) f (fun _ _ h => h) (R.o k _ hk)
    | j + 1, e => simp at e
  · match i, j, e1, e2 with
    | 0, 0, _, _ => rfl
    | i + 1, _, e1, _ => simp at e1
    | 0, j + 1, _, e2 => simp at e2
/-- the caller behind such a callee -/
theorem HRel.afterZ {T : Tb} {B : Hp} {g g' : Gh} {own own' : Own} {H H' : Hp} {k : Nat} {o o' : O} (R : HRel T B g own H) (hk : own[k]? = some o) (hl : o.live = true) (R' : HRel T (wo H (g.ρ k)) g' own' H') (e' : GExt (wo H (g.ρ k)) ⟨g.F, fun _ => g.ρ k⟩ 1 g' own'.length)
    (ho : own'[0]? = some o') (f : flatO o' = true) : HRel T B ⟨g'.F, g.ρ⟩ (own.set k o') H' ∧ GExt B g own.length ⟨g'.F, g.ρ⟩ (own.set k o').length := by
  obtain ⟨hB, hF⟩ := R.nb k o hk hl
  have hlt : k < own.length := (List.getElem?_eq_some_iff.mp hk).1
  have ρ0 : g'.ρ 0 = g.ρ k := e'.ρ 0 (by decide)
  have keep : ∀ a u, a ≠ g.ρ k → H a = some u → H' a = some u := fun a u ne e => R'.b a u (by rw [wo_ne ne]; exact e)
  have fb : ∀ a u, g'.F a = some u → g.F a = some u ∨ (a = g.ρ k ∨ H a = none) := fun a u e => by
    rcases e'.fb a u e with h | h
    · exact .inl h
    · by_cases c : a = g.ρ k
      · exact .inr (.inl c)
      · rw [wo_ne c] at h; exact .inr (.inr h)
  have ext : GExt B g own.length ⟨g'.F, g.ρ⟩ (own.set k o').length := ⟨by simp, e'.F, fun _ _ => rfl, fun a u e => by
    rcases fb a u e with h | h | h
    · exact .inl h
    · exact .inr (by rw [h]; exact hB)
    · exact .inr (R.free h).1⟩
  have look : ∀ (j : Nat) (q : O), (own.set k o')[j]? = some q → (j ≠ k ∧ own[j]? = some q) ∨ (j = k ∧ q = o') := fun j q e => by
    by_cases hj : k = j
    · subst hj
      rw [List.getElem?_set_self hlt] at e
      exact .inr ⟨rfl, (Option.some.inj e).symm⟩
    · rw [List.getElem?_set_ne hj] at e
      exact .inl ⟨fun z => hj z.symm, e⟩
  refine ⟨⟨fun a u e => keep a u (fun z => by rw [z, hB] at e; cases e) (R.b a u e), R'.f, fun j q e => ?_, fun j q e hq => ?_, fun i j p q ei ej hp hq e => ?_⟩, ext⟩
  · rcases look j q e with ⟨hj, e1⟩ | ⟨rfl, rfl⟩
    · refine ((R.o j q e1).ext ext).heap fun hq => ?_
      obtain ⟨ho, eh⟩ := (R.o j q e1).there hq
      show H' (g.ρ j) = H (g.ρ j)
      rw [eh]
      exact keep _ _ (fun z => hj (R.inj j k q o e1 hk hq hl z)) eh
    · have := R'.o 0 q ho
      rw [ρ0] at this
      exact flat_at (g := g') f (fun _ _ h => h) this
  · rcases look j q e with ⟨hj, e1⟩ | ⟨rfl, rfl⟩
    · refine ⟨(R.nb j q e1 hq).1, ?_⟩
      show g'.F (g.ρ j) = none
      cases eF : g'.F (g.ρ j) with
      | none => rfl
      | some u =>
        obtain ⟨ho, eh⟩ := (R.o j q e1).there hq
        rcases fb _ _ eF with h | h | h
        · rw [(R.nb j q e1 hq).2] at h; cases h
        · exact absurd (R.inj j k q o e1 hk hq hl h) hj
        · rw [eh] at h; cases h
    · refine ⟨hB, ?_⟩
      have := (R'.nb 0 q ho (flat_live f)).2
      rw [ρ0] at this
      exact this
  · rcases look i p ei with ⟨hi, ei'⟩ | ⟨rfl, rfl⟩
    · rcases look j q ej with ⟨hj, ej'⟩ | ⟨rfl, rfl⟩
      · exact R.inj i j p q ei' ej' hp hq e
      · exact absurd (R.inj i j p o ei' hk hp hl e) hi
    · rcases look j q ej with ⟨hj, ej'⟩ | ⟨rfl, rfl⟩
      · exact absurd (R.inj j i q o ej' hk hq hl e.symm) hj
      · rfl
/-- the first argument is an object of ours, the rest is data -/
def callZ (n : Nat) (Ff : FM) (xs : List SV) : EM := fun _ own => match xs with
  | .h k :: rest => if rest.length + 1 ≠ n then none else match dats rest, own[k]? with
    | some _, some o => if flatO o = true then (match Ff (.h 0 :: rest) [o] with
      | some (.ok (.d z), own') => (match own'[0]? with
        | some o' => if flatO o' = true then some (.ok (.d z), own.set k o') else none
        | none => none)
      | some (.ok (.h (j + 1)), own') => (match own'[0]?, own'[j + 1]? with
        | some o', some oj => if flatO o' = true then (match frzO oj with
          | some z => some (.ok (.d z), own.set k o')
          | none => none) else none
        | _, _ => none)
      | some (.ex c fs, own') => (match own'[0]? with
        | some o' => if flatO o' = true then some (.ex c fs, own.set k o') else none
        | none => none)
      | _ => none) else none
    | _, _ => none
  | _ => none
theorem call_Z {T : Tb} {B : Hp} {Ek : L2.St → XK} {Ff : FM} {n : Nat} {g1 : Gh} {sd : Sl} {own : Own} {σ : L2.St} {H : Hp} {Q : VK} {xs : List SV} {vs : List V} (R : HRel T B g1 own H) (rs : RSs T g1 own.length xs vs)
    (q : At ⟨T, B, Ek⟩ (RS T) g1 sd own σ Q (callZ n Ff xs)) : spF T n Ff vs H Q (Ek σ) := by
  obtain ⟨r, own2, e, kq⟩ := q
  unfold callZ at e
  match xs, rs, e with
  | [], _, e => cases e
  | .d _ :: _, _, e => cases e
  | .h k :: rest, rs, e =>
    simp only at e
    by_cases hl : rest.length + 1 = n
    case neg => rw [if_pos hl] at e; cases e
    rw [if_neg (fun z => z hl)] at e
    cases ed : dats rest with
    | none => simp only [ed] at e; cases e
    | some ds =>
      cases eo : own[k]? with
      | none => simp only [ed, eo] at e; cases e
      | some o =>
        simp only [ed, eo] at e
        by_cases fo : flatO o = true
        case neg => rw [if_neg fo] at e; cases e
        rw [if_pos fo] at e
        cases rs with
        | @cons _ v _ vs' hv hr =>
          have hv := hv.2
          subst hv
          have live := flat_live fo
          cases ef : Ff (.h 0 :: rest) [o] with
          | none => simp only [ef] at e; cases e
          | some p =>
            obtain ⟨rf, of⟩ := p
            simp only [ef] at e
            refine ⟨wo H (g1.ρ k), ⟨g1.F, fun _ => g1.ρ k⟩, [o], .h 0 :: rest, hrel_one R eo fo, .cons ⟨by simp, rfl⟩ (dats_rss (g := g1) (g' := ⟨g1.F, fun _ => g1.ρ k⟩) (fun _ _ h => h) rest vs' ds ed hr), by rw [List.length_cons]; exact hl, rf, of, ef, ?_⟩
            cases rf with
            | ok s =>
              cases s with
              | d z =>
                simp only at e
                cases e0 : of[0]? with
                | none => simp only [e0] at e; cases e
                | some o' =>
                  simp only [e0] at e
                  by_cases f' : flatO o' = true
                  case neg => rw [if_neg f'] at e; cases e
                  rw [if_pos f'] at e
                  cases e
                  intro g' v H' R' e' rv
                  obtain ⟨R2, e2⟩ := R.afterZ eo live R' e' e0 f'
                  exact kq _ v H' R2 e2 rv
              | h j =>
                cases j with
                | zero => simp only at e; cases e
                | succ j =>
                  simp only at e
                  cases e0 : of[0]? with
                  | none => simp only [e0] at e; cases e
                  | some o' =>
                    cases ej : of[j + 1]? with
                    | none => simp only [e0, ej] at e; cases e
                    | some oj =>
                      simp only [e0, ej] at e
                      by_cases f' : flatO o' = true
                      case neg => rw [if_neg f'] at e; cases e
                      rw [if_pos f'] at e
                      cases ez : frzO oj with
                      | none => simp only [ez] at e; cases e
                      | some z =>
                        simp only [ez] at e
                        cases e
                        intro g' v H' R' e' rv
                        obtain ⟨ho, eh, rz⟩ := frz_rel R' ej ez
                        obtain ⟨R3, e3⟩ := R'.freeze ej (frzO_live ez) eh
                        obtain ⟨R2, e2⟩ := R.afterZ eo live R3 (e'.trans e3) (by rw [List.getElem?_set_ne (by simp)]; exact e0) f'
                        have hv := rv.2
                        subst hv
                        exact kq _ _ H' R2 e2 rz
            | ex c fs =>
              simp only at e
              cases e0 : of[0]? with
              | none => simp only [e0] at e; cases e
              | some o' =>
                simp only [e0] at e
                by_cases f' : flatO o' = true
                case neg => rw [if_neg f'] at e; cases e
                rw [if_pos f'] at e
                cases e
                intro g' d H' R' e' x
                obtain ⟨R2, e2⟩ := R.afterZ eo live R' e' e0 f'
                refine kq _ d H' R2 e2 ?_
                rcases x with x | ⟨a, ws, h1, h2, h3⟩
                · exact .inl x
                · exact .inr ⟨a, ws, h1, h2, h3⟩
def eCallZ (n : Nat) (Ff : FM) (a : AM) : EM := a.bind fun xs => callZ n Ff xs
/-! ### the result is a new object of ours -/
def callH (n : Nat) (Ff : FM) (xs : List SV) : EM := fun _ own => if xs.length ≠ n then none else match dats xs with
  | none => none
  | some _ => match Ff xs [] with
    | some (.ok (.h j), own') => (match own'[j]? with
      | some o => if flatO o = true then some (.ok (.h own.length), own ++ [o]) else none
      | none => none)
    | some (.ex c fs, _) => some (.ex c fs, own)
    | _ => none
def eCallH (n : Nat) (Ff : FM) (a : AM) : EM := a.bind fun xs => callH n Ff xs
/-- an object of the callee becomes one of ours -/
theorem HRel.take {T : Tb} {B : Hp} {g g' : Gh} {own own' : Own} {H H' : Hp} {j : Nat} {o : O} (R : HRel T B g own H) (R' : HRel T H g' own' H') (hF : Le g.F g'.F) (fb : ∀ a u, g'.F a = some u → g.F a = some u ∨ H a = none) (hj : own'[j]? = some o) (f : flatO o = true) :
    HRel T B ⟨g'.F, fun i => if i = own.length then g'.ρ j else g.ρ i⟩ (own ++ [o]) H' ∧ GExt B g own.length ⟨g'.F, fun i => if i = own.length then g'.ρ j else g.ρ i⟩ (own ++ [o]).length := by
  obtain ⟨hN, hF0⟩ := R'.nb j o hj (flat_live f)
  have ext : GExt B g own.length ⟨g'.F, fun i => if i = own.length then g'.ρ j else g.ρ i⟩ (own ++ [o]).length := ⟨by simp, hF, fun k hk => by show (if k = own.length then _ else g.ρ k) = g.ρ k; rw [if_neg (by omega)], fun a u e => by
    rcases fb a u e with h | h
    · exact .inl h
    · exact .inr (R.free h).1⟩
  have look : ∀ (k : Nat) (q : O), (own ++ [o])[k]? = some q → (k < own.length ∧ own[k]? = some q) ∨ (k = own.length ∧ q = o) := fun k q e => by
    by_cases hk : k < own.length
    · exact .inl ⟨hk, by rw [List.getElem?_append_left hk] at e; exact e⟩
    · have hk2 : k < (own ++ [o]).length := (List.getElem?_eq_some_iff.mp e).1
      have : k = own.length := by simp at hk2; omega
      subst this
      refine .inr ⟨rfl, ?_⟩
      simp at e
      exact e.symm
  have ne : ∀ (k : Nat) (q : O), own[k]? = some q → q.live = true → g.ρ k ≠ g'.ρ j := fun k q e hq z => by
    obtain ⟨ho, eh⟩ := (R.o k q e).there hq
    rw [z, hN] at eh; cases eh
  refine ⟨⟨R.b.trans R'.b, R'.f, fun k q e => ?_, fun k q e hl => ?_, fun i k p q ei ek hp hq e => ?_⟩, ext⟩
  · rcases look k q e with ⟨hk, e1⟩ | ⟨rfl, rfl⟩
    · show OAt T _ _ _ (if k = own.length then g'.ρ j else g.ρ k) q
      rw [if_neg (by omega)]
      refine ((R.o k q e1).ext ext).heap fun hq => ?_
      obtain ⟨ho, eh⟩ := (R.o k q e1).there hq
      rw [eh]; exact R'.b _ _ eh
    · show OAt T _ _ _ (if own.length = own.length then g'.ρ j else g.ρ _) q
      rw [if_pos rfl]
      exact flat_at (g := g') f (fun _ _ h => h) (R'.o j _ hj)
  · show B (if k = own.length then g'.ρ j else g.ρ k) = none ∧ g'.F (if k = own.length then g'.ρ j else g.ρ k) = none
    rcases look k q e with ⟨hk, e1⟩ | ⟨rfl, rfl⟩
    · rw [if_neg (by omega)]
      refine ⟨(R.nb k q e1 hl).1, ?_⟩
      cases eF : g'.F (g.ρ k) with
      | none => rfl
      | some u =>
        obtain ⟨ho, eh⟩ := (R.o k q e1).there hl
        rcases fb _ _ eF with h | h
        · rw [(R.nb k q e1 hl).2] at h; cases h
        · rw [eh] at h; cases h
    · rw [if_pos rfl]
      exact ⟨(R.free hN).1, hF0⟩
  · have e : (if i = own.length then g'.ρ j else g.ρ i) = (if k = own.length then g'.ρ j else g.ρ k) := e
    rcases look i p ei with ⟨hi, ei'⟩ | ⟨rfl, rfl⟩
    · rcases look k q ek with ⟨hk, ek'⟩ | ⟨rfl, rfl⟩
      · rw [if_neg (by omega), if_neg (by omega)] at e
        exact R.inj i k p q ei' ek' hp hq e
      · rw [if_neg (by omega), if_pos rfl] at e
        exact absurd e (ne i p ei' hp)
    · rcases look k q ek with ⟨hk, ek'⟩ | ⟨rfl, rfl⟩
      · rw [if_pos rfl, if_neg (by omega)] at e
        exact absurd e.symm (ne k q ek' hq)
      · rfl
/-! ### the arguments are only looked at, the result is a number, a text .. -/
def scal1 : D → Bool
  | .non => true
  | .bl _ => true
  | .int _ => true
  | .str _ => true
  | _ => false
def viewL (own : Own) : List SV → Option (List D)
  | [] => some []
  | s :: r => (datV own s).bind fun d => (viewL own r).map (d :: ·)
def callV (n : Nat) (Ff : FM) (xs : List SV) : EM := fun _ own => if xs.length ≠ n then none else match viewL own xs with
  | none => none
  | some ds => match Ff (ds.map SV.d) [] with
    | some (.ok (.d z), _) => if scal1 z = true then some (.ok (.d z), own) else none
    | _ => none
def eCallV (n : Nat) (Ff : FM) (a : AM) : EM := a.bind fun xs => callV n Ff xs
section
variable {X : Cx} {Y : Cy} {k j n : Nat} {x : Str} {Ff : FM} {p pos : Pos} {a : Expr} {es : List Expr} {al : AM}
theorem r_callZ (c : Cal X.prog X.w X.K X.mg X.base Y.T k x n Ff) (hr : Room j X.A) (hk : k ≤ j) (cx : CxOk X Y) (ha : PA X (a :: es) (trA Y al)) (hg : Gl X x := by rfl) (hdb : (x == ("__debug__" : Str)) = false := by decide)
    (he : starEach (a :: es) X.env = (false, eval a X.env) :: starEach es X.env := by rfl) (hpl : (backTo pos (starEach es X.env)).any (·.1) = false := by rfl) : PE X (.Call (.Name x p) (a :: es) [] pos) (trE Y (eCallZ n Ff al)) := by
  obtain ⟨f, fd, ps, hm, hkp, hb, F⟩ := c.ex
  refine PE.imp (pe_callSD (E := Y.Ek) F (hr.mono hk) hg hm hkp hb .nil cx.pass ha hdb he hpl) fun σ H Q q => ?_
  obtain ⟨gh, sd, own, R, S, q⟩ := q
  refine at_bind R S q fun g1 o1 xs vs H1 R1 S1 e1 rs q1 => ?_
  rw [List.append_nil]
  exact call_Z R1 rs q1
end
end Gx
end T_GxR8
section T_GxR9
set_option Elab.async false
set_option linter.all false
set_option maxRecDepth 100000
set_option maxHeartbeats 4000000
namespace Gx
open PySem PySem.Spec PyProof.Rows L2

/-! ## comprehensions -/
def wipeD (sd : Sl) : List Nat → Sl
  | [] => sd
  | v :: vs => (wipeD sd vs).set v none
theorem wipe_in {σ : L2.St} {i : Nat} : ∀ {vs : List Nat}, i ∈ vs → i < σ.length → (wipe σ vs)[i]? = some none
  | v :: vs, h, hl => by
    unfold wipe
    by_cases e : v = i
    · subst e
      rw [List.getElem?_set_self (by rw [wipe_length]; exact hl)]
    · rw [List.getElem?_set_ne e]
      rcases List.mem_cons.mp h with z | z
      · exact absurd z.symm e
      · exact wipe_in z hl
theorem wipe_eq {σ σ2 : L2.St} {vs is : List Nat} (u : Upd is (wipe σ vs) σ2) (hs : ∀ i ∈ is, i ∈ vs) : wipe σ2 vs = wipe σ vs := by
  have hl : σ2.length = σ.length := by rw [u.1, wipe_length]
  apply List.ext_getElem?
  intro i
  by_cases c : i < σ.length
  · by_cases m : i ∈ vs
    · rw [wipe_in m (by rw [hl]; exact c), wipe_in m c]
    · rw [wipe_out m, u.2 i (fun z => m (hs i z))]
  · rw [List.getElem?_eq_none (by rw [wipe_length, hl]; omega), List.getElem?_eq_none (by rw [wipe_length]; omega)]
theorem srel_wipe {T : Tb} {g : Gh} {n : Nat} {sd : Sl} {σ : L2.St} (S : SRel T g n sd σ) : ∀ vs : List Nat, SRel T g n (wipeD sd vs) (wipe σ vs)
  | [] => S
  | v :: vs => (srel_wipe S vs).unset
theorem HRel.less {T : Tb} {B B' : Hp} {g : Gh} {own : Own} {H : Hp} (l : Le B B') (R : HRel T B' g own H) : HRel T B g own H := by
  refine ⟨l.trans R.b, R.f, R.o, fun k o hk hl => ⟨?_, (R.nb k o hk hl).2⟩, R.inj⟩
  cases e : B (g.ρ k) with
  | none => rfl
  | some u =>
    have := l _ _ e
    rw [(R.nb k o hk hl).1] at this; cases this
theorem GExt.less {B B' : Hp} {g g' : Gh} {n n' : Nat} (l : Le B B') (e : GExt B' g n g' n') : GExt B g n g' n' :=
  ⟨e.le, e.F, e.ρ, fun a o h => by
    rcases e.fb a o h with h | h
    · exact .inl h
    · refine .inr ?_
      cases q : B a with
      | none => rfl
      | some u => rw [l _ _ q] at h; cases h⟩
theorem GExt.more {B B' : Hp} {g g' : Gh} {n n' : Nat} {p : Addr} (l : ∀ a, a ≠ p → B' a = B a) (hp : g'.F p = none) (e : GExt B g n g' n') : GExt B' g n g' n' :=
  ⟨e.le, e.F, e.ρ, fun a o h => by
    rcases e.fb a o h with h1 | h1
    · exact .inl h1
    · by_cases c : a = p
      · subst c; rw [hp] at h; cases h
      · exact .inr (by rw [l a c]; exact h1)⟩
/-- the object at p, that is to stay, is another one now -/
theorem HRel.reb {T : Tb} {B : Hp} {g : Gh} {own : Own} {H : Hp} {p : Addr} {u u' : HO} (R : HRel T (upd B p u) g own H) (hF : g.F p = none) : HRel T (upd B p u') g own (upd H p u') := by
  have ne : ∀ (k : Nat) (o : O), own[k]? = some o → o.live = true → g.ρ k ≠ p := fun k o hk hl z => by
    have := (R.nb k o hk hl).1
    rw [z, upd_same] at this; cases this
  refine ⟨fun a o e => ?_, fun a o e => ?_, fun k o hk => ?_, fun k o hk hl => ⟨?_, (R.nb k o hk hl).2⟩, R.inj⟩
  · by_cases c : a = p
    · subst c; rw [upd_same] at e; rw [upd_same]; exact e
    · rw [upd_ne c] at e; rw [upd_ne c]; exact R.b a o (by rw [upd_ne c]; exact e)
  · have c : a ≠ p := fun z => by rw [z, hF] at e; cases e
    rw [upd_ne c]; exact R.f a o e
  · exact (R.o k o hk).heap fun hl => upd_ne (ne k o hk hl)
  · rw [upd_ne (ne k o hk hl)]
    have := (R.nb k o hk hl).1
    rw [upd_ne (ne k o hk hl)] at this
    exact this
/-- an object that is to stay comes in -/
theorem HRel.guard {T : Tb} {B : Hp} {g : Gh} {own : Own} {H : Hp} {p : Addr} {u : HO} (R : HRel T B g own H) (h : H p = none) : HRel T (upd B p u) g own (upd H p u) := by
  have hB := R.free h
  refine ⟨fun a o e => ?_, fun a o e => ?_, fun k o hk => ?_, fun k o hk hl => ⟨?_, (R.nb k o hk hl).2⟩, R.inj⟩
  · by_cases c : a = p
    · subst c; rw [upd_same] at e; rw [upd_same]; exact e
    · rw [upd_ne c] at e; rw [upd_ne c]; exact R.b a o e
  · have c : a ≠ p := fun z => by rw [z, hB.2] at e; cases e
    rw [upd_ne c]; exact R.f a o e
  · exact (R.o k o hk).heap fun hl => upd_ne (R.neOwn h hk hl)
  · rw [upd_ne (R.neOwn h hk hl)]; exact (R.nb k o hk hl).1
/-- the guarded object becomes data -/
theorem HRel.unguard {T : Tb} {B : Hp} {g : Gh} {own : Own} {H : Hp} {p : Addr} {u : HO} (R : HRel T (upd B p u) g own H) (hF : g.F p = none) (hB : B p = none) :
    HRel T B ⟨upd g.F p u, g.ρ⟩ own H ∧ GExt B g own.length ⟨upd g.F p u, g.ρ⟩ own.length := by
  have ext : GExt B g own.length ⟨upd g.F p u, g.ρ⟩ own.length := ⟨Nat.le_refl _, Le.upd hF, fun _ _ => rfl, fun a o e => by
    by_cases c : a = p
    · subst c; exact .inr hB
    · exact .inl (by rw [← upd_ne (H := g.F) (o := u) c]; exact e)⟩
  have R1 := R.less (B := B) (Le.upd hB)
  refine ⟨⟨R1.b, fun a o e => ?_, fun k o hk => (R1.o k o hk).ext ext, fun k o hk hl => ⟨(R1.nb k o hk hl).1, ?_⟩, R1.inj⟩, ext⟩
  · by_cases c : a = p
    · subst c
      have e : upd g.F a u a = some o := e
      rw [upd_same] at e
      exact R.b a o (by rw [upd_same]; exact e)
    · have e : upd g.F p u a = some o := e
      rw [upd_ne c] at e
      exact R.f a o e
  · show upd g.F p u (g.ρ k) = none
    rw [upd_ne (fun z => by
      have := (R.nb k o hk hl).1
      rw [z, upd_same] at this; cases this)]
    exact (R1.nb k o hk hl).2

/-- the items -/
def lcL (tg : GM) (t : TM) (f : EM) (sd0 : Sl) : List D → Own → Option (List D × Own)
  | [], own => some ([], own)
  | x :: xs, own => match tg x sd0 with
    | none => none
    | some sd1 => match t sd1 own with
      | some (.ok true, o1) => (match f sd1 o1 with
        | some (.ok (.d d), o2) => (match lcL tg t f sd0 xs o2 with
          | some (ds, o3) => some (d :: ds, o3)
          | none => none)
        | _ => none)
      | some (.ok false, o1) => lcL tg t f sd0 xs o1
      | _ => none
def eLC (src : IM) (vs : List Nat) (tg : GM) (t : TM) (f : EM) : EM := src.bind fun xs => fun sd own => if xs.length < sizeLine then (match lcL tg t f (wipeD sd vs) xs own with
  | some (ds, o) => some (.ok (.d (.lst ds)), o)
  | none => none) else none
def tTrue : TM := M.ret true
/-- nothing is raised here -/
abbrev E00 : L2.St → XK := fun _ _ _ _ => False
section
variable {X : Cx} {Y : Cy} {tgx iter elt : Expr} {ifs : List Expr} {scope : Scope} {own : List (Str × Nat)} {pos : Pos} {src : IM} {tg : GM} {gg : TG} {is : List Nat} {t : TM} {f : EM}
theorem PTs.imp {X : Cx} {l : List Expr} {t t' : TT} (h : PTs X l t) (i : ∀ σ H Q, t' σ H Q → t σ H Q) : PTs X l t' := ⟨fun pins s σ H Q I q => h.run pins s σ H Q I (i σ H Q q)⟩
theorem rpt_nil : PTs X [] (trT Y tTrue) := PTs.imp pts_nil fun σ H Q q => by
  obtain ⟨gh, sd, own, R, S, q⟩ := q
  exact at_ret q gh true H R .rfl' rfl
theorem rpt_one {c : Expr} (h : PT X c (trT Y t)) : PTs X [c] (trT Y t) := pts_one h
/-- whatever is to stay -/
def anyB (T : Tb) (f : EM) : TE := fun σ H Q => ∃ B, trE ⟨T, B, E00⟩ f σ H Q
def anyT (T : Tb) (t : TM) : TT := fun σ H Q => ∃ B, trT ⟨T, B, E00⟩ t σ H Q
theorem pe_any {e : Expr} {T : Tb} (h : ∀ B, PE X e (trE ⟨T, B, E00⟩ f)) : PE X e (anyB T f) := ⟨fun pins s σ H Q I q => q.elim fun B q => (h B).run pins s σ H Q I q⟩
theorem pt_any {l : List Expr} {T : Tb} (h : ∀ B, PTs X l (trT ⟨T, B, E00⟩ t)) : PTs X l (anyT T t) := ⟨fun pins s σ H Q I q => q.elim fun B q => (h B).run pins s σ H Q I q⟩
theorem lc_at (og : OG Y.T gg tg is) (hv : ∀ i ∈ is, i ∈ own.map (·.2)) {σ : L2.St} {H : Hp} {Q : VK} (q : trE Y (eLC src (own.map (·.2)) tg t f) σ H Q) : tLc (trI Y src) gg (anyT Y.T t) (anyB Y.T f) (own.map (·.2)) σ H Q := by
  obtain ⟨gh, sd, own0, R, S, q⟩ := q
  refine at_bind R S q fun g1 o1 xs J H1 R1 S1 e1 wk q1 => ?_
  obtain ⟨r, own', e, k⟩ := q1
  by_cases hz : xs.length < sizeLine
  case neg => simp only [if_neg hz] at e; cases e
  simp only [if_pos hz] at e
  cases el : lcL tg t f (wipeD sd (own.map (·.2))) xs o1 with
  | none => simp only [el] at e; cases e
  | some p =>
    obtain ⟨ds, oF⟩ := p
    simp only [el] at e
    cases e
    intro Dn hD
    obtain ⟨hB, hF⟩ := R1.free hD
    refine ⟨fun i m H => m = xs.length - i ∧ i ≤ xs.length ∧ ∃ (acc : List D) (accV : List V) (rest : List D) (g2 : Gh) (o2 : Own), HRel Y.T (upd Y.B Dn (.lst accV)) g2 o2 H ∧ g2.F Dn = none ∧ Reps Y.T g2.F acc accV ∧
      GExt Y.B g1 o1.length g2 o2.length ∧ lcL tg t f (wipeD sd (own.map (·.2))) (xs.drop i) o2 = some (rest, own') ∧ acc ++ rest = ds ∧ acc.length ≤ i,
      ⟨xs.length, by omega, Nat.zero_le _, [], [], ds, g1, o1, R1.guard hD, hF, .nil, .rfl', by rw [List.drop_zero]; exact el, rfl, Nat.le_refl _⟩, ?_⟩
    rintro i m H2 ⟨rfl, hi, acc, accV, rest, g2, o2, R2, F2, r2, e2, l2, ea, hl⟩
    have R2' := R2.less (B := Y.B) (Le.upd hB)
    by_cases c : i < xs.length
    · refine .inr ⟨wk.go _ i g2 o2 H2 R2 e2.F c, fun H' => i + 1 ≤ xs.length ∧ ∃ (acc : List D) (accV : List V) (rest : List D) (g2 : Gh) (o2 : Own), HRel Y.T (upd Y.B Dn (.lst accV)) g2 o2 H' ∧ g2.F Dn = none ∧ Reps Y.T g2.F acc accV ∧
        GExt Y.B g1 o1.length g2 o2.length ∧ lcL tg t f (wipeD sd (own.map (·.2))) (xs.drop (i + 1)) o2 = some (rest, own') ∧ acc ++ rest = ds ∧ acc.length ≤ i + 1,
        fun H' w => ⟨xs.length - (i + 1), by omega, rfl, w⟩, fun x H' y => ?_⟩
      have hx : xs[i]? = some xs[i] := by simp [c]
      obtain ⟨g3, R3, e3, r3⟩ := wk.yld _ i g2 o2 H2 x H' xs[i] R2 e2.F y hx
      have F3 : g3.F Dn = none := by
        cases q : g3.F Dn with
        | none => rfl
        | some u =>
          rcases e3.fb _ _ q with h | h
          · rw [F2] at h; cases h
          · rw [upd_same] at h; cases h
      rw [List.drop_eq_getElem_cons c] at l2
      unfold lcL at l2
      have S3 : SRel Y.T g3 o2.length sd σ := (S1.ext e2).ext e3
      cases et : tg xs[i] (wipeD sd (own.map (·.2))) with
      | none => simp only [et] at l2; cases l2
      | some sd3 =>
        simp only [et] at l2
        refine og _ g3 o2 H' xs[i] x _ sd3 _ _ R3 r3 (srel_wipe S3 _) et fun σ3 S4 u => ⟨wipe_eq u hv, ?_⟩
        cases ec : t sd3 o2 with
        | none => simp only [ec] at l2; cases l2
        | some pc =>
          obtain ⟨rc, o3⟩ := pc
          cases rc with
          | ex cc fs => simp only [ec] at l2; cases l2
          | ok bb =>
            simp only [ec] at l2
            refine ⟨upd Y.B Dn (.lst accV), g3, sd3, o2, R3, S4, .ok bb, o3, ec, fun g4 b' H4 R4 e4 eb => ?_⟩
            obtain rfl : bb = b' := eb
            have F4 : g4.F Dn = none := by
              cases q : g4.F Dn with
              | none => rfl
              | some u =>
                rcases e4.fb _ _ q with h | h
                · rw [F3] at h; cases h
                · exact absurd ((upd_same (H := Y.B) (a := Dn) (o := .lst accV)).symm.trans h) (by simp)
            have e34 := (e3.trans e4).less (B := Y.B) (Le.upd hB)
            cases bb with
            | false =>
              rw [if_neg (by decide)]
              simp only at l2
              exact ⟨c, acc, accV, rest, g4, o3, R4, F4, r2.le (e3.F.trans e4.F), e2.trans e34, l2, ea, Nat.le_succ_of_le hl⟩
            | true =>
              rw [if_pos rfl]
              simp only at l2
              cases ef : f sd3 o3 with
              | none => simp only [ef] at l2; cases l2
              | some pf =>
                obtain ⟨rf, o4⟩ := pf
                cases rf with
                | ex cc fs => simp only [ef] at l2; cases l2
                | ok s =>
                  cases s with
                  | h kk => simp only [ef] at l2; cases l2
                  | d d =>
                    simp only [ef] at l2
                    cases er : lcL tg t f (wipeD sd (own.map (·.2))) (xs.drop (i + 1)) o4 with
                    | none => simp only [er] at l2; cases l2
                    | some pr =>
                      obtain ⟨rs, o5⟩ := pr
                      simp only [er] at l2
                      cases l2
                      refine ⟨upd Y.B Dn (.lst accV), g4, sd3, o3, R4, S4.ext e4, .ok (.d d), o4, ef, fun g5 v H5 R5 e5 rv => ?_⟩
                      have F5 : g5.F Dn = none := by
                        cases q : g5.F Dn with
                        | none => rfl
                        | some u =>
                          rcases e5.fb _ _ q with h | h
                          · rw [F4] at h; cases h
                          · exact absurd ((upd_same (H := Y.B) (a := Dn) (o := .lst accV)).symm.trans h) (by simp)
                      have e345 := ((e3.trans e4).trans e5).less (B := Y.B) (Le.upd hB)
                      have r5 := r2.le ((e3.F.trans e4.F).trans e5.F)
                      refine ⟨accV, R5.b _ _ upd_same, by rw [← r2.length]; omega, c, acc ++ [d], accV ++ [v], rs, g5, o4, R5.reb F5, F5, r5.snoc rv, e2.trans e345, er, by rw [← ea]; simp, by simp; exact hl⟩
    · have e : i = xs.length := by omega
      subst e
      rw [List.drop_length] at l2
      cases l2
      rw [List.append_nil] at ea
      subst ea
      obtain ⟨R3, e3⟩ := R2.unguard F2 hB
      exact .inl ⟨wk.stop _ _ g2 _ H2 R2 e2.F (Nat.le_refl _), k _ _ H2 R3 (e2.trans e3) (Rep.lst upd_same (r2.le e3.F))⟩
theorem r_lc (hN : X.N.Nodup) (hi : PI X tgx iter (trI Y src)) (ok : BlkOk X.N X.env.scope scope own)
    (hg : ∀ (s : Shared) (H : Hp) (C : Addr) (cl : List (Str × Addr)) (fp : List Addr), PG (X.blk s H scope (compEnvC scope cl C X.env) fp) tgx gg) (og : OG Y.T gg tg is) (hv : ∀ i ∈ is, i ∈ own.map (·.2))
    (ht : ∀ (B : Hp) (s : Shared) (H : Hp) (C : Addr) (cl : List (Str × Addr)) (fp : List Addr), PTs (X.blk s H scope (compEnvC scope cl C X.env) fp) ifs (trT ⟨Y.T, B, E00⟩ t))
    (he : ∀ (B : Hp) (s : Shared) (H : Hp) (C : Addr) (cl : List (Str × Addr)) (fp : List Addr), PE (X.blk s H scope (compEnvC scope cl C X.env) fp) elt (trE ⟨Y.T, B, E00⟩ f)) (hc : X.calm = true := by rfl) (hs : ∀ x, foldedSetIterable iter X.env x = pure x := by intro _; rfl) :
    PE X (.ListComp elt [⟨tgx, iter, ifs, 0⟩] scope pos) (trE Y (eLC src (own.map (·.2)) tg t f)) :=
  PE.imp (pe_lc hc hN hi ok hg (fun s H C cl fp => pt_any fun B => ht B s H C cl fp) (fun s H C cl fp => pe_any fun B => he B s H C cl fp) hs) fun _ _ _ q => lc_at og hv q
theorem rs_setLc {i : Nat} {y : Str} {py spos : Pos} (hN : X.N.Nodup) (hi : PI X tgx iter (trI Y src)) (ok : BlkOk X.N X.env.scope scope own)
    (hg : ∀ (s : Shared) (H : Hp) (C : Addr) (cl : List (Str × Addr)) (fp : List Addr), PG (X.blk s H scope (compEnvC scope cl C X.env) fp) tgx gg) (og : OG Y.T gg tg is) (hv : ∀ i ∈ is, i ∈ own.map (·.2))
    (ht : ∀ (B : Hp) (s : Shared) (H : Hp) (C : Addr) (cl : List (Str × Addr)) (fp : List Addr), PTs (X.blk s H scope (compEnvC scope cl C X.env) fp) ifs (trT ⟨Y.T, B, E00⟩ t))
    (he : ∀ (B : Hp) (s : Shared) (H : Hp) (C : Addr) (cl : List (Str × Addr)) (fp : List Addr), PE (X.blk s H scope (compEnvC scope cl C X.env) fp) elt (trE ⟨Y.T, B, E00⟩ f)) (hy : X.N[i]? = some y := by rfl) (hyl : X.env.scope.names.lookup y = some .local := by rfl)
    (hsw : swapsWith (.ListComp elt [⟨tgx, iter, ifs, 0⟩] scope pos) (some (.Name y py)) spos.line X.env = pure true := by exact sw_true rfl rfl rfl (by decide +kernel)) (hc : X.calm = true := by rfl) (hs : ∀ x, foldedSetIterable iter X.env x = pure x := by intro _; rfl) :
    PS X (.Assign [.Name y py] (.ListComp elt [⟨tgx, iter, ifs, 0⟩] scope pos) spos) (trS Y (sSet i (eLC src (own.map (·.2)) tg t f))) :=
  PS.imp (ps_setLc hc hN hy hyl hsw hi ok hg (fun s H C cl fp => pt_any fun B => ht B s H C cl fp) (fun s H C cl fp => pe_any fun B => he B s H C cl fp) hs) fun D σ H q => by
    refine lc_at og hv ?_
    obtain ⟨gh, sd, own0, R, S, q⟩ := q
    refine s_bind R S q fun g1 o1 x v H1 R1 S1 e1 rx q1 => ?_
    exact sat_nx q1 rfl g1 _ H1 R1 (S1.set rx) .rfl'
end
end Gx
end T_GxR9
section T_GxR10
set_option Elab.async false
set_option linter.all false
set_option maxRecDepth 100000
set_option maxHeartbeats 4000000
namespace Gx
open PySem PySem.Spec PyProof.Rows L2

/-! ## fields -/
theorem zip_look : ∀ {ns : List Str} {ws : List V} {i : Nat} {n : Str} {v : V}, ns.Nodup → ns[i]? = some n → ws[i]? = some v → (ns.zip ws).lookup n = some v
  | [], _, _, _, _, _, h, _ => by simp at h
  | m :: ns, [], _, _, _, _, _, h => by simp at h
  | m :: ns, w :: ws, 0, n, v, _, h1, h2 => by
    simp at h1 h2
    subst h1 h2
    simp [List.lookup]
  | m :: ns, w :: ws, i + 1, n, v, nd, h1, h2 => by
    rw [List.nodup_cons] at nd
    have h1 : ns[i]? = some n := by simpa using h1
    have h2 : ws[i]? = some v := by simpa using h2
    have ne : n ≠ m := fun z => nd.1 (by rw [← z]; exact List.mem_of_getElem? h1)
    have ih := zip_look nd.2 h1 h2
    rw [List.zip_cons_cons, List.lookup_cons, beq_false_of_ne ne]
    exact ih
theorem zip_put : ∀ {ns : List Str} {ws : List V} {i : Nat} {n : Str} {v : V}, ns.Nodup → ns[i]? = some n → i ≤ ws.length → putF n v (ns.zip ws) = ns.zip (if i < ws.length then ws.set i v else ws ++ [v])
  | [], _, _, _, _, _, h, _ => by simp at h
  | m :: ns, [], 0, n, v, _, h, _ => by
    simp at h; subst h
    simp [putF]
  | m :: ns, [], i + 1, _, _, _, _, h => by simp at h
  | m :: ns, w :: ws, 0, n, v, _, h1, h2 => by
    simp at h1
    subst h1
    simp [putF]
  | m :: ns, w :: ws, i + 1, n, v, nd, h1, h2 => by
    rw [List.nodup_cons] at nd
    have h1 : ns[i]? = some n := by simpa using h1
    have ne : ¬ (m = n) := fun z => nd.1 (by rw [z]; exact List.mem_of_getElem? h1)
    have ih := zip_put (ws := ws) (v := v) nd.2 h1 (by simpa using h2)
    rw [List.zip_cons_cons]
    unfold putF
    rw [if_neg ne, ih]
    by_cases c : i < ws.length
    · rw [if_pos c, if_pos (by simp; exact c)]; rfl
    · rw [if_neg c, if_neg (by simp; omega)]; rfl
theorem flds_nd : ∀ c : Nat, (flds c).Nodup := by
  intro c
  unfold flds
  split <;> decide +kernel
/-- o.f, the i-th field of the class c -/
def eFld (c i : Nat) (f : EM) : EM := f.bind fun x => M.ask fun own => match x with
  | .d (.obj c' vs) => if c' = c then (vs[i]?).map SV.d else none
  | .h k => match own[k]? with
    | some (.ins c' vs) => if c' = c then vs[i]? else none
    | _ => none
  | _ => none
/-- o.f = e -/
def putFld (c i : Nat) (own : Own) (o x : SV) : Option Own := match o with
  | .h k => match own[k]? with
    | some (.ins c' vs) => if c' = c ∧ i ≤ vs.length then some (own.set k (.ins c (if i < vs.length then vs.set i x else vs ++ [x]))) else none
    | _ => none
  | _ => none
def sFldS (c i : Nat) (o e : EM) : SM := SM.bind e fun x => SM.bind o fun a => fun sd own => (putFld c i own a x).map fun own' => .nx sd own'
section
variable {X : Cx} {Y : Cy} {pos pos' : Pos} {a b : Expr} {f g : EM} {name : Str} {c i : Nat}
theorem r_fld (c i : Nat) (cl : Cls X.K (Y.T.ct c)) (na : NoAttr X.K (Y.T.ct c) name) (h : PE X a (trE Y f)) (hf : (flds c)[i]? = some name := by rfl) (hb : attributeBase a name X.env (eval a X.env) = eval a X.env := by rfl) : PE X (.Attribute a name pos) (trE Y (eFld c i f)) := by
  refine PE.imp (pe_fld h hb) fun σ H Q q => ?_
  obtain ⟨gh, sd, own, R, S, q⟩ := q
  refine at_bind R S q fun g1 o1 x v H1 R1 S1 e1 rx q1 => ?_
  obtain ⟨s, es, k⟩ := at_ask q1
  cases x with
  | d d =>
    cases d with
    | obj c' vs =>
      have es2 : (if c' = c then (vs[i]?).map SV.d else none) = some s := es
      clear es
      by_cases cc : c' = c
      · rw [if_pos cc] at es2
        subst cc
        obtain ⟨d, e2, e3⟩ := Option.map_eq_some_iff.mp es2
        subst e3
        have rx : Rep Y.T g1.F (.obj c' vs) v := rx
        cases rx with
        | @obj p dx _ ws _ h1 h2 h3 =>
          obtain ⟨v, e4, r4⟩ := h3.get e2
          exact ⟨p, _, dx, _, v, rfl, R1.f _ _ h1, cl, na, zip_look (flds_nd _) hf e4, k g1 v H1 R1 .rfl' r4⟩
      · rw [if_neg cc] at es2; cases es2
    | _ => cases es
  | h kk =>
    have es : (match o1[kk]? with | some (.ins c' vs) => if c' = c then vs[i]? else none | _ => none) = some s := es
    cases eo : o1[kk]? with
    | none => rw [eo] at es; cases es
    | some o =>
      rw [eo] at es
      cases o with
      | ins c' vs =>
        have es2 : (if c' = c then vs[i]? else none) = some s := es
        clear es
        by_cases cc : c' = c
        · rw [if_pos cc] at es2
          subst cc
          obtain ⟨dx, ws, h1, h2, h3⟩ := R1.o kk _ eo
          obtain ⟨v2, e4, r4⟩ := h3.get es2
          have hv := rx.2
          subst hv
          exact ⟨_, _, dx, _, v2, rfl, h1, cl, na, zip_look (flds_nd _) hf e4, k g1 v2 H1 R1 .rfl' r4⟩
        · rw [if_neg cc] at es2; cases es2
      | _ => cases es
theorem flds_few (c : Nat) : (flds c).length ≤ 4 := by
  unfold flds
  split <;> decide
theorem rs_fld (c i : Nat) (cl : Cls X.K (Y.T.ct c)) (na : NoAttr X.K (Y.T.ct c) name) (ho : PE X a (trE Y f)) (hv : PE X b (trE Y g)) (hf : (flds c)[i]? = some name := by rfl) (hs : swapsWith b (some (.Attribute a name pos')) pos.line X.env = pure false := by rfl) :
    PS X (.Assign [.Attribute a name pos'] b pos) (trS Y (sFldS c i f g)) := by
  refine PS.imp (ps_fld ho hv hs) fun D σ H q => ?_
  obtain ⟨gh, sd, own, R, S, q⟩ := q
  refine s_bind R S q fun g1 o1 x v H1 R1 S1 e1 rx q1 => ?_
  refine s_bind R1 S1 q1 fun g2 o2 y w H2 R2 S2 e2 ry q2 => ?_
  obtain ⟨r, e, k⟩ := q2
  obtain ⟨own', e3, e4⟩ := Option.map_eq_some_iff.mp e
  subst e4
  cases y with
  | d d => cases e3
  | h kk =>
    have e3 : (match o2[kk]? with | some (.ins c' vs) => if c' = c ∧ i ≤ vs.length then some (o2.set kk (.ins c (if i < vs.length then vs.set i x else vs ++ [x]))) else none | _ => none) = some own' := e3
    cases eo : o2[kk]? with
    | none => rw [eo] at e3; cases e3
    | some o =>
      rw [eo] at e3
      cases o with
      | ins c' vs =>
        have e3 : (if c' = c ∧ i ≤ vs.length then some (o2.set kk (.ins c (if i < vs.length then vs.set i x else vs ++ [x]))) else none) = some own' := e3
        by_cases cc : c' = c ∧ i ≤ vs.length
        · rw [if_pos cc] at e3
          cases e3
          obtain ⟨rfl, hi⟩ := cc
          obtain ⟨dx, ws, h1, h2, h3⟩ := R2.o kk _ eo
          have hw := ry.2
          subst hw
          have hl := h3.length
          have rx2 := rx.ext e2
          refine ⟨_, _, dx, _, rfl, h1, cl, na, ?_, ?_⟩
          · have := flds_few c'
            rw [List.length_zip]
            omega
          · rw [zip_put (flds_nd _) hf (by rw [← hl]; exact hi)]
            have fi : i < (flds c').length := (List.getElem?_eq_some_iff.mp hf).1
            have R3 := R2.put (ho := .ins (Y.T.ct c') dx ((flds c').zip (if i < ws.length then ws.set i v else ws ++ [v]))) (o' := .ins c' (if i < vs.length then vs.set i x else vs ++ [x])) eo rfl (by
              refine ⟨dx, _, upd_same, ?_, ?_⟩
              · by_cases c3 : i < ws.length
                · rw [if_pos c3, List.length_set]; exact h2
                · rw [if_neg c3, List.length_append]; simp; omega
              · rw [← hl]
                by_cases c3 : i < vs.length
                · rw [if_pos c3, if_pos c3]; exact h3.set i rx2
                · rw [if_neg c3, if_neg c3]; exact h3.snoc rx2)
            exact k g2 σ _ R3 (by rw [List.length_set]; exact S2) (by rw [List.length_set]; exact .rfl')
        · rw [if_neg cc] at e3; cases e3
      | _ => cases e3
end
/-! ## a new instance -/
structure Ma (P : Program) (w : World) (K : PySem.W.Frag) (mg : Str → Option Value) (base : Heap) (T : Tb) (k : Nat) (x : Str) (c n : Nat) (Ff : FM) : Prop where
  ex : ∃ (f : Addr) (fd : FuncData) (ps : List Str), mg x = some (.ref (T.ct c)) ∧ Mk K (T.ct c) f ∧ Binds K fd ps [] ∧ FnOk P w K mg base (L2.CX P w) k f fd ps (spF T (n + 1) Ff)
/-- the instance is data behind its __init__ -/
def makeD (c n : Nat) (Ff : FM) (xs : List SV) : EM := fun _ own => if xs.length ≠ n then none else match dats xs with
  | none => none
  | some _ => match Ff (.h 0 :: xs) [.ins c []] with
    | some (.ok (.d .non), own') => (match (own'[0]?).bind frzO with
      | some z => some (.ok (.d z), own)
      | none => none)
    | some (.ex k fs, _) => some (.ex k fs, own)
    | _ => none
def eMakeD (c n : Nat) (Ff : FM) (a : AM) : EM := a.bind fun xs => makeD c n Ff xs
/-- .. is one of ours -/
def makeH (c n : Nat) (Ff : FM) (xs : List SV) : EM := fun _ own => if xs.length ≠ n then none else match dats xs with
  | none => none
  | some _ => match Ff (.h 0 :: xs) [.ins c []] with
    | some (.ok (.d .non), own') => (match own'[0]? with
      | some o => if flatO o = true then some (.ok (.h own.length), own ++ [o]) else none
      | none => none)
    | some (.ex k fs, _) => some (.ex k fs, own)
    | _ => none
def eMakeH (c n : Nat) (Ff : FM) (a : AM) : EM := a.bind fun xs => makeH c n Ff xs
section
variable {X : Cx} {CX : CXT} {k : Nat} {C f : Addr} {fd : FuncData} {ps : List Str} {sp : Sp} {E : L2.St → XK} {x : Str} {p pos : Pos} {e : Expr} {es : List Expr} {t : TA}
/-- C(e, ..): what is raised is wished for at the caller's slots -/
def tMakeS (C : Addr) (sp : Sp) (E : L2.St → XK) (t : TA) : TE := fun σ H Q => t σ H fun vs H1 => ∀ x dx, H1 x = none → H1 dx = none → dx ≠ x →
  sp (.ref x :: vs) (upd (upd H1 dx (.own x)) x (.ins C dx [])) (fun v H2 => v = .non ∧ Q (.ref x) H2) (E σ)
theorem pe_makeS (M1 : Mk X.K C f) (F : FnOk X.prog X.w X.K X.mg X.base CX k f fd ps sp) (hr : Room (k + 1) X.A) (hg : Gl X x) (hm : X.mg x = some (.ref C)) (hb : Binds X.K fd ps []) (hx : ∀ σ, PassesAt CX X σ (E σ))
    (ha : PA X (e :: es) t) (hdb : (x == ("__debug__" : Str)) = false := by decide) (he : starEach (e :: es) X.env = (false, eval e X.env) :: starEach es X.env := by rfl) (hpl : (backTo pos (starEach es X.env)).any (·.1) = false := by rfl) :
    PE X (.Call (.Name x p) (e :: es) [] pos) (tMakeS C sp E t) := by
  constructor
  intro pins s σ H Q I h
  apply wpAny_Call_Name_kw
  apply ld_glob I hg hm _ hdb
  apply PySem.W.callWith_K (h₀ := X.base) I.ok.mod.kin M1.kp _ he hpl
  apply thn (ha.run pos pins s σ H _ I h)
  rintro us s1 ⟨vs, H1, I1, rv, wish⟩
  refine And.intro I1.kIn ?_
  -- the new instance, its dict ahead of it
  have w1 := wish (s1.heap.objs.size + 1) s1.heap.objs.size (I1.hok.fresh (Nat.le_succ _)) (I1.hok.fresh (Nat.le_refl _)) (Nat.ne_of_lt (Nat.lt_succ_self _))
  have J := Inv.made (C := C) I1
  have rvs : Vals (V.ref (s1.heap.objs.size + 1) :: vs) (Value.ref (s1.heap.objs.size + 1) :: us) := Paired.cons rfl rv
  have hl : (Value.ref (s1.heap.objs.size + 1) :: us).length = ps.length := (rvs.length.symm).trans (F.len _ _ _ _ w1)
  have bound := hb _ (Value.ref (s1.heap.objs.size + 1) :: us) J.kIn (by rw [List.append_nil]; exact hl)
  rw [List.append_nil] at bound
  have ran := F.run _ X.stack _ _ ⟨Value.ref (s1.heap.objs.size + 1) :: us, []⟩ (Value.ref (s1.heap.objs.size + 1) :: us) _ _ (E σ) (hr.make C us []) (J.env0.make C us []) bound rvs w1
  apply wpAny_call
  apply make_map (f := f) I1.kIn M1.makes M1.init (beq_iff_eq.mp M1.fn)
  apply codeAny_mono ran
  intro r s2 hr2
  match r, hr2 with
  | .error u, hr2 => exact hx σ pins _ _ u s2 J hr2
  | .ok (.ret u), hr2 =>
    obtain ⟨v, H3, I3, ru, ev, q3⟩ := J.after hr2
    subst ev
    exact And.intro ru ⟨V.ref (s1.heap.objs.size + 1), H3, I3, rfl, q3⟩
  | .ok .next, hr2 => exact (show False from hr2).elim
  | .ok .brk, hr2 => exact (show False from hr2).elim
  | .ok .cont, hr2 => exact (show False from hr2).elim
end
/-- a callee started with a new instance -/
theorem hrel_ins {T : Tb} {F H1 : Hp} {x dx : Addr} {c : Nat} (l : Le F H1) (hx : H1 x = none) (hd : H1 dx = none) :
    HRel T (wo (upd (upd H1 dx (.own x)) x (.ins (T.ct c) dx [])) x) ⟨F, fun _ => x⟩ [.ins c []] (upd (upd H1 dx (.own x)) x (.ins (T.ct c) dx [])) := by
  refine ⟨wo_le, fun a o e => ?_, fun j q e => ?_, fun j q e hl => ⟨wo_same, ?_⟩, fun i j p q e1 e2 _ _ _ => ?_⟩
  · have e2 := l _ _ e
    rw [upd_ne (ne_of_none e2 hx), upd_ne (ne_of_none e2 hd)]; exact e2
  · match j, e with
    | 0, e => cases e; exact ⟨dx, [], by rw [List.zip_nil_right]; exact upd_same, Nat.zero_le _, .nil⟩
    | j + 1, e => simp at e
  · show F x = none
    cases e : F x with
    | none => rfl
    | some o => rw [l _ _ e] at hx; cases hx
  · match i, j, e1, e2 with
    | 0, 0, _, _ => rfl
    | i + 1, _, e1, _ => simp at e1
    | 0, j + 1, _, e2 => simp at e2
theorem ins_keep {H1 H' : Hp} {x dx : Addr} {o : HO} (hx : H1 x = none) (hd : H1 dx = none) (b : Le (wo (upd (upd H1 dx (.own x)) x o) x) H') : Le H1 H' := fun a u e => by
  have n1 := ne_of_none e hx
  refine b a u ?_
  rw [wo_ne n1, upd_ne n1, upd_ne (ne_of_none e hd)]; exact e
theorem ins_fb {H1 : Hp} {x dx : Addr} {o : HO} (hx : H1 x = none) {a : Addr} (b : wo (upd (upd H1 dx (.own x)) x o) x a = none) : H1 a = none := by
  by_cases c : a = x
  · rw [c]; exact hx
  · rw [wo_ne c, upd_ne c] at b
    by_cases c2 : a = dx
    · rw [c2, upd_same] at b; cases b
    · rw [upd_ne c2] at b; exact b
section
variable {X : Cx} {Y : Cy} {k j n c : Nat} {x : Str} {Ff : FM} {p pos : Pos} {a : Expr} {es : List Expr} {al : AM}
theorem r_makeD (m : Ma X.prog X.w X.K X.mg X.base Y.T k x c n Ff) (hr : Room j X.A) (hk : k + 1 ≤ j) (cx : CxOk X Y) (ha : PA X (a :: es) (trA Y al)) (hg : Gl X x := by rfl) (hdb : (x == ("__debug__" : Str)) = false := by decide)
    (he : starEach (a :: es) X.env = (false, eval a X.env) :: starEach es X.env := by rfl) (hpl : (backTo pos (starEach es X.env)).any (·.1) = false := by rfl) : PE X (.Call (.Name x p) (a :: es) [] pos) (trE Y (eMakeD c n Ff al)) := by
  obtain ⟨f, fd, ps, hm, hM, hb, F⟩ := m.ex
  refine PE.imp (pe_makeS (E := Y.Ek) hM F (hr.mono hk) hg hm hb cx.pass ha hdb he hpl) fun σ H Q q => ?_
  obtain ⟨gh, sd, own, R, S, q⟩ := q
  refine at_bind R S q fun g1 o1 xs vs H1 R1 S1 e1 rs q1 => ?_
  obtain ⟨r, own2, e, kq⟩ := q1
  intro x dx hx hd hne
  unfold makeD at e
  by_cases hl : xs.length = n
  case neg => rw [if_pos hl] at e; cases e
  rw [if_neg (fun z => z hl)] at e
  cases ed : dats xs with
  | none => simp only [ed] at e; cases e
  | some ds =>
    simp only [ed] at e
    cases ef : Ff (.h 0 :: xs) [.ins c []] with
    | none => simp only [ef] at e; cases e
    | some pr =>
      obtain ⟨rf, of⟩ := pr
      simp only [ef] at e
      refine ⟨_, ⟨g1.F, fun _ => x⟩, [.ins c []], .h 0 :: xs, hrel_ins R1.f hx hd, .cons ⟨by simp, rfl⟩ (dats_rss (g := g1) (g' := ⟨g1.F, fun _ => x⟩) (fun _ _ h => h) xs vs ds ed rs), by rw [List.length_cons, hl], rf, of, ef, ?_⟩
      cases rf with
      | ok s =>
        cases s with
        | h j => simp only at e; cases e
        | d z =>
          cases z with
          | non =>
            simp only at e
            cases er : (of[0]?).bind frzO with
            | none => simp only [er] at e; cases e
            | some z =>
              simp only [er] at e
              cases e
              intro g' v H' R' e' rv
              obtain ⟨o, eo, ez⟩ := Option.bind_eq_some_iff.mp er
              obtain ⟨ho, eh, rz⟩ := frz_rel R' eo ez
              obtain ⟨R3, e3⟩ := R'.freeze eo (frzO_live ez) eh
              have e4 := e'.trans e3
              have ρ0 : g'.ρ 0 = x := e'.ρ 0 (by simp)
              rw [ρ0] at rz e4 R3
              obtain ⟨R2, e2⟩ := R1.after (F' := L2.upd g'.F x ho) (ins_keep hx hd R'.b) e4.F R3.f fun a o h => (e4.fb a o h).imp id (ins_fb hx)
              exact ⟨rep_non rv, kq _ _ H' R2 e2 rz⟩
          | _ => simp only at e; cases e
      | ex cc fs =>
        simp only at e
        cases e
        intro g' d H' R' e' xd
        obtain ⟨R2, e2⟩ := R1.after (ins_keep hx hd R'.b) e'.F R'.f fun a o h => (e'.fb a o h).imp id (ins_fb hx)
        refine kq _ d H' R2 e2 ?_
        rcases xd with xd | ⟨a, ws, h1, h2, h3⟩
        · exact .inl xd
        · exact .inr ⟨a, ws, h1, h2, h3⟩
end
end Gx
end T_GxR10
section T_GxE1
set_option Elab.async false
set_option linter.all false
set_option maxRecDepth 100000
set_option maxHeartbeats 4000000
namespace Gx
open PySem PySem.Spec PyProof.Rows L2

/-! ## an exception's __init__ that asks super() -/
/-- {x}: a text, an int, None -/
def tFn (te : TE) : TE := fun σ H Q => te σ H fun x H1 => (∃ i : Int, x = .int i ∧ i.natAbs.log2 < 1920 ∧ Q (.str (toString i)) H1) ∨ (x = .non ∧ Q (.str "None") H1)
section
variable {X : Cx}
end

/-- the context of such a body -/
def cxS (P : Program) (w : World) (K : PySem.W.Frag) (mg : Str → Option Value) (base : Heap) (N : List Str) (qual : Str) (scope : Scope) (f : Addr) (cd : Value) (cc : Addr) (A : Around) (outer : List Env) (s : Shared) (H : Hp) (E : XK) : Cx where
  prog := P
  w := w
  K := K
  mg := mg
  base := base
  A := A.deeper (PySem.W.ksEnv qual scope s.heap.objs.size f cd cc)
  N := N
  s_0 := s
  H_0 := H
  env := PySem.W.ksEnv qual scope s.heap.objs.size f cd cc
  outer := outer
  stack := PySem.W.ksEnv qual scope s.heap.objs.size f cd cc :: outer
  ex := []
  calm := true
  fn := fun _ => false
  pn := []
  xe := fun e s' => wpAny (model P w) (A.deeper (PySem.W.ksEnv qual scope s.heap.objs.size f cd cc)) (leaving (PySem.W.ksEnv qual scope s.heap.objs.size f cd cc) e) (fun _ s'' => L2.CX P w outer H s E e s'') (fun e' s'' => L2.CX P w outer H s E e' s'') s'

/-- the scope of such a body -/
structure SupScope (N ps : List Str) (sc : Scope) : Prop where
  kind : sc.kind = .function
  co : sc.isCoroutine = false
  gen : sc.isGenerator = false
  nd : N.Nodup
  pre : N.take ps.length = ps
  par : ∀ x ∈ ps, sc.names.lookup x = some .local
  nocell : ∀ x ∈ sc.names, x.2 ≠ .cell
  free : ∀ x, sc.names.lookup x = some .free → x = "__class__"
  sup : sc.names.lookup ("super" : Str) = some .globalImplicit
  cls : sc.names.lookup ("__class__" : Str) = some .free

theorem zip_sub : ∀ (ps : List Str) (us : List Value), ((ps.zip us).map (·.1)).Sublist ps
  | [], _ => by simp
  | p :: ps, [] => by simp
  | p :: ps, u :: us => by
    rw [List.zip_cons_cons, List.map_cons]
    exact (zip_sub ps us).cons₂ _
theorem zip_last {ps : List Str} {us : List Value} {i : Nat} {x : Str} {u : Value} (nd : ps.Nodup) (h1 : ps[i]? = some x) (h2 : us[i]? = some u) : (ps.zip us).reverse.lookup x = some u := by
  have key : ∀ (l : List (Str × Value)), (l.map (·.1)).Nodup → (x, u) ∈ l → l.lookup x = some u := by
    intro l
    induction l with
    | nil => intro _ h; cases h
    | cons p l ih =>
      intro nd h
      obtain ⟨y, v⟩ := p
      rw [List.map_cons, List.nodup_cons] at nd
      rcases List.mem_cons.mp h with e | h
      · cases e
        rw [List.lookup_cons, beq_self_eq_true]
      · have ne : x ≠ y := fun z => nd.1 (by rw [← z]; exact List.mem_map.mpr ⟨_, h, rfl⟩)
        rw [List.lookup_cons, beq_false_of_ne ne]
        exact ih nd.2 h
  have hm : (x, u) ∈ ps.zip us := by
    have hz : (ps.zip us)[i]? = some (x, u) := by
      rw [List.getElem?_zip_eq_some]
      exact ⟨h1, h2⟩
    exact List.mem_of_getElem? hz
  refine key _ ?_ (List.mem_reverse.mpr hm)
  rw [List.map_reverse]
  have hs : ((ps.zip us).map (·.1)).Sublist ps := by
    exact zip_sub ps us
  exact List.pairwise_reverse.mpr ((nd.sublist hs).imp fun h => Ne.symm h)

section
variable {P : Program} {w : World} {K : PySem.W.Frag} {mg : Str → Option Value} {base : Heap} {N ps : List Str} {qual : Str} {scope : Scope} {f cc : Addr} {cd : Value} {A : Around} {outer : List Env} {s : Shared} {H : Hp} {E : XK} {us : List Value} {vs : List V}
theorem inv_sup {h1 : Heap} {tk : Nat} {u : Value} (S : SupScope N ps scope) (hd : A.handled = none) (e0 : Env0 P w K mg base A outer s H) (hl : vs.length = ps.length) (r : Vals vs us) (hcc : ∃ oc od osl, K.lookup cc = some ⟨oc, od, .cell (some u), osl⟩)
    (hn : h1.Ns s.heap.objs.size fun x => (ps.zip us).reverse.lookup x) (hk : ∀ b o, s.heap.get? b = some o → h1.get? b = some o) :
    Inv (cxS P w K mg base N qual scope f cd cc A outer s H E) [] (L2.start N vs) H { s with heap := h1, toks := tk } := by
  have hpl : ps.length ≤ N.length := by have := congrArg List.length S.pre; rw [List.length_take] at this; omega
  have noA : ∀ b : Addr, b ∉ (cxS P w K mg base N qual scope f cd cc A outer s H E).ex := fun b z => absurd (show b ∈ ([] : List Addr) from z) (by simp)
  have cells : ∀ y c, (cxS P w K mg base N qual scope f cd cc A outer s H E).env.cells.lookup y = some c → y = "__class__" ∧ c = cc := fun y c e => by
    have e : List.lookup y [(("__class__" : Str), cc)] = some c := e
    rw [List.lookup_cons] at e
    cases hb : (y == ("__class__" : Str)) with
    | false => rw [hb] at e; cases e
    | true => rw [hb] at e; cases e; exact ⟨beq_iff_eq.mp hb, rfl⟩
  obtain ⟨oc, od, osl, hcc⟩ := hcc
  have ccb := e0.mod.kin _ _ hcc
  have ccs := e0.bs _ _ ccb
  refine ⟨⟨e0.mod, S.kind, rfl, rfl, Nat.le_refl _, fun y z c h1 h2 => (cells y c h1).1.trans (cells z c h2).1.symm, fun y hy => ?_, fun y c h => (by cases h), fun _ => hd, Around.frames_deeper e0.frames, .inr ⟨rfl, rfl⟩, fun b z => absurd z (noA b), e0.bs, e0.bsz, fun b _ _ => noA b, fun b z => absurd z (noA b), e0.funs, e0.frf⟩,
    rfl, e0.bare, Un.kept hk, ⟨_, hn, fun i y v h1 h2 h3 => ?_⟩, fun y c h => ?_, e0.hok.fresh (Nat.le_refl _), fun y c h => ?_, fun p hp => absurd (show p ∈ ([] : List (Addr × Obj)) from hp) (by simp), e0.hok.kept hk, ?_⟩
  · have hy : scope.names.lookup y = some .cell ∨ scope.names.lookup y = some .free := hy
    rcases hy with hy | hy
    · exact absurd rfl (S.nocell _ (PySem.mem_of_lookup hy))
    · rw [S.free _ hy]
      exact ⟨cc, rfl⟩
  · have hi : i < vs.length := by
      unfold L2.start at h2
      by_cases hi : i < vs.length
      · exact hi
      · rw [List.getElem?_append_right (by simpa using hi), List.getElem?_replicate] at h2
        split at h2 <;> cases h2
    have ha : vs[i]? = some v := by
      unfold L2.start at h2
      rw [List.getElem?_append_left (by simpa using hi), List.getElem?_map] at h2
      obtain ⟨a, e, e2⟩ := Option.map_eq_some_iff.mp h2
      cases e2
      exact e
    obtain ⟨u, hu, rv⟩ := r.get ha
    have hp : ps[i]? = some y := by
      rw [← S.pre, List.getElem?_take_of_lt (by omega)]; exact h1
    have ndP : ps.Nodup := by rw [← S.pre]; exact S.nd.sublist (List.take_sublist _ _)
    exact ⟨u, rv, .inl ⟨S.par y (List.mem_of_getElem? hp), zip_last ndP hp hu⟩⟩
  · obtain ⟨_, rfl⟩ := cells y c h
    exact ⟨_, _, hk _ _ ccs.1, rfl⟩
  · obtain ⟨_, rfl⟩ := cells y c h
    exact ccs.2
  · unfold L2.start
    show _ = N.length
    rw [List.length_append, List.length_map, List.length_replicate]
    omega
end

/-! ### the statement super().__init__(e, ..) -/
/-- what the written part says of the def -/
structure SupDef (P : Program) (K : PySem.W.Frag) (C f cc cda : Addr) (fd : FuncData) (qual : Str) (params : Arguments) (body : List Stmt) (scope : Scope) : Prop where
  fn : ∃ name kV doc pm ct oc an od osl, fd = PySem.W.ksFn name qual params body scope .none kV doc pm an (.ref cda) ct cc ∧ K.lookup f = some ⟨oc, od, .func fd, osl⟩
  code : PySem.W.codeIn K (.ref cda) qual = true
  file : ∃ ccl cdd vs ccs file tf, K.lookup cda = some ⟨ccl, cdd, .fields vs, ccs⟩ ∧ vs[2]? = some (.str file tf) ∧ ((P.main.file : Str) == file) = true
  cell : ∃ oc od osl, K.lookup cc = some ⟨oc, od, .cell (some (.ref C)), osl⟩
  top : (P.main.scope.names.lookup ("super" : Str)).isSome = false
  mgs : PySem.W.nsIn K mainGlobals "super" = some none
  opq : PySem.W.nsIn K cStatics "thirdparty.any" = some none
  sup : PySem.W.ks_superIn K C C "__init__" = some (some (.builtin "ValueError.__init__"))
  mro : PySem.W.mroIn K C (.ref C) = some true
  vE : PySem.W.subIn K (.ref C) (.type "ValueError") = some true
  exc : OexC K C
theorem SupDef.cell' {P : Program} {K : PySem.W.Frag} {C f cc cda : Addr} {fd : FuncData} {qual : Str} {params : Arguments} {body : List Stmt} {scope : Scope} (S : SupDef P K C f cc cda fd qual params body scope) :
    ∃ oc od osl, K.lookup cc = some ⟨oc, od, .cell (some (.ref C)), osl⟩ := S.cell
section
variable {P : Program} {w : World} {K : PySem.W.Frag} {mg : Str → Option Value} {base : Heap} {N ps : List Str} {qual : Str} {scope : Scope} {C f cc cda : Addr} {A : Around} {outer : List Env} {s0 : Shared} {H0 : Hp} {E : XK} {fd : FuncData} {params : Arguments} {body : List Stmt}
variable {X : Cx} {pins : List (Addr × Obj)} {σ : St} {H : Hp} {s : Shared}
/-- ValueError.__init__ bound to the exception, called -/
theorem sup_call {us : List Value} {a u : Addr} {Q : Value → Shared → Prop} (T : OexC X.K C) (I : Inv X pins σ H s) (e : H a = some (exo a C none)) (hu : s.heap.get? u = some (PySem.W.kxs_mw "ValueError.__init__" a)) (hl : us.length ≤ sizeLine)
    (h : ∀ s', Inv X pins σ H s' → Q .none s') : wpAny (model X.prog X.w) X.A (call (.ref u) us) Q X.xe s := by
  obtain ⟨nm, q, N', bs, bm, sn, sub, ab, col, dd, k0, k1, k2, k3, k5, hC, hbm⟩ := T.cls
  obtain ⟨t1, ho⟩ := exo_at I.hok e
  have hCs := I.kIn _ _ hC
  obtain ⟨hp, g, d, t, os⟩ := s
  have fin : ∀ h', (∀ b o, b ≠ a → hp.get? b = some o → h'.get? b = some o) → h'.get? a = some (PySem.W.excRec (.ref C) hp.objs.size none .none .none (.bool false)) → h'.get? hp.objs.size = some (PySem.W.excTup us) → Q .none ⟨h', g, d, t, os⟩ := fun h' k e' _ => by
    have J := I.write (t' := t) (x := a) (e := a) (o := exo a C none) (by rw [e]; exact True.intro) (.inl rfl) k ⟨_, e'⟩ (exo_ok e')
    have eu : upd H a (exo a C none) = H := by
      funext b
      by_cases hb : b = a
      · rw [hb, upd_same, e]
      · rw [upd_ne hb]
    rw [eu] at J
    exact h _ J
  refine wpAny_call (codeAny_of_tree ?_)
  show wpAny _ X.A.in1 (callAny (.ref u) ⟨us, []⟩) _ _ _
  simp only [callAny]
  refine wpAny_bind (wpAny_load hu ?_)
  simp only [PySem.W.kxs_mw, show (Value.type "method-wrapper" == Value.type "method" || Value.type "method-wrapper" == Value.type "builtin_function_or_method" || Value.type "method-wrapper" == Value.type "method-wrapper") = true by decide, if_true]
  refine PySem.W.KFB.if_so (by decide) ?_
  refine wpAny_bind (PySem.W.check_bound_init F.excBase_ValueError.toExcCallFacts hCs ho rfl ?_)
  refine wpAny_bind (wpAny_pure (wpAny_pure ?_))
  refine ⟨PySem.plainId_quiet F.excBase_ValueError.init.plain _, codeAny_builtin F.excBase_ValueError.initEntry ?_⟩
  exact PySem.W.exc_init_tree (cls := .ref C) (t0 := t1) (dv := none) (c2 := .none) (c3 := .none) (b4 := .bool false) ho hl fin

theorem sup_body {e1 : Expr} {es : List Expr} {p0 p1 p2 p3 p4 : Pos} {ta : TA} {rest : List Stmt} {t : TS} {D : Ends} {a : Addr} {ar : Arg} {pl : Sem Bool} {bd : List Stmt}
    (SD : SupDef P K C f cc cda fd qual params body scope) (S : SupScope N ps scope) (hp : (params.posonlyargs ++ params.args).head? = some ar) (h0 : N[0]? = some ar.arg) (h1 : ps[0]? = some ar.arg)
    (ha : PA (cxS P w K mg base N qual scope f (.ref cda) cc A outer s0 H0 E) (e1 :: es) ta) (hr : PSs (cxS P w K mg base N qual scope f (.ref cda) cc A outer s0 H0 E) rest t)
    (I : Inv (cxS P w K mg base N qual scope f (.ref cda) cc A outer s0 H0 E) [] σ H s) (ea : H a = some (exo a C none)) (hσ : σ[0]? = some (some (.ref a))) (hm : mg "super" = none)
    (h : ta σ H fun vs H1 => vs.length ≤ 1000 ∧ H1 a = some (exo a C none) ∧ t D σ H1)
    (hs : swapsWith (.Call (.Attribute (.Call (.Name "super" p0) [] [] p1) "__init__" p2) (e1 :: es) [] p3) none p4.line (cxS P w K mg base N qual scope f (.ref cda) cc A outer s0 H0 E).env = pure false)
    (hc : eval (.Call (.Attribute (.Call (.Name "super" p0) [] [] p1) "__init__" p2) (e1 :: es) [] p3) (cxS P w K mg base N qual scope f (.ref cda) cc A outer s0 H0 E).env = (do
      let ov ← attributeBase (.Call (.Name "super" p0) [] [] p1) "__init__" (cxS P w K mg base N qual scope f (.ref cda) cc A outer s0 H0 E).env (eval (.Call (.Name "super" p0) [] [] p1) (cxS P w K mg base N qual scope f (.ref cda) cc A outer s0 H0 E).env)
      standAt p2.atName
      let (fx, first) ← holding [ov] (getMethod ov "__init__" pl)
      callWith p3 fx first (backTo p3 (starEach (e1 :: es) (cxS P w K mg base N qual scope f (.ref cda) cc A outer s0 H0 E).env)) []))
    (he : starEach (e1 :: es) (cxS P w K mg base N qual scope f (.ref cda) cc A outer s0 H0 E).env = (false, eval e1 (cxS P w K mg base N qual scope f (.ref cda) cc A outer s0 H0 E).env) :: starEach es (cxS P w K mg base N qual scope f (.ref cda) cc A outer s0 H0 E).env)
    (hpl : (backTo p3 (starEach es (cxS P w K mg base N qual scope f (.ref cda) cc A outer s0 H0 E).env)).any (·.1) = false) :
    _root_.PySem.wpAt (model P w) (cxS P w K mg base N qual scope f (.ref cda) cc A outer s0 H0 E).A (.func bd (cxS P w K mg base N qual scope f (.ref cda) cc A outer s0 H0 E).env)
      (execs (.Expr (.Call (.Attribute (.Call (.Name "super" p0) [] [] p1) "__init__" p2) (e1 :: es) [] p3) p4 :: rest) (cxS P w K mg base N qual scope f (.ref cda) cc A outer s0 H0 E).env)
      (SP (cxS P w K mg base N qual scope f (.ref cda) cc A outer s0 H0 E) [] D) (cxS P w K mg base N qual scope f (.ref cda) cc A outer s0 H0 E).xe s := by
  obtain ⟨name, kV, doc, pm, ct, oc, an, od, osl, rfl, lk⟩ := SD.fn
  obtain ⟨ccl, cdd, vsx, ccs, file, tf, lcd, hv2, hfile⟩ := SD.file
  obtain ⟨c1, c2, c3, lcc⟩ := SD.cell
  obtain ⟨nm, q, N', bs, bm, sn, sub, ab, col, dd, k0, k1, k2, k3, k5, hC, hbm⟩ := SD.exc.cls
  have hCs := I.kIn _ _ hC
  obtain ⟨t1, ho⟩ := exo_at I.hok ea
  obtain ⟨mb, hb1, hb2⟩ := I.mod.blt
  obtain ⟨m, hn, hlk⟩ := I.loc
  have hself : m ar.arg = some (.ref a) := by
    have hpar := S.par _ (List.mem_of_getElem? h1)
    obtain ⟨u, ru, lu⟩ := hlk 0 _ _ h0 hσ (.inl hpar)
    have ru : u = Value.ref a := ru
    subst ru
    rcases lu with ⟨_, e⟩ | ⟨e, _⟩
    · exact e
    · have e : scope.names.lookup ar.arg = some .cell ∨ scope.names.lookup ar.arg = some .free := e
      rcases e with e | e <;> rw [hpar] at e <;> cases e
  refine PySem.ks_wpAt_execs_cons (PySem.ks_wpAt_Expr_any ?_ I.quiet hs)
  refine PySem.ks_wpAt_MethodCall (pl := pl) ?_ hc
  refine PySem.ks_wpAt_super_base (f := f) (cc := cda) (fd := PySem.W.ksFn name qual params body scope .none kV doc pm an (.ref cda) ct cc) (vs := vsx) (file := file) (tf := tf) (ar := ar) S.sup S.cls (by decide) rfl (I.kIn _ _ lk) rfl hp rfl (I.kIn _ _ lcd) rfl hv2 hfile SD.top ?_
  refine PySem.W.ks_loadName_global S.kind S.sup (PySem.Calls.loadGlobal_builtin (by rw [I.ok.glob]; exact I.mod.glob.keeps I.bk) hm (by rw [I.ok.blt]; exact hb1.keeps I.bk) ((hb2 _ (by decide)).trans (by first | boot_by_name | rfl | kernel_rfl)) ⟨rfl, ?_⟩)
  refine wpAny_loadName_free S.kind S.cls rfl ⟨_, I.kIn _ _ lcc, rfl⟩ ?_
  refine wpAny_loadName_local S.kind (S.par _ (List.mem_of_getElem? h1)) hn hself ?_
  refine PySem.ks_wpAny_isType_cls hCs rfl ⟨rfl, ?_⟩
  refine PySem.ks_wpAny_call_super hCs rfl ho rfl (fun c e => by cases e) (PySem.W.looks_mroIn I.kIn SD.mro) (fun h' eso kso => ?_)
  have I1 := I.kept (t' := s.toks) kso
  have hcl : PySem.W.clsIn K C = some { name := nm, bases := bs, mro := .ref C :: bm, ns := N', qualname := q, hasDict := true, slotNames := sn, subclasses := sub, abstract := ab, collection := col, hasDel := false } := by unfold PySem.W.clsIn; rw [hC] <;> rfl
  have hal : PySem.W.alongIn K "__init__" bm = some (some (.builtin "ValueError.__init__")) := by
    have z := SD.sup
    unfold PySem.W.ks_superIn at z
    rw [hcl, Option.bind_some] at z
    simpa [List.dropWhile_cons] using z
  have hx1 : h'.get? a = some ({ cls := .ref C, dict := none, data := .fields #[.ref t1, .none, .none, .none, .bool false, .none] } : Obj) := kso _ _ ho
  have hI : PySem.W.Looks (model P w) h' (isInstance (.ref a) (.type "ValueError")) true := (show PySem.W.InstAt h' a _ C none from ⟨hx1, rfl, rfl, trivial⟩).type.andThen (PySem.W.looks_subIn I1.kIn SD.vE)
  have hxC : a ≠ C := fun z => by
    rw [z, hCs] at ho
    cases ho
  refine PySem.W.kxs_getMethod PySem.W.kxs_ValueError eso (PySem.W.looks_opaque I1.kIn SD.opq) (PySem.W.looks_clsIn I1.kIn hcl |>.andThen .now) (by show _ = bm; simp [List.dropWhile_cons]) I1.kIn hal hI hxC (by decide) ?_
  have kpu : ∀ b o, h'.get? b = some o → (h'.push (PySem.W.kxs_mw "ValueError.__init__" a)).get? b = some o := fun b o e => Heap.get?_push_of_some _ e
  have I2 := I1.kept (t' := s.toks + 1) kpu
  have hu2 : (h'.push (PySem.W.kxs_mw "ValueError.__init__" a)).get? h'.objs.size = some (PySem.W.kxs_mw "ValueError.__init__" a) := Heap.get?_push_at rfl rfl
  have hnu : H h'.objs.size = none := I1.hok.fresh (Nat.le_refl _)
  have I3 : Inv (cxS P w K mg base N qual scope f (.ref cda) cc A outer s0 H0 E) [(h'.objs.size, PySem.W.kxs_mw "ValueError.__init__" a)] σ H { s with heap := h'.push (PySem.W.kxs_mw "ValueError.__init__" a), toks := s.toks + 1 } :=
    I2.pins_of fun p hp => by
      rcases List.mem_cons.mp hp with e | hp
      · subst e
        exact ⟨hu2, hnu, Nat.ne_of_gt I1.lt, I1.nofs (Nat.le_refl _), fun v z => by cases z⟩
      · cases hp
  have run := ha.run p3 [(h'.objs.size, PySem.W.kxs_mw "ValueError.__init__" a)] _ σ H _ I3 h
  rw [he]
  refine PySem.W.kxs_callWith (i := "ValueError.__init__") (x := a) (by show (false || _) = false; rw [Bool.false_or]; exact hpl) ?_
  rw [he] at run
  refine PySem.Calls.evalArgs_plain (thn run fun us s1 ⟨vs, H1, I4, rv, hz, ea4, q⟩ => ?_)
  have hpin := I4.pin (h'.objs.size, PySem.W.kxs_mw "ValueError.__init__" a) (List.mem_append_right _ (List.mem_cons_self ..))
  refine ⟨hpin.1, ?_⟩
  have hus : us.length ≤ sizeLine := by
    rw [← Paired.length rv, sizeLine_eq]
    omega
  refine sup_call SD.exc I4 ea4 hpin.1 hus fun s' I5 => ?_
  have I6 : Inv (cxS P w K mg base N qual scope f (.ref cda) cc A outer s0 H0 E) [] σ H1 s' := I5.pins_of fun p hp => by cases hp
  exact wpAt_of_wpAny (hr.run [] s' σ H1 D I6 q)
/-- such a def, by its body -/
theorem sup_ok {k : Nat} {sp : Sp} (SD : SupDef P K C f cc cda fd qual params body scope) (S : SupScope N ps scope) (len : ∀ vs H Q E, sp vs H Q E → vs.length = ps.length)
    (hbody : ∀ (A : Around) (outer : List Env) (s0 : Shared) (H : Hp) (vs : List V) (Q : VK) (E : XK) (s : Shared), Room k (A.deeper (PySem.W.ksEnv qual scope s0.heap.objs.size f (.ref cda) cc)) → sp vs H Q E →
      Inv (cxS P w K mg base N qual scope f (.ref cda) cc A outer s0 H E) [] (L2.start N vs) H s →
      _root_.PySem.wpAt (model P w) (cxS P w K mg base N qual scope f (.ref cda) cc A outer s0 H E).A (.func body (cxS P w K mg base N qual scope f (.ref cda) cc A outer s0 H E).env) (execs body (cxS P w K mg base N qual scope f (.ref cda) cc A outer s0 H E).env)
        (SP (cxS P w K mg base N qual scope f (.ref cda) cc A outer s0 H E) [] { nx := fun _ H' => Q .non H', rt := Q }) (cxS P w K mg base N qual scope f (.ref cda) cc A outer s0 H E).xe s) :
    FnOk P w K mg base (L2.CX P w) (k + 1) f fd ps sp := by
  refine ⟨len, fun A outer s H args us vs Q E hr e0 hb r hsp => ?_⟩
  have hl := len _ _ _ _ hsp
  obtain ⟨name, kV, doc, pm, ct, oc, an, od, osl, rfl, lk⟩ := SD.fn
  have KX : K.In s.heap := e0.mod.kin.keeps fun b o e => (e0.bs b o e).1
  have lim : s.heap.NoLimit := e0.mod.nolimit.keeps fun b o e => (e0.bs b o e).1
  refine PySem.ks_codeAny_call_defAt (fd := PySem.W.ksFn name qual params body scope .none kV doc pm an (.ref cda) ct cc) (body := body) (binds := ps.zip us) hr.depth (KX _ _ lk) rfl lim (PySem.W.codeRec_of KX SD.code) rfl hb S.nocell
    (fun y hy => S.par _ (List.of_mem_zip hy).1) (fun h1 hn hk => ?_) S.co S.gen S.kind
  have I : Inv (cxS P w K mg base N qual scope f (.ref cda) cc A outer s H E) [] (L2.start N vs) H { s with heap := h1, toks := s.toks + (ps.zip us).length } := inv_sup S hr.hd e0 hl r SD.cell' hn hk
  refine PySem.ks_wpAt_mono (hbody A outer s H vs Q E _ (hr.deeper _) hsp I) (fun fl s' hs => ?_) fun e s' hs => hs
  have fin : ∀ {σ' : St} {H' : Hp} {v : V} {u : Value}, Inv (cxS P w K mg base N qual scope f (.ref cda) cc A outer s H E) [] σ' H' s' → RelV v u → Q v H' → CE outer P w H s Q u s' :=
    fun {σ' H' v u} J rv q => ⟨v, H', J.os, J.bare, J.base, J.hok, rv, q⟩
  cases fl with
  | ret u =>
    obtain ⟨v, σ', H', J, rv, q⟩ := hs
    exact fin J rv q
  | next =>
    obtain ⟨σ', H', J, q⟩ := hs
    exact fin (v := V.non) (u := Value.none) J rfl q
  | brk =>
    obtain ⟨_, _, _, q⟩ := hs
    exact False.elim q
  | cont =>
    obtain ⟨_, _, _, q⟩ := hs
    exact False.elim q
end
end Gx
end T_GxE1
section T_GxE2
set_option Elab.async false
set_option linter.all false
set_option maxRecDepth 100000
set_option maxHeartbeats 4000000
namespace Gx
open PySem PySem.Spec PyProof.Rows L2

/-! ## the promise of such an __init__ -/
/-- what the first argument must be for the text: nothing, or a number that can be told -/
def tellV : V → Prop
  | .int i => i.natAbs.log2 < 1920
  | .non => True
  | _ => False
/-- self and the fields' values: they stand in a new dict -/
def spX (C : Addr) (ns : List Str) : Sp := fun vs H Q E => ∃ a ws, vs = .ref a :: ws ∧ ws.length = ns.length ∧ (∀ v, ws.head? = some v → tellV v) ∧ H a = some (exo a C none) ∧
  ((ns = [] ∧ Q .non H) ∨ (ns ≠ [] ∧ ∀ dx, H dx = none → dx ≠ a → Q .non (upd (upd H dx (exd dx (ns.zip ws))) a (exo a C (some dx)))))
/-- an exception class of ours -/
structure Xc (P : Program) (w : World) (K : PySem.W.Frag) (mg : Str → Option Value) (base : Heap) (x : Str) (C : Addr) (ns : List Str) : Prop where
  exc : OexC K C
  mg_ : mg x = some (.ref C)
  init : ∃ (fI : Addr) (fd : FuncData) (ps : List Str), PySem.W.findIn K (.ref C) "__init__" = some (some (.ref fI)) ∧ PySem.W.typeIn K (.ref fI) = some (.type "function") ∧ Binds K fd ps [] ∧ ps.length = ns.length + 1 ∧ FnOk P w K mg base (L2.CX P w) 1 fI fd ps (spX C ns)

/-- where an exception without a dict is let go -/
theorem mk_bare {X : Cx} {pins : List (Addr × Obj)} {σ : St} {H1 : Hp} {Q : XK} {hp hp2 h2 : Heap} {g1 g2 : Array GenState} {d1 d2 : Drawn} {t1 t2 : Nat} {os1 os2 : OsState} {a C : Addr} (T : Raises X (.ref C)) (I1 : Inv X pins σ H1 ⟨hp, g1, d1, t1, os1⟩)
    (ha : hp.objs.size ≤ a) (k : ∀ b o, hp.get? b = some o → hp2.get? b = some o) (un : Un (frs X.stack) [] (upd H1 a (exo a C none)) (upd H1 a (exo a C none)) hp2 h2) (hok : HOk X.prog X.w (upd H1 a (exo a C none)) h2) (ho : os2 = os1) (hb : AllBare g2)
    (q : Q (.ref C) none H1) : MkP X pins σ Q (.ref a) ⟨h2, g2, d2, t2, os2⟩ := by
  have hn : H1 a = none := I1.hok.fresh ha
  obtain ⟨t0, hoe⟩ := exo_at hok (upd_same (H := H1))
  obtain ⟨G, gy, gn⟩ := restrict h2 fun b => decide (b ≠ a)
  have gk : ∀ b, b ≠ a → G.get? b = h2.get? b := fun b hb => gy b (decide_eq_true hb)
  have ga : G.get? a = none := gn a (by simp)
  have na : ∀ {b : Addr} {o : Obj}, hp.get? b = some o → b ≠ a := fun {b o} z => Nat.ne_of_lt (Nat.lt_of_lt_of_le (Heap.lt_size z) ha)
  have nh : ∀ {b : Addr} {o : HO}, H1 b = some o → b ≠ a := fun {b o} z => ne_of_none z hn
  have U : Un (frs X.stack) [] H1 H1 hp G := {
    keep := fun b o z n hf hx => by
      rw [gk b (na z)]
      exact un.keep b o (k b o z) (by rw [upd_ne (na z)]; exact n) hf hx
    slot := fun b o z n hf hx => by
      rw [gk b (na z)]
      exact un.slot b o (k b o z) (by rw [upd_ne (na z)]; exact n) hf hx
    free := fun b o z n hx => n
    there := fun b o z hx => by
      rw [gk b (na z)]
      exact un.there b o (k b o z) hx
    tups := fun b xs z => z
    frzs := fun b o v z => z
    tbls := fun b ps z => ⟨#[], by rw [z]; simp⟩ }
  have hok3 : HOk X.prog X.w H1 G := fun b o z => by
    have z2 : upd H1 a (exo a C none) b = some o := by rw [upd_ne (nh z)]; exact z
    refine (hok b o z2).stay (fun c v hc y => ?_) (fun c hc => ?_) (fun c xs hc => ?_)
    · have hca : c ≠ a := by
        rcases hc with hc | hc
        · rw [hc]; exact nh z
        · exact at_ne (upd_same (H := H1) (a := a) (o := exo a C none)) hc exo_own
      rw [gk c hca]; exact y
    · rw [← upd_ne (H := H1) (o := exo a C none) (at_ne (upd_same (H := H1) (a := a) (o := exo a C none)) hc exo_own)]; exact hc
    · rw [← upd_ne (H := H1) (o := exo a C none) (at_ne (upd_same (H := H1) (a := a) (o := exo a C none)) hc exo_tup)]; exact hc
  subst ho
  have J : Inv X pins σ H1 ⟨G, g2, d2, t2, os2⟩ := I1.call' (s' := ⟨G, g2, d2, t2, os2⟩) (ch := []) rfl U hok3 hb (fun b z => absurd z (by simp))
  exact ⟨a, _, _, ⟨G, g2, d2, t2, os2⟩, H1, .ref C, none, rfl, J, fun b o z => by
    by_cases hba : b = a
    · rw [hba, ga] at z; cases z
    · rw [← gk b hba]; exact z, ga, hoe, ⟨rfl, rfl⟩, rfl, rfl, hn, rfl, hb, T, q⟩

section
variable {X : Cx} {pins : List (Addr × Obj)} {σ : St} {x : Str} {C : Addr} {ns : List Str} {p pos : Pos} {e : Expr} {es : List Expr} {ta : TA}
/-- what is wished of C(..) -/
def wishX (C : Addr) (ns : List Str) (vs : List V) (H1 : Hp) (Q : XK) : Prop := vs.length = ns.length ∧ (∀ v, vs.head? = some v → tellV v) ∧ (ns = [] → Q (.ref C) none H1) ∧ (ns ≠ [] → ∀ d, H1 d = none → Q (.ref C) (some d) (upd H1 d (.xd (ns.zip vs))))
theorem run_mkX (xc : Xc X.prog X.w X.K X.mg X.base x C ns) (hns : ns.length ≤ 2) (hr : Room 2 X.A) {vs : List V} {us : List Value} {H1 : Hp} {Q : XK} {s : Shared} (I1 : Inv X pins σ H1 s) (r1 : Vals vs us) (h : wishX C ns vs H1 Q) :
    wpAny (model X.prog X.w) X.A (call (.ref C) us) (MkP X pins σ Q) X.xe s := by
  obtain ⟨hl, ht, h0, h2⟩ := h
  obtain ⟨fI, fd, ps, iC, tI, hb, hpl, F1⟩ := xc.init
  obtain ⟨nm, q, N, bs, bm, sn, sub, ab, col, dd, k0, k1, k2, k3, k5, hC, hbm⟩ := xc.exc.cls
  obtain ⟨hp, g, dr, tk, os⟩ := s
  have hsz : hp.objs.size ≤ hp.objs.size + 1 := Nat.le_succ _
  have hn : H1 (hp.objs.size + 1) = none := I1.hok.fresh hsz
  have kk : ∀ b o, hp.get? b = some o → ((hp.push (PySem.W.kdv_tup us)).push (PySem.HandSPX.excO C hp.objs.size)).get? b = some o := fun b o z => Heap.get?_push_of_some _ (Heap.get?_push_of_some _ z)
  have hget : ((hp.push (PySem.W.kdv_tup us)).push (PySem.HandSPX.excO C hp.objs.size)).get? (hp.objs.size + 1) = some (PySem.HandSPX.excO C hp.objs.size) := by heap_get
  have I2 : Inv X pins σ (upd H1 (hp.objs.size + 1) (exo (hp.objs.size + 1) C none)) ⟨(hp.push (PySem.W.kdv_tup us)).push (PySem.HandSPX.excO C hp.objs.size), g, dr, tk, os⟩ := I1.laid (t' := tk) kk hsz (exo_ok hget)
  -- what the __init__ leaves
  let Q0 : VK := fun v H2 => v = .non ∧ ((ns = [] ∧ H2 = upd H1 (hp.objs.size + 1) (exo (hp.objs.size + 1) C none)) ∨
    (ns ≠ [] ∧ ∃ dx, upd H1 (hp.objs.size + 1) (exo (hp.objs.size + 1) C none) dx = none ∧ dx ≠ hp.objs.size + 1 ∧ H2 = upd (upd (upd H1 (hp.objs.size + 1) (exo (hp.objs.size + 1) C none)) dx (exd dx (ns.zip vs))) (hp.objs.size + 1) (exo (hp.objs.size + 1) C (some dx))))
  have hq : spX C ns (V.ref (hp.objs.size + 1) :: vs) (upd H1 (hp.objs.size + 1) (exo (hp.objs.size + 1) C none)) Q0 (fun _ _ _ => False) := by
    refine ⟨_, vs, rfl, hl, ht, upd_same, ?_⟩
    by_cases c : ns = []
    · exact .inl ⟨c, rfl, .inl ⟨c, rfl⟩⟩
    · exact .inr ⟨c, fun dx e1 e2 => ⟨rfl, .inr ⟨c, dx, e1, e2, rfl⟩⟩⟩
  have r2 : Vals (V.ref (hp.objs.size + 1) :: vs) (Value.ref (hp.objs.size + 1) :: us) := .cons rfl r1
  have hul : us.length = ns.length := by rw [← hl]; exact (Paired.length r1).symm
  have hus : us.length ≤ sizeLine := by rw [hul, sizeLine_eq]; omega
  have hb' := hb _ (Value.ref (hp.objs.size + 1) :: us) I2.kIn (by rw [List.append_nil, List.length_cons, hul, hpl])
  rw [List.append_nil] at hb'
  refine wpAny_call (PySem.HandSPX.call_own F.excBase_ValueError (fun Y => PySem.HandSPX.refsVE_contains Y bm hbm) (I1.kIn _ _ hC) (PySem.W.looks_findIn I1.kIn iC) (fun self => PySem.W.bind_fn I1.kIn self tI) hus
    (codeAny_mono (F1.run _ X.stack _ _ ⟨Value.ref (hp.objs.size + 1) :: us, []⟩ (Value.ref (hp.objs.size + 1) :: us) _ Q0 (fun _ _ _ => False) (Room.make (k := 1) hr C us []) (I2.env0.make C us []) hb' r2 hq) fun r s' hq' => ?_))
  match r, hq' with
  | .error er, hq' => exact passL pins σ _ _ er s' I2 hq'
  | .ok .next, hq' => exact (show False from hq').elim
  | .ok .brk, hq' => exact (show False from hq').elim
  | .ok .cont, hq' => exact (show False from hq').elim
  | .ok (.ret u), hq' =>
    obtain ⟨v, H2, os2, bare2, un2, hok2, rv, ev, q2⟩ := hq'
    subst ev
    obtain ⟨h2', g2, d2, t2, os'⟩ := s'
    refine ⟨rv, ?_⟩
    rcases q2 with ⟨c, e2⟩ | ⟨c, dx, e1, e2, e3⟩
    · subst e2
      exact mk_bare (raises_own xc.exc.exC xc.exc.tyC) I1 hsz kk un2 hok2 os2 bare2 (h0 c)
    · subst e3
      have hd1 : H1 dx = none := by rw [← upd_ne (H := H1) (o := exo (hp.objs.size + 1) C none) e2]; exact e1
      have ea : upd (upd (upd H1 (hp.objs.size + 1) (exo (hp.objs.size + 1) C none)) dx (exd dx (ns.zip vs))) (hp.objs.size + 1) (exo (hp.objs.size + 1) C (some dx)) dx = some (exd dx (ns.zip vs)) := by rw [upd_ne e2, upd_same]
      refine mk_end (raises_own xc.exc.exC xc.exc.tyC) I1 hsz kk un2 hok2 os2 bare2 upd_same ea hd1 ?_
      have hh : upd (del (upd (upd (upd H1 (hp.objs.size + 1) (exo (hp.objs.size + 1) C none)) dx (exd dx (ns.zip vs))) (hp.objs.size + 1) (exo (hp.objs.size + 1) C (some dx))) (hp.objs.size + 1)) dx (.xd (ns.zip vs)) = upd H1 dx (.xd (ns.zip vs)) := by
        funext b
        by_cases b1 : b = dx
        · rw [b1, upd_same, upd_same]
        · rw [upd_ne b1, upd_ne b1]
          by_cases b2 : b = hp.objs.size + 1
          · rw [b2, del_same, hn]
          · rw [del_ne b2, upd_ne b2, upd_ne b1, upd_ne b2]
      rw [hh]
      exact h2 c dx hd1
theorem pmk_x0 (xc : Xc X.prog X.w X.K X.mg X.base x C ns) (hns : ns.length ≤ 2) (hr : Room 2 X.A) (hg : Gl X x) (hdb : (x == ("__debug__" : Str)) = false := by decide) :
    PMk X (.Call (.Name x p) [] [] pos) (fun σ H Q => wishX C ns [] H Q) := by
  intro pins s σ H Q I h
  apply wpAny_Call_Name_kw
  apply ld_glob I hg xc.mg_ _ hdb
  exact PySem.W.callWith_K0 I.kIn xc.exc.kC (run_mkX xc hns hr I .nil h)
end
/-! ## raise C(..) -/
def tellD : List D → Bool
  | [] => true
  | .int i :: _ => decide (i.natAbs.log2 < 1920)
  | .non :: _ => true
  | _ => false
def fldR : Nat → List SV → Option (List D)
  | c, xs => match dats xs with
    | some ds => if ds.length = (flds c).length ∧ tellD ds = true then some ds else none
    | none => none
def sRaise (c : Nat) (a : AM) : SM := SM.bind a fun xs => fun sd own => (fldR c xs).map fun ds => .ex c ds sd own
section
variable {X : Cx} {Y : Cy} {x : Str} {c : Nat} {p pos pos2 : Pos} {e : Expr} {es : List Expr} {al : AM}
theorem dats_reps {T : Tb} {g : Gh} {n : Nat} : ∀ (xs : List SV) (vs : List V) (ds : List D), dats xs = some ds → RSs T g n xs vs → Reps T g.F ds vs := by
  intro xs
  induction xs with
  | nil => intro vs ds h r; cases r; cases h; exact .nil
  | cons s t ih =>
    intro vs ds h r
    cases r with
    | cons h1 r1 =>
      cases s with
      | h k => cases h
      | d y =>
        have h : (dats t).map (y :: ·) = some ds := h
        obtain ⟨ds2, e1, e2⟩ := Option.map_eq_some_iff.mp h
        subst e2
        exact .cons h1 (ih _ _ e1 r1)
theorem flds_two : ∀ c : Nat, 9 ≤ c → (flds c).length ≤ 2 := by
  intro c hc
  unfold flds
  split <;> first | omega | simp
theorem raise_wish {T : Tb} {B : Hp} {Ek : L2.St → XK} {g : Gh} {own : Own} {sd : Sl} {σ : L2.St} {H : Hp} {Dn : Ends} {xs : List SV} {vs : List V} (R : HRel T B g own H) (S : SRel T g own.length sd σ) (rs : RSs T g own.length xs vs)
    (q : SAt ⟨T, B, Ek⟩ g sd own Dn fun sd own => (fldR c xs).map fun ds => .ex c ds sd own) : wishX (T.ct c) (flds c) vs H (Ek σ) := by
  obtain ⟨r, e1, k⟩ := q
  obtain ⟨ds, e2, e3⟩ := Option.map_eq_some_iff.mp e1
  subst e3
  unfold fldR at e2
  cases ed : dats xs with
  | none => simp only [ed] at e2; cases e2
  | some ds2 =>
    simp only [ed] at e2
    by_cases hc : ds2.length = (flds c).length ∧ tellD ds2 = true
    · rw [if_pos hc] at e2
      cases e2
      have rp := dats_reps xs vs _ ed rs
      refine ⟨by rw [← rp.length]; exact hc.1, fun v hv => ?_, fun hz => ?_, fun hz d hd => ?_⟩
      · cases rp with
        | nil => cases hv
        | cons h1 r1 =>
          cases hv
          cases h1 with
          | int i => exact (show i.natAbs.log2 < 1920 from of_decide_eq_true hc.2)
          | non => trivial
          | _ => exact absurd hc.2 Bool.false_ne_true
      · refine k g σ none H R S .rfl' (.inl ⟨?_, rfl⟩)
        have := hc.1
        rw [hz] at this
        exact List.length_eq_zero_iff.mp this
      · obtain ⟨R2, e2⟩ := R.new hd (.xd ((flds c).zip vs))
        exact k _ σ (some d) _ R2 (S.ext e2) e2 (.inr ⟨d, vs, rfl, upd_same, rp.le e2.F⟩)
    · rw [if_neg hc] at e2; cases e2
theorem rs_raise0 (xc : Xc X.prog X.w X.K X.mg X.base x (Y.T.ct c) (flds c)) (hc9 : 9 ≤ c) (hr : Room 2 X.A) (hcalm : X.calm = true) (tk : Takes X fun cls d σ H => Y.Ek σ cls d H) (hg : Gl X x := by rfl) (hdb : (x == ("__debug__" : Str)) = false := by decide) :
    PS X (.Raise (some (.Call (.Name x p) [] [] pos)) none pos2) (trS Y (sRaise c aNil)) := by
  refine PS.imp (ps_raise hcalm tk (pmk_x0 xc (flds_two c hc9) hr hg hdb)) fun Dn σ H q => ?_
  obtain ⟨g, sd, own, R, S, q⟩ := q
  exact raise_wish (xs := []) (Dn := Dn) R S .nil q
end
end Gx
end T_GxE2
section T_GxE3
set_option Elab.async false
set_option linter.all false
set_option maxRecDepth 100000
set_option maxHeartbeats 4000000
namespace Gx
open PySem PySem.Spec PyProof.Rows L2

/-- how super().__init__(..) is read -/
def SupRead (e : Expr) (p0 p1 p2 p3 : Pos) : Prop := ∀ env : Env, ∃ pl, eval (.Call (.Attribute (.Call (.Name "super" p0) [] [] p1) "__init__" p2) [e] [] p3) env = (do
      let ov ← attributeBase (.Call (.Name "super" p0) [] [] p1) "__init__" env (eval (.Call (.Name "super" p0) [] [] p1) env)
      standAt p2.atName
      let (fx, first) ← holding [ov] (getMethod ov "__init__" pl)
      callWith p3 fx first (backTo p3 (starEach [e] env)) [])
section
variable {P : Program} {w : World} {K : PySem.W.Frag} {mg : Str → Option Value} {base : Heap} {qual : Str} {scope : Scope} {C f cc cda : Addr} {fd : FuncData} {params : Arguments} {ar : Arg}
variable {p0 p1 p2 p3 p4 p5 p6 p7 p8 p9 q1 q2 q3 q4 q5 q6 r1 r2 : Pos} {j j1 j2 : Nat} {x y z : Str}
theorem init0 (SD : SupDef P K C f cc cda fd qual params [.Expr (.Call (.Attribute (.Call (.Name "super" p0) [] [] p1) "__init__" p2) [.Constant (.str x) j p5] [] p3) p4] scope) (S : SupScope ["self"] ["self"] scope)
    (hp : (params.posonlyargs ++ params.args).head? = some ar) (har : ar.arg = "self") (hm : mg "super" = none) (hc : SupRead (.Constant (.str x) j p5) p0 p1 p2 p3) : FnOk P w K mg base (L2.CX P w) 1 f fd ["self"] (spX C []) := by
  refine sup_ok (k := 0) SD S (fun vs H Q E h => ?_) (fun A outer s0 H vs Q E s hr h I => ?_)
  · obtain ⟨a, ws, rfl, hl, _⟩ := h
    rw [List.length_cons, hl]; rfl
  · obtain ⟨a, ws, rfl, hl, _, ha, h⟩ := h
    obtain rfl := List.length_eq_zero_iff.mp hl
    have hD : tNext { nx := fun _ H' => Q .non H', rt := Q } (L2.start ["self"] [V.ref a]) H := by
      rcases h with ⟨_, h⟩ | ⟨h, _⟩
      · exact h
      · exact absurd rfl h
    obtain ⟨pl, hc⟩ := hc (cxS P w K mg base ["self"] qual scope f (.ref cda) cc A outer s0 H E).env
    exact sup_body (pl := pl) (ta := fun σ H Q => tC (.str x) σ H fun v H1 => Q [v] H1) (t := tNext) (rest := []) SD S hp (by rw [har]; rfl) (by rw [har]; rfl) (pa_cons pe_str pa_nil) pss_nil I ha rfl hm ⟨(show 1 ≤ 1000 by decide), ha, hD⟩ rfl hc rfl rfl
end
end Gx
end T_GxE3
section T_GxE4
set_option Elab.async false
set_option linter.all false
set_option maxRecDepth 100000
set_option maxHeartbeats 4000000
namespace Gx
open PySem PySem.Spec PyProof.Rows L2

/-! ## try: .. except A as e: .. except B as e: .. -/
abbrev TSx := Addr → Value → Option Addr → TS
/-- the ends behind a suite: e is gone -/
def lessE (i : Nat) (D : Ends) : Ends := { nx := fun σ' H' => D.nx (σ'.set i none) H', rt := D.rt, bk := fun σ' H' => D.bk (σ'.set i none) H', ct := fun σ' H' => D.ct (σ'.set i none) H' }
/-- what the clauses wish of an exception of the body -/
def wAll (K : PySem.W.Frag) (i : Nat) (D : Ends) (Wout : WX) : List (Value × TSx) → WX
  | [] => Wout
  | (c, ts) :: r => fun cls d σ H => ∃ b, PySem.W.exmOne K cls c = some b ∧ (b = true → ∀ a, H a = none → ts a cls d (lessE i D) (σ.set i (some (.ref a))) H) ∧ (b = false → wAll K i D Wout r cls d σ H)
/-- the clauses -/
inductive Clauses (X : Cx) (n : Str) : List ExceptHandler → List (Value × TSx) → Prop
  | nil : Clauses X n [] []
  | cons {x : Str} {c : Value} {b₀ : Stmt} {suite : List Stmt} {np pos' : Pos} {ts : TSx} {hs : List ExceptHandler} {l : List (Value × TSx)} (hc : Names X x c)
      (hsu : ∀ (a : Addr) (oe : Obj) (cls : Value) (d : Option Addr) (pn : List (Addr × Obj)), Zc cls d oe → (∃ vs, oe.data = .fields vs) → PSs (X.suite a ((a, oe) :: pn)) (b₀ :: suite) (ts a cls d)) (r : Clauses X n hs l) :
      Clauses X n (.ExceptHandler (some (.Name x np)) (some n) (b₀ :: suite) pos' :: hs) ((c, ts) :: l)
section
variable {X : Cx} {n : Str} {i : Nat} {pins : List (Addr × Obj)} {σ : St} {H : Hp} {sI s : Shared} {D : Ends} {Wout : WX} {B : Heap} {a : Addr} {cls : Value} {d : Option Addr}
end
end Gx
end T_GxE4
section T_GxE5
set_option Elab.async false
set_option linter.all false
set_option maxRecDepth 100000
set_option maxHeartbeats 4000000
namespace Gx
open PySem PySem.Spec PyProof.Rows L2

/-! ## isinstance(e, C) for an exception with a dict or without -/
section
open PySem.W PySem.Calls
variable {prog : Program} {w : World} {A : Around} {E : Value → Shared → Prop} {s : Shared} {K : PySem.W.Frag} {x D : Addr} {ox : Obj} {od : Option Obj}
end
/-- isinstance(e, c), e the exception that the suite holds -/
def rIsX (K : PySem.W.Frag) (cls : Value) (d : Option Addr) (a : Addr) : List V → Hp → VK → Prop := fun xs H Q => ∃ (D : Addr) (c : V) (cv : Value) (b : Bool), cls = .ref D ∧ ExcC K D ∧ xs = [.ref a, c] ∧ (∀ u, RelV c u → u = cv) ∧ PySem.W.kitOne K (.ref D) cv = some b ∧
  (∀ dd, d = some dd → ∃ fs, H dd = some (.xd fs)) ∧ Q (.bl b) H
/-! ## readings in a suite -/
/-- the exception that is held: its slot, its address, its class, its fields -/
structure Held where
  i : Nat
  a : Addr
  c : Nat
  fs : List D
  d : Option Addr
def HeldAt (T : Tb) (g : Gh) (H : Hp) (σ : L2.St) (e : Held) : Prop := σ[e.i]? = some (some (.ref e.a)) ∧ XD T g H e.d e.c e.fs
section
variable {α β γ δ : Type}
def trX (Y : Cy) (e : Held) (rel : Gh → Nat → α → β → Prop) (f : M α) : L2.St → Hp → (β → Hp → Prop) → Prop := fun σ H Q =>
  ∃ g sd own, HRel Y.T Y.B g own H ∧ SRel Y.T g own.length sd σ ∧ HeldAt Y.T g H σ e ∧ At Y rel g sd own σ Q f
theorem XD.ext {T : Tb} {B : Hp} {g g1 : Gh} {n n1 : Nat} {H H1 : Hp} {d : Option Addr} {c : Nat} {fs : List D} (e : GExt B g n g1 n1) (h : XD T g H d c fs) : XD T g1 H1 d c fs := by
  rcases h with h | ⟨a, ws, h1, h2, h3⟩
  · exact .inl h
  · exact .inr ⟨a, ws, h1, e.F _ _ h2, h3.le e.F⟩
theorem HeldAt.ext {T : Tb} {B : Hp} {g g1 : Gh} {n n1 : Nat} {H H1 : Hp} {σ : L2.St} {e : Held} (x : GExt B g n g1 n1) (h : HeldAt T g H σ e) : HeldAt T g1 H1 σ e := ⟨h.1, h.2.ext x⟩
section
variable {Y : Cy} {relA : Gh → Nat → α → β → Prop} {relC : Gh → Nat → γ → δ → Prop} {g g1 : Gh} {n n1 : Nat} {σ : L2.St} {own : Own} {sd : Sl} {H : Hp} {e : Held}
end
end
section
variable {X : Cx} {Y : Cy} {pos : Pos} {a b c : Expr} {f g : EM} {t : TM} {ε : Held} {es : List Expr} {al : AM}
theorem trX.drop {α β : Type} {rel : Gh → Nat → α → β → Prop} {f : M α} {σ : L2.St} {H : Hp} {Q : β → Hp → Prop} (h : trX Y ε rel f σ H Q) : trM Y rel f σ H Q := by
  obtain ⟨g, sd, own, R, S, _, q⟩ := h
  exact ⟨g, sd, own, R, S, q⟩
end
end Gx
end T_GxE5
section T_GxE6
set_option Elab.async false
set_option linter.all false
set_option maxRecDepth 100000
set_option maxHeartbeats 4000000
namespace Gx
open PySem PySem.Spec PyProof.Rows L2

/-- the subclasses among our exceptions -/
def excSub (c c' : Nat) : Bool := c == c' || c' == 9
def xIs (L : List Nat) (bf : Nat → Bool) (ε : Held) : EM := if ε.c ∈ L then M.ret (.d (.bl (bf ε.c))) else M.fail
def xFld (c0 j : Nat) (ε : Held) : EM := if ε.c = c0 then M.ask fun _ => (ε.fs[j]?).map SV.d else M.fail
section
variable {X : Cx} {Y : Cy} {pos p p1 p2 : Pos} {ε : Held} {oe : Obj} {pn : List (Addr × Obj)} {en n : Str}
/-- a suite's reading -/
def trXS (Y : Cy) (ε : Held) (f : SM) : TS := fun D σ H => ∃ g sd own, HRel Y.T Y.B g own H ∧ SRel Y.T g own.length sd σ ∧ HeldAt Y.T g H σ ε ∧ SAt Y g sd own D f
theorem trXS.drop {f : SM} {D : Ends} {σ : L2.St} {H : Hp} (h : trXS Y ε f D σ H) : trS Y f D σ H := by
  obtain ⟨g, sd, own, R, S, _, q⟩ := h
  exact ⟨g, sd, own, R, S, q⟩
end

/-! ## the try statement -/
abbrev XSt := Nat → List D → SM
/-- behind a suite -/
def aft (i : Nat) : Option Fl → Option Fl
  | some (.nx sd o) => some (.nx (sd.set i none) o)
  | some (.bk sd o) => some (.bk (sd.set i none) o)
  | some (.ct sd o) => some (.ct (sd.set i none) o)
  | some (.rt s o) => some (.rt s o)
  | _ => none
def hndl (i : Nat) : List ((Nat → Bool) × XSt) → Nat → List D → SM
  | [], c, fs => fun sd own => some (.ex c fs sd own)
  | h :: r, c, fs => if h.1 c then fun sd own => if i < sd.length then aft i (h.2 c fs (sd.set i none) own) else none else hndl i r c fs
def sTry (L : List Nat) (i : Nat) (body : SM) (hs : List ((Nat → Bool) × XSt)) : SM := fun sd own => match body sd own with
  | some (.ex c fs sd' own') => if c ∈ L then hndl i hs c fs sd' own' else none
  | r => r
/-- the clauses with their readings -/
inductive HX (X : Cx) (Y : Cy) (n : Str) (i : Nat) (L : List Nat) : List ExceptHandler → List ((Nat → Bool) × XSt) → Prop
  | nil : HX X Y n i L [] []
  | cons {x : Str} {cv : Value} {bf : Nat → Bool} {st : XSt} {b₀ : Stmt} {suite : List Stmt} {np pos' : Pos} {hs : List ExceptHandler} {l : List ((Nat → Bool) × XSt)} (hc : Names X x cv) (hM : ∀ c ∈ L, PySem.W.exmOne X.K (.ref (Y.T.ct c)) cv = some (bf c))
      (hsu : ∀ (a : Addr) (oe : Obj) (c : Nat) (fs : List D) (d : Option Addr) (pn : List (Addr × Obj)), Zc (.ref (Y.T.ct c)) d oe → (∃ vs, oe.data = .fields vs) → PSs (X.suite a ((a, oe) :: pn)) (b₀ :: suite) (trXS Y ⟨i, a, c, fs, d⟩ (st c fs))) (r : HX X Y n i L hs l) :
      HX X Y n i L (.ExceptHandler (some (.Name x np)) (some n) (b₀ :: suite) pos' :: hs) ((bf, st) :: l)
def WY (Y : Cy) : WX := fun cls d σ H => Y.Ek σ cls d H
section
variable {X : Cx} {Y : Cy} {n : Str} {i : Nat} {L : List Nat}
end
end Gx
end T_GxE6
section T_GxN1
set_option Elab.async false
set_option linter.all false
set_option maxRecDepth 100000
set_option maxHeartbeats 4000000
namespace Gx
open PySem PySem.Spec PyProof.Rows L2
open AutoSeq1 (wpAny_loadPart')

/-- the tuple at a, each item in a new pair -/
def Itf (K : PySem.W.Frag) (a : Addr) : It :=
  ⟨fun i H => ∃ (xs : List V) (x : V), SqT K H a xs ∧ xs[i]? = some x, fun i H v H' => ∃ T x, v = .ref T ∧ H T = none ∧ H' = upd H T (.tup [.int (i : Nat), x]) ∧ ∀ xs, SqT K H a xs → xs[i]? = some x, fun i H => ∃ xs : List V, SqT K H a xs ∧ xs.length ≤ i⟩
/-- enumerate of a list or of a tuple -/
def iEnumA (K : PySem.W.Frag) (ta : TA) : TI := fun σ H R => ta σ H fun vs H1 => (∃ a xs, vs = [.ref a] ∧ SqL K H1 a xs ∧ R (Ite K a) H1) ∨ (∃ a xs, vs = [.ref a] ∧ SqT K H1 a xs ∧ R (Itf K a) H1)
def enumD (xs : List D) : List D := xs.zipIdx.map fun p => .tup [.int (p.2 : Nat), p.1]
def iEnum (f : EM) : IM := f.bind fun x => match x with
  | .d (.lst xs) => M.ret (enumD xs)
  | .d (.tup xs) => M.ret (enumD xs)
  | _ => M.fail
section
variable {X : Cx} {Y : Cy} {a : Expr} {f : EM} {p pos tpos : Pos} {elts : List Expr} {kk : Nat}
theorem enumD_len (xs : List D) : (enumD xs).length = xs.length := by unfold enumD; simp
end
end Gx
end T_GxN1
section T_GxN2
set_option Elab.async false
set_option linter.all false
set_option maxRecDepth 100000
set_option maxHeartbeats 4000000
namespace Gx
open PySem PySem.Spec PyProof.Rows L2

/-! ## operators of ints by name -/
section
variable {X : Cx} {Y : Cy} {pos : Pos} {a b : Expr} {f g : EM}
theorem o2_lt : O2 Y (rI0 fun i j => .bl (decide (i < j))) mLt := o2_I0 fun _ _ _ => .bl _
theorem o2_le : O2 Y (rI0 fun i j => .bl (decide (i ≤ j))) mLe := o2_I0 fun _ _ _ => .bl _
theorem o2_gt : O2 Y (rI0 fun i j => .bl (decide (j < i))) mGt := o2_I0 fun _ _ _ => .bl _
theorem o2_ge : O2 Y (rI0 fun i j => .bl (decide (j ≤ i))) mGe := o2_I0 fun _ _ _ => .bl _
theorem r_sub (ha : PE X a (trE Y f)) (hb : PE X b (trE Y g)) : PE X (.BinOp a .Sub b pos) (trE Y (eB mSub f g)) := r_bin op_sub (o2_I0 fun _ _ _ => .int _) ha hb
theorem r_mul (ha : PE X a (trE Y f)) (hb : PE X b (trE Y g)) : PE X (.BinOp a .Mult b pos) (trE Y (eB mMul f g)) := r_bin op_mul (o2_I (fun i j h => show (-(2 ^ 64) < i ∧ i < 2 ^ 64) ∨ (-(2 ^ 64) < j ∧ j < 2 ^ 64) from of_decide_eq_true h) fun _ _ _ => .int _) ha hb
theorem r_fdiv (ha : PE X a (trE Y f)) (hb : PE X b (trE Y g)) : PE X (.BinOp a .FloorDiv b pos) (trE Y (eB mFdiv f g)) := r_bin op_fdiv (o2_I (fun i j h => show 0 < j ∧ j < 1073741824 from of_decide_eq_true h) fun _ _ _ => .int _) ha hb
theorem r_mod (ha : PE X a (trE Y f)) (hb : PE X b (trE Y g)) : PE X (.BinOp a .Mod b pos) (trE Y (eB mMod f g)) := r_bin op_mod (o2_I (fun i j h => show 0 < j from of_decide_eq_true h) fun _ _ _ => .int _) ha hb
theorem r_pow (ha : PE X a (trE Y f)) (hb : PE X b (trE Y g)) : PE X (.BinOp a .Pow b pos) (trE Y (eB mPow f g)) := r_bin op_pow (o2_I (fun i j h => show 0 ≤ j ∧ j ≤ 1000000 ∧ i.natAbs < 2 ^ 64 from of_decide_eq_true h) fun _ _ _ => .int _) ha hb
theorem _root_.L2.Room.u64 {k : Nat} {A : Around} (r : Room k A) : A.units + 64 < cLine := by have := r.un; omega
theorem _root_.L2.Room.u1 {k : Nat} {A : Around} (r : Room k A) : A.units + 1 < cLine := by have := r.un; omega
end

/-! ## own classes: isinstance, ==, len -/
/-- an own class whose instances may be asked for their class -/
structure Oc (K : PySem.W.Frag) (C : Addr) : Prop where
  cl : Cls K C
  ha : PySem.W.findIn K (.ref C) "__class__" = some (some (.builtin "object.__class__"))
  hn : PySem.W.specialIn K (.builtin "object.__class__") "__get__" = some (some (.builtin "getset_descriptor.__get__"))
  ht : PySem.W.takesIn K (.builtin "object.__class__") = some true
  hm : PySem.W.mroIn K C (.type "object") = some true
/-- the own classes L, one among the others and among the built-in ones -/
structure OwnF (T : Tb) (L : List Nat) : Prop where
  oc : ∀ c ∈ L, Oc T.K (T.ct c)
  own : ∀ c ∈ L, ∀ c2 ∈ L, PySem.W.kitOne T.K (.ref (T.ct c)) (.ref (T.ct c2)) = some (c == c2)
  base : ∀ k < 7, ∀ c ∈ L, PySem.W.kitOne T.K (.type (tyName k)) (.ref (T.ct c)) = some false
  none_ : ∀ k < 7, ∀ c ∈ L, PySem.W.kitOne T.K (.ref (T.ct c)) (.type (tyName k)) = some false
  first : ∀ k < 7, ∀ c ∈ L, PySem.W.notFirst T.K (T.ct c) (.type (tyName k)) = true
  firstO : ∀ c ∈ L, ∀ c2 ∈ L, PySem.W.notFirst T.K (T.ct c) (.ref (T.ct c2)) = true
/-- a value's type: by the base, or its own class -/
def tyO (L : List Nat) (own : Own) (x : SV) : Option (Nat ⊕ Nat) := match x with
  | .d (.obj c _) => if c ∈ L then some (.inr c) else none
  | x => (datV own x).bind fun d => (tyOf d).map .inl
def tyV (T : Tb) : Nat ⊕ Nat → Value
  | .inl k => .type (tyName k)
  | .inr c => .ref (T.ct c)
/-- isinstance(x, c), own classes too -/
def mIsiO (L : List Nat) : Own → SV → SV → Option D := fun own x c => match c with
  | .d (.ty k) => if k < 7 then (tyO L own x).map fun t => .bl (match t with
    | .inl t => isTy t k
    | .inr _ => false) else none
  | .d (.cls c) => if c ∈ L then (tyO L own x).map fun t => .bl (match t with
    | .inl _ => false
    | .inr c1 => c1 == c) else none
  | _ => none
section
variable {T : Tb} {L : List Nat} {B : Hp} {g : Gh} {own : Own} {H : Hp}
end

/-- a method of the class c by its special name -/
structure Spec (P : Program) (w : World) (K : PySem.W.Frag) (mg : Str → Option Value) (base : Heap) (T : Tb) (k c n : Nat) (nm : Str) (Ff : FM) : Prop where
  ex : ∃ (f : Addr) (fd : FuncData) (ps : List Str), PySem.W.findIn K (.ref (T.ct c)) nm = some (some (.ref f)) ∧ PySem.W.isFn K (.ref f) = true ∧ Binds K fd ps [] ∧ FnOk P w K mg base (L2.CX P w) k f fd ps (spF T n Ff)
/-- a callee that raises nothing, on data alone: its value -/
def callV0 (Ff : FM) (xs : List SV) : Option D := match dats xs with
  | none => none
  | some _ => match Ff xs [] with
    | some (.ok s, own') => resD own' s
    | _ => none
/-- len(x): x a list, a tuple, .., or an instance with its own __len__ -/
def mLenO (FL : Nat → Option FM) : Own → SV → Option D := fun own x => match x with
  | .d (.obj c _) => (FL c).bind fun Ff => match callV0 Ff [x] with
    | some (.int n) => if 0 ≤ n ∧ n < 2 ^ 63 then some (.int n) else none
    | _ => none
  | x => mLen own x
abbrev rLenO (X : Cx) (T : Tb) (k : Nat) (FL : Nat → Option FM) : List V → Hp → VK → Prop := fun xs H Q => ∃ (c : Nat) (Ff : FM) (a dx : Addr) (fs : List (Str × V)), FL c = some Ff ∧ xs = [.ref a] ∧ H a = some (.ins (T.ct c) dx fs) ∧ Spec X.prog X.w X.K X.mg X.base T k c 1 "__len__" Ff ∧
  spF T 1 Ff [.ref a] H (fun v H' => ∃ n, v = .int n ∧ 0 ≤ n ∧ n < 2 ^ 63 ∧ Q (.int n) H') (fun _ _ _ => False)
/-! ### == -/
def mEqO (L : List Nat) (FE : Nat → Option FM) (neg : Bool) : Own → SV → SV → Option D := fun own x y => match x with
  | .d (.obj c _) => if c ∈ L then (match neg with
    | false => (FE c).bind fun Ff => (tyO L own y).bind fun _ => match callV0 Ff [x, y] with
      | some (.bl b) => some (.bl b)
      | _ => none
    | true => none) else none
  | x => match neg with
    | false => mEq own x y
    | true => mNe own x y
abbrev rEqO (X : Cx) (T : Tb) (k : Nat) (FE : Nat → Option FM) : R2 := fun x y H Q => ∃ (c : Nat) (Ff : FM) (a dx : Addr) (fs : List (Str × V)) (t : Value), FE c = some Ff ∧ x = .ref a ∧ H a = some (.ins (T.ct c) dx fs) ∧ Spec X.prog X.w X.K X.mg X.base T k c 2 "__eq__" Ff ∧ TyX X.K H y t ∧ PySem.W.notFirst X.K (T.ct c) t = true ∧
  spF T 2 Ff [.ref a, y] H (fun v H' => ∃ b, v = .bl b ∧ Q (.bl b) H') (fun _ _ _ => False)
/-- the classes' own == and len, as the text has them -/
structure OwnM (P : Program) (w : World) (K : PySem.W.Frag) (mg : Str → Option Value) (base : Heap) (T : Tb) (k : Nat) (L : List Nat) (FE FL : Nat → Option FM) : Prop where
  o : OwnF T L
  hK : K = T.K
  eq : ∀ c Ff, FE c = some Ff → Spec P w K mg base T k c 2 "__eq__" Ff
  len : ∀ c Ff, FL c = some Ff → Spec P w K mg base T k c 1 "__len__" Ff
section
variable {X : Cx} {Y : Cy} {k j : Nat} {L : List Nat} {FE FL : Nat → Option FM}
end

/-! ### properties -/
def eProp (c : Nat) (Ff : FM) (f : EM) : EM := f.bind fun x => M.ask fun _ => match x with
  | .d (.obj c' _) => if c' = c then (callV0 Ff [x]).map SV.d else none
  | _ => none
/-- a property of the class c -/
structure Prp (P : Program) (w : World) (K : PySem.W.Frag) (mg : Str → Option Value) (base : Heap) (T : Tb) (k c : Nat) (nm : Str) (Ff : FM) : Prop where
  cl : Cls K (T.ct c)
  ex : ∃ (p f : Addr) (fd : FuncData) (ps : List Str), PropOf K (T.ct c) nm p f ∧ Binds K fd ps [] ∧ FnOk P w K mg base (L2.CX P w) k f fd ps (spF T 1 Ff)
section
variable {X : Cx} {Y : Cy} {k j c : Nat} {nm : Str} {Ff : FM} {e : Expr} {pos : Pos} {f : EM}
end
end Gx
end T_GxN2
section T_GxN3
set_option Elab.async false
set_option linter.all false
set_option maxRecDepth 100000
set_option maxHeartbeats 4000000
namespace Gx
open PySem PySem.Spec PyProof.Rows L2

/-! ## a list of one's own, walked as it stands at each turn -/
def forH (k : Nat) (tg : GM) (body : SM) : Nat → Nat → SM
  | 0, _ => sNo
  | n + 1, i => fun sd own => match own[k]? with
    | some (.lst ys) => (match ys[i]? with
      | none => some (.nx sd own)
      | some x => (match tg x sd with
        | none => none
        | some sd1 => (match body sd1 own with
          | some (.nx sd2 own2) => forH k tg body n (i + 1) sd2 own2
          | some (.ct sd2 own2) => forH k tg body n (i + 1) sd2 own2
          | some (.bk sd2 own2) => some (.nx sd2 own2)
          | r => r)))
    | _ => none
def sForH (n : Nat) (f : EM) (tg : GM) (body : SM) : SM := SM.bind f fun x => match x with
  | .h k => forH k tg body n 0
  | .d _ => sNo
/-! ### .. in a comprehension -/
def lcH (k : Nat) (tg : GM) (t : TM) (f : EM) (sd0 : Sl) : Nat → Nat → Own → Option (List D × Own)
  | 0, _, _ => none
  | n + 1, i, own => match own[k]? with
    | some (.lst ys) => (match ys[i]? with
      | none => some ([], own)
      | some x => (match tg x sd0 with
        | none => none
        | some sd1 => (match t sd1 own with
          | some (.ok true, o1) => (match f sd1 o1 with
            | some (.ok (.d d), o2) => (match lcH k tg t f sd0 n (i + 1) o2 with
              | some (ds, o3) => some (d :: ds, o3)
              | none => none)
            | _ => none)
          | some (.ok false, o1) => lcH k tg t f sd0 n (i + 1) o1
          | _ => none)))
    | _ => none
def eLCH (n : Nat) (src : EM) (vs : List Nat) (tg : GM) (t : TM) (f : EM) : EM := src.bind fun x => match x with
  | .h k => fun sd own => (match lcH k tg t f (wipeD sd vs) n 0 own with
    | some (ds, o) => if ds.length < sizeLine then some (.ok (.d (.lst ds)), o) else none
    | none => none)
  | .d _ => M.fail
section
variable {X : Cx} {Y : Cy} {tgx iter elt : Expr} {ifs : List Expr} {scope : Scope} {own : List (Str × Nat)} {pos : Pos} {src : EM} {tg : GM} {gg : TG} {is : List Nat} {t : TM} {f : EM}
theorem guard_none {B : Hp} {g g' : Gh} {n n' : Nat} {p : Addr} {u : HO} (e : GExt (upd B p u) g n g' n') (h : g.F p = none) : g'.F p = none := by
  cases q : g'.F p with
  | none => rfl
  | some w =>
    rcases e.fb _ _ q with z | z
    · rw [h] at z; cases z
    · rw [upd_same] at z; cases z
end
end Gx
end T_GxN3
section T_GxN4
set_option Elab.async false
set_option linter.all false
set_option maxRecDepth 100000
set_option maxHeartbeats 4000000
namespace Gx
open PySem PySem.Spec PyProof.Rows L2

/-! ## contexts -/
theorem cx_blk {X : Cx} {T : Tb} {B : Hp} (hK : X.K = T.K := by rfl) : CxOk X ⟨T, B, E00⟩ := ⟨hK, fun σ pins H s e s' I h => passL pins σ H s e s' I h⟩
section
variable {P : Program} {w : World} {K : PySem.W.Frag} {mg : Str → Option Value} {base : Heap} {N : List Str} {qual : Str} {sc : Scope} {f : Addr} {cdv : Value} {A : Around} {outer : List Env} {s : Shared} {H : Hp} {E : XK} {T : Tb} {B : Hp}
theorem tk_def : Takes (cxOf (L2.CX P w) P w K mg base N qual sc f cdv A outer s H E) (WY ⟨T, B, fun _ => E⟩) := takes_of rfl rfl rfl rfl
theorem cx_def (hK : K = T.K := by rfl) : CxOk (cxOf (L2.CX P w) P w K mg base N qual sc f cdv A outer s H E) ⟨T, B, fun _ => E⟩ := ⟨hK, fun σ => passAt (W := WY ⟨T, B, fun _ => E⟩) tk_def σ⟩
end
/-! ## constants -/
/-- a tuple of texts that the module's top has written -/
structure TupC (K : PySem.W.Frag) (mg : Str → Option Value) (x : Str) (ys : List Str) : Prop where
  ex : ∃ (a : Addr) (o : Obj) (its : Array Value) (n : Nat), mg x = some (.ref a) ∧ K.lookup a = some o ∧ o.cls = .type "tuple" ∧ o.data = .seq its n ∧ its.size ≤ sizeLine ∧ Vals (ys.map V.str) its.toList
theorem reps_str {T : Tb} {F : Hp} : ∀ ys : List Str, Reps T F (ys.map D.str) (ys.map V.str)
  | [] => .nil
  | y :: ys => .cons (.str y) (reps_str ys)
theorem r_gt {X : Cx} {Y : Cy} {x : Str} {ys : List Str} {pos : Pos} {ds : List D} (c : TupC X.K X.mg x ys) (hK : X.K = Y.T.K := by rfl) (hd : ds = ys.map D.str := by rfl) (hg : Gl X x := by rfl) (hdb : (x == ("__debug__" : Str)) = false := by decide) : PE X (.Name x pos) (trE Y (eK (.tup ds))) := by
  obtain ⟨a, o, its, n, hm, hk, hc, hdt, hz, hv⟩ := c.ex
  rw [hd]
  exact r_k (pe_glob hg hm (v := .ref a) rfl hdb) fun F => .tup (.inr ⟨o, its, n, by rw [← hK]; exact hk, hc, hdt, hz, hv⟩) (reps_str ys)
/-! ## the drawing of the row, the law -/
/-- _law_draws: a copy of the script, then 0, 0, 7 -/
def spDraw (K : PySem.W.Frag) : Sp := fun vs H Q _ => ∃ (a : Addr) (ns : List Int), vs = [.ref a] ∧ SqL K H a (ns.map V.int) ∧ ∀ l p, H l = none → H p = none → p ≠ l → Q (.ref p) (upd (upd H l (.lst (ns.map V.int))) p (.lst [.ref l, .int 0, .int 0, .int 7]))
def spLaw (K : PySem.W.Frag) : Sp := fun vs H Q _ => ∃ (a : Addr) (ns : List Int), vs = [.ref a] ∧ ns.length ≤ 63 ∧ SqL K H a (ns.map V.int) ∧ ∀ H', Q (.bl true) H'
section
variable {P : Program} {w : World} {K : PySem.W.Frag} {mg : Str → Option Value} {base : Heap}
theorem draws_ok {st : Stmt} {f : Addr} {fd : FuncData} {p1 p2 p3 p4 p5 p6 p7 p8 : Pos} {j1 j2 j3 : Nat} (F : Fun K "_law_draws" "_law_draws" st f fd) (S : FnScope ["_law_script"] ["_law_script"] (defScope st)) (hl : mg "list" = none) (hg : (defScope st).names.lookup ("list" : Str) = some .globalImplicit)
    (hs : (defScope st).names.lookup ("_law_script" : Str) = some .local)
    (hb : defBody st = [.Return (some (.List [.Call (.Name "list" p1) [.Name "_law_script" p2] [] p3, .Constant (.int 0) j1 p4, .Constant (.int 0) j2 p5, .Constant (.int 7) j3 p6] p7)) p8]) : FnOk P w K mg base (L2.CX P w) 1 f fd ["_law_script"] (spDraw K) := by
  refine F.okX (k := 0) S (fun vs H Q E h => ?_) (fun cdv A outer s H vs Q E hr h => ?_)
  · obtain ⟨a, ns, rfl, _⟩ := h
    rfl
  · obtain ⟨a, ns, rfl, hS, h⟩ := h
    rw [hb]
    refine ⟨_, pss_one (ps_ret (pe_lst (pa_cons (pe_callTy call_list_of hg hl (by decide +kernel) (pa_cons (pe_var (i := 0) rfl (.inl hs)) pa_nil)) (pa_cons pe_int (pa_cons pe_int (pa_cons pe_int pa_nil)))))), ?_⟩
    refine ⟨_, rfl, a, _, rfl, .inl hS, fun l hl => ?_⟩
    refine ⟨(by show 4 ≤ sizeLine; rw [sizeLine_eq]; decide), fun p hp => ?_⟩
    have hpl : p ≠ l := fun z => by rw [z, upd_same] at hp; cases hp
    exact h l p hl (by rw [← upd_ne (H := H) (o := .lst (ns.map V.int)) hpl]; exact hp) hpl
/-- the law's names at the second statement: the script is not looked at again -/
def lawSl (n : Nat) : Sl := none :: some (.h 0) :: List.replicate (n - 2) none
def lawRow (ns : List Int) : Own := [.lst [.lst (ns.map D.int), .int 0, .int 0, .int 7]]
theorem reps_int {T : Tb} {F : Hp} : ∀ ns : List Int, Reps T F (ns.map D.int) (ns.map V.int)
  | [] => .nil
  | y :: ys => .cons (.int y) (reps_int ys)
theorem law_of {T : Tb} {st : Stmt} {f : Addr} {fd : FuncData} {N : List Str} {k : Nat} {rest : List Stmt} {Lr : SM} {p1 p2 p3 p4 p5 : Pos} (F : Fun K "law" "law" st f fd) (S : FnScope N ["_law_script"] (defScope st)) (hk : 1 ≤ k) (h0 : N[0]? = some ("_law_script" : Str)) (h1 : N[1]? = some ("_law_row" : Str))
    (v0 : (defScope st).names.lookup ("_law_script" : Str) = some .local) (v1 : (defScope st).names.lookup ("_law_row" : Str) = some .local) (vg : (defScope st).names.lookup ("_law_draws" : Str) = some .globalImplicit)
    (dr : ∃ (f' : Addr) (fd' : FuncData), mg "_law_draws" = some (.ref f') ∧ PySem.W.keepIn K (.ref f') = true ∧ Binds K fd' ["_law_script"] [] ∧ FnOk P w K mg base (L2.CX P w) 1 f' fd' ["_law_script"] (spDraw K))
    (hb : defBody st = .Assign [.Name "_law_row" p1] (.Call (.Name "_law_draws" p2) [.Name "_law_script" p3] [] p4) p5 :: rest)
    (hsw : ∀ env : Env, swapsWith (.Call (.Name "_law_draws" p2) [.Name "_law_script" p3] [] p4) (some (.Name "_law_row" p1)) p5.line env = pure false)
    (hrest : ∀ (cdv : Value) (A : Around) (outer : List Env) (s : Shared) (H : Hp) (E : XK) (B : Hp), Room k (A.deeper (envOfC "law" (defScope st) s.heap.objs.size f cdv)) →
      PSs (cxOf (L2.CX P w) P w K mg base N "law" (defScope st) f cdv A outer s H E) rest (trS ⟨T, B, fun _ => E⟩ Lr))
    (hsem : ∀ ns : List Int, ns.length ≤ 63 → ∃ own', Lr (lawSl N.length) (lawRow ns) = some (.rt (.d (.bl true)) own')) :
    FnOk P w K mg base (L2.CX P w) (k + 1) f fd ["_law_script"] (spLaw K) := by
  obtain ⟨f', fd', hm, hkp, hbd, FD⟩ := dr
  refine F.okX (k := k) S (fun vs H Q E h => ?_) (fun cdv A outer s H vs Q E hr h => ?_)
  · obtain ⟨a, ns, rfl, _⟩ := h
    rfl
  · obtain ⟨a, ns, rfl, hl, hS, hQ⟩ := h
    rw [hb]
    have hN2 : 2 ≤ N.length := by
      have := (List.getElem?_eq_some_iff.mp h1).1
      omega
    refine ⟨_, pss_cons (ps_set (i := 1) S.nd h1 (.inl v1) (pe_call FD (hr.mono hk) vg hm hkp hbd .nil passL (pa_cons (pe_var h0 (.inl v0)) pa_nil)) (hsw _)) (hrest cdv A outer s H E H hr), ?_⟩
    refine ⟨.ref a, rfl, a, ns, rfl, hS, fun l p hl0 hp0 hpl => ?_⟩
    obtain ⟨own', hs⟩ := hsem ns hl
    have R0 : HRel T H ⟨fun _ => none, fun _ => 0⟩ [] H := hrel_fresh (F := fun _ => none) fun a o e => by cases e
    obtain ⟨R1, e1⟩ := R0.new hl0 (.lst (ns.map V.int))
    have hp1 : upd H l (.lst (ns.map V.int)) p = none := by rw [upd_ne hpl]; exact hp0
    obtain ⟨R2, e2⟩ := R1.made (ho := .lst [.ref l, .int 0, .int 0, .int 7]) (o := .lst [.lst (ns.map D.int), .int 0, .int 0, .int 7]) hp1
      ⟨[.ref l, .int 0, .int 0, .int 7], upd_same, .cons (.lst upd_same (reps_int ns)) (.cons (.int 0) (.cons (.int 0) (.cons (.int 7) .nil)))⟩
    refine ⟨_, lawSl N.length, lawRow ns, R2, ⟨?_, fun i sv e => ?_⟩, _, hs, fun g' v H' R' e' rv => ?_⟩
    · show ((L2.start N [V.ref a]).set 1 (some (V.ref p))).length = (lawSl N.length).length
      rw [List.length_set]
      unfold L2.start lawSl
      simp
      omega
    · match i, e with
      | 0, e => cases e
      | 1, e =>
        have e : some (SV.h 0) = some sv := by
          unfold lawSl at e
          simpa using e
        cases e
        refine ⟨.ref p, ?_, (show 0 < 1 by decide), rfl⟩
        rw [List.getElem?_set_self]
        unfold L2.start
        simp
        omega
      | i + 2, e =>
        unfold lawSl at e
        simp only [List.getElem?_cons_succ, List.getElem?_replicate] at e
        split at e <;> cases e
    · have rv : Rep T g'.F (.bl true) v := rv
      cases rv
      exact hQ H'
end
end Gx
end T_GxN4
section T_GxN5
set_option Elab.async false
set_option linter.all false
set_option maxRecDepth 100000
set_option maxHeartbeats 4000000
namespace Gx
open PySem PySem.Spec PyProof.Rows L2
section
variable {X : Cx} {Y : Cy} {pos : Pos} {a : Expr} {f : EM}
theorem r_neg (h : PE X a (trE Y f)) : PE X (.UnaryOp .USub a pos) (trE Y (eU mNeg f)) := by
  refine PE.imp (pe_un un_neg h) fun σ H Q q => ?_
  obtain ⟨gh, sd, own, R, S, q⟩ := q
  refine at_bind R S q fun g1 o1 x v H1 R1 S1 e1 rx q1 => ?_
  obtain ⟨s, es, k⟩ := at_ask q1
  obtain ⟨d, e2, e3⟩ := Option.map_eq_some_iff.mp es
  subst e3
  cases x with
  | h k => cases e2
  | d x =>
    cases x with
    | int i => cases e2; exact ⟨i, sv_int rx, k g1 _ H1 R1 .rfl' (Rep.int _)⟩
    | _ => cases e2
/-- {} that is not to change -/
def eDic0 : EM := M.ret (.d (.dic [] []))
theorem r_dic0 : PE X (.Dict [] [] pos) (trE Y eDic0) := by
  refine PE.imp pe_dnewK fun σ H Q q => ?_
  obtain ⟨gh, sd, own, R, S, q⟩ := q
  have k := at_ret q
  intro p hp
  obtain ⟨R2, e2⟩ := R.new hp (.dK [])
  exact k _ _ _ R2 e2 (Rep.dic (kvs := []) (.inl upd_same) rfl .nil)
/-- {} of one's own -/
def eDicH : EM := fun _ own => some (.ok (.h own.length), own ++ [.dic [] []])
theorem r_dicH : PE X (.Dict [] [] pos) (trE Y eDicH) := by
  refine PE.imp pe_dnewK fun σ H Q q => ?_
  obtain ⟨gh, sd, own, R, S, r, own', e, k⟩ := q
  cases e
  intro p hp
  obtain ⟨R2, e2⟩ := R.made (ho := .dK []) (o := .dic [] []) hp ⟨[], upd_same, rfl, .nil⟩
  exact k _ _ _ R2 e2 ⟨by simp, by simp⟩
variable {x : Str}
theorem r_ty (k : Nat) (hm : X.mg x = none) (hv : bootBuiltins x = some (.type (tyName k)) := by decide +kernel) (hg : Gl X x := by rfl) (hn : x ≠ "__name__" := by decide) (hdb : (x == ("__debug__" : Str)) = false := by decide) : PE X (.Name x pos) (trE Y (eK (.ty k))) :=
  r_k (v := .ty (tyName k)) (pe_bltn hg hm hv rfl hn hdb) fun _ => .ty k
theorem r_ci (i : Int) (hm : ∃ t, X.mg x = some (.int i t)) (hg : Gl X x := by rfl) (hdb : (x == ("__debug__" : Str)) = false := by decide) : PE X (.Name x pos) (trE Y (eK (.int i))) := by
  obtain ⟨t, hm⟩ := hm
  exact r_k (v := .int i) (pe_glob hg hm ⟨t, rfl⟩ hdb) fun _ => .int i
theorem r_cs (i : Str) (hm : ∃ t, X.mg x = some (.str i t)) (hg : Gl X x := by rfl) (hdb : (x == ("__debug__" : Str)) = false := by decide) : PE X (.Name x pos) (trE Y (eK (.str i))) := by
  obtain ⟨t, hm⟩ := hm
  exact r_k (v := .str i) (pe_glob hg hm ⟨t, rfl⟩ hdb) fun _ => .str i
end
end Gx
end T_GxN5
section T_GxN6
set_option Elab.async false
set_option linter.all false
set_option maxRecDepth 100000
set_option maxHeartbeats 4000000
namespace Gx
open PySem PySem.Spec PyProof.Rows L2

/-! ## what the written part says, put together -/
def ctOf (l : List (Nat × Addr)) : Nat → Addr := fun c => (l.lookup c).getD 0
/-- an own class in raw words -/
structure OwnK (K : PySem.W.Frag) (C : Addr) : Prop where
  pg : PySem.W.plainGet K C Str.empty = true
  hd : PySem.W.hasDictIn K C = true
  po : PySem.W.plainOver K C = true
  sa : PySem.W.findIn K (.ref C) "__setattr__" = some (some (.builtin "object.__setattr__"))
  ha : PySem.W.findIn K (.ref C) "__class__" = some (some (.builtin "object.__class__"))
  hn : PySem.W.specialIn K (.builtin "object.__class__") "__get__" = some (some (.builtin "getset_descriptor.__get__"))
  ht : PySem.W.takesIn K (.builtin "object.__class__") = some true
  hm : PySem.W.mroIn K C (.type "object") = some true
  ic : PySem.W.isClsIn K C = true
  ty : PySem.W.typeIn K (.ref C) = some (.type "type")
  sf : PySem.W.subIn K (.ref C) (.ref C) = some true
  b0 : PySem.W.subIn K (.type "int") (.ref C) = some false
  b1 : PySem.W.subIn K (.type "bool") (.ref C) = some false
  b2 : PySem.W.subIn K (.type "str") (.ref C) = some false
  b3 : PySem.W.subIn K (.type "tuple") (.ref C) = some false
  b4 : PySem.W.subIn K (.type "list") (.ref C) = some false
  b5 : PySem.W.subIn K (.type "dict") (.ref C) = some false
  b6 : PySem.W.subIn K (.type "NoneType") (.ref C) = some false
  n0 : PySem.W.subIn K (.ref C) (.type "int") = some false
  n1 : PySem.W.subIn K (.ref C) (.type "bool") = some false
  n2 : PySem.W.subIn K (.ref C) (.type "str") = some false
  n3 : PySem.W.subIn K (.ref C) (.type "tuple") = some false
  n4 : PySem.W.subIn K (.ref C) (.type "list") = some false
  n5 : PySem.W.subIn K (.ref C) (.type "dict") = some false
  n6 : PySem.W.subIn K (.ref C) (.type "NoneType") = some false
section
variable {K : PySem.W.Frag} {C C2 : Addr}
theorem OwnK.base (o : OwnK K C) : ∀ k < 7, PySem.W.subIn K (.type (tyName k)) (.ref C) = some false := by
  intro k hk
  match k, hk with
  | 0, _ => exact o.b0
  | 1, _ => exact o.b1
  | 2, _ => exact o.b2
  | 3, _ => exact o.b3
  | 4, _ => exact o.b4
  | 5, _ => exact o.b5
  | 6, _ => exact o.b6
theorem OwnK.none_ (o : OwnK K C) : ∀ k < 7, PySem.W.subIn K (.ref C) (.type (tyName k)) = some false := by
  intro k hk
  match k, hk with
  | 0, _ => exact o.n0
  | 1, _ => exact o.n1
  | 2, _ => exact o.n2
  | 3, _ => exact o.n3
  | 4, _ => exact o.n4
  | 5, _ => exact o.n5
  | 6, _ => exact o.n6
theorem OwnK.cls (o : OwnK K C) : Cls K C := ⟨o.pg, o.hd, o.po, o.sa⟩
/-- an exception class in raw words -/
structure ExcK (K : PySem.W.Frag) (C : Addr) : Prop where
  hg : PySem.W.findIn K (.ref C) "__getattribute__" = some (some (.builtin "BaseException.__getattribute__"))
  hk : PySem.W.findIn K (.ref C) "__getattr__" = some none
  hs : PySem.W.subIn K (.ref C) (.type "BaseException") = some true
  hd : PySem.W.hasDictIn K C = true
  ha : PySem.W.findIn K (.ref C) "__class__" = some (some (.builtin "object.__class__"))
  hn : PySem.W.specialIn K (.builtin "object.__class__") "__get__" = some (some (.builtin "getset_descriptor.__get__"))
  ht : PySem.W.takesIn K (.builtin "object.__class__") = some true
  hm : PySem.W.mroIn K C (.type "object") = some true
  ic : PySem.W.isClsIn K C = true
  ty : PySem.W.typeIn K (.ref C) = some (.type "type")
  sf : PySem.W.subIn K (.ref C) (.ref C) = some true
end

/-- def_ok with what the body's rules ask of the context -/
theorem def_ok2 {P : Program} {w : World} {K : PySem.W.Frag} {mg : Str → Option Value} {base : Heap} {x qual : Str} {st : Stmt} {f : Addr} {fd : FuncData} {N ps : List Str} {k n : Nat} {ct : Nat → Addr} {body : SM}
    (F : Fun K x qual st f fd) (S : FnScope N ps (defScope st)) (hn : ps.length = n)
    (h : ∀ (cdv : Value) (A : Around) (outer : List Env) (s : Shared) (H : Hp) (E : XK) (B : Hp), Room k (A.deeper (envOfC qual (defScope st) s.heap.objs.size f cdv)) →
      Takes (cxOf (L2.CX P w) P w K mg base N qual (defScope st) f cdv A outer s H E) (WY ⟨⟨K, ct⟩, B, fun _ => E⟩) → PassesOwn (model P w) (A.deeper (envOfC qual (defScope st) s.heap.objs.size f cdv)) (envOfC qual (defScope st) s.heap.objs.size f cdv) (cxOf (L2.CX P w) P w K mg base N qual (defScope st) f cdv A outer s H E).xe →
      CxOk (cxOf (L2.CX P w) P w K mg base N qual (defScope st) f cdv A outer s H E) ⟨⟨K, ct⟩, B, fun _ => E⟩ → PSs (cxOf (L2.CX P w) P w K mg base N qual (defScope st) f cdv A outer s H E) (defBody st) (trS ⟨⟨K, ct⟩, B, fun _ => E⟩ body)) :
    FnOk P w K mg base (L2.CX P w) (k + 1) f fd ps (spF ⟨K, ct⟩ n (runDef N.length body)) :=
  def_ok F S hn fun cdv A outer s H E B hr => h cdv A outer s H E B hr tk_def (passes_of rfl) cx_def
theorem law_of2 {P : Program} {w : World} {K : PySem.W.Frag} {mg : Str → Option Value} {base : Heap} {ct : Nat → Addr} {st : Stmt} {f : Addr} {fd : FuncData} {N : List Str} {k : Nat} {rest : List Stmt} {Lr : SM} {p1 p2 p3 p4 p5 : Pos} (F : Fun K "law" "law" st f fd) (S : FnScope N ["_law_script"] (defScope st)) (hk : 1 ≤ k) (h0 : N[0]? = some ("_law_script" : Str)) (h1 : N[1]? = some ("_law_row" : Str))
    (v0 : (defScope st).names.lookup ("_law_script" : Str) = some .local) (v1 : (defScope st).names.lookup ("_law_row" : Str) = some .local) (vg : (defScope st).names.lookup ("_law_draws" : Str) = some .globalImplicit)
    (dr : ∃ (f' : Addr) (fd' : FuncData), mg "_law_draws" = some (.ref f') ∧ PySem.W.keepIn K (.ref f') = true ∧ Binds K fd' ["_law_script"] [] ∧ FnOk P w K mg base (L2.CX P w) 1 f' fd' ["_law_script"] (spDraw K))
    (hb : defBody st = .Assign [.Name "_law_row" p1] (.Call (.Name "_law_draws" p2) [.Name "_law_script" p3] [] p4) p5 :: rest)
    (hsw : ∀ env : Env, swapsWith (.Call (.Name "_law_draws" p2) [.Name "_law_script" p3] [] p4) (some (.Name "_law_row" p1)) p5.line env = pure false)
    (hrest : ∀ (cdv : Value) (A : Around) (outer : List Env) (s : Shared) (H : Hp) (E : XK) (B : Hp), Room k (A.deeper (envOfC "law" (defScope st) s.heap.objs.size f cdv)) →
      Takes (cxOf (L2.CX P w) P w K mg base N "law" (defScope st) f cdv A outer s H E) (WY ⟨⟨K, ct⟩, B, fun _ => E⟩) → PassesOwn (model P w) (A.deeper (envOfC "law" (defScope st) s.heap.objs.size f cdv)) (envOfC "law" (defScope st) s.heap.objs.size f cdv) (cxOf (L2.CX P w) P w K mg base N "law" (defScope st) f cdv A outer s H E).xe →
      CxOk (cxOf (L2.CX P w) P w K mg base N "law" (defScope st) f cdv A outer s H E) ⟨⟨K, ct⟩, B, fun _ => E⟩ → PSs (cxOf (L2.CX P w) P w K mg base N "law" (defScope st) f cdv A outer s H E) rest (trS ⟨⟨K, ct⟩, B, fun _ => E⟩ Lr))
    (hsem : ∀ ns : List Int, ns.length ≤ 63 → ∃ own', Lr (lawSl N.length) (lawRow ns) = some (.rt (.d (.bl true)) own')) :
    FnOk P w K mg base (L2.CX P w) (k + 1) f fd ["_law_script"] (spLaw K) :=
  law_of (T := ⟨K, ct⟩) F S hk h0 h1 v0 v1 vg dr hb hsw (fun cdv A outer s H E B hr => hrest cdv A outer s H E B hr tk_def (passes_of rfl) cx_def) hsem
theorem sup_free {l : List (Str × NameKind)} (h : (l.all fun p => p.2 != .free || p.1 == ("__class__" : Str)) = true) (_ : True = True) : ∀ x, l.lookup x = some .free → x = "__class__" := by
  intro x hx
  have hm := PySem.mem_of_lookup hx
  have h2 := List.all_eq_true.mp h _ hm
  simpa using h2
theorem cx_end {P : Program} {w : World} {H : Hp} {s : Shared} {e : Value} {s' : Shared} (z : L2.CX P w [] H s (fun _ _ _ => False) e s') : False := by
  obtain ⟨_, _, _, _, _, _, _, _, _, _, _, _, z⟩ := z
  exact z.elim
section
variable {K : PySem.W.Frag}
theorem vI_mk {x : Str} {i : Int} {t : Tok} (h : PySem.W.nsIn K mainGlobals x = some (some (.int i t))) : ∃ t, PySem.W.nsIn K mainGlobals x = some (some (.int i t)) := ⟨t, h⟩
theorem vS_mk {x : Str} {i : Str} {t : Tok} (h : PySem.W.nsIn K mainGlobals x = some (some (.str i t))) : ∃ t, PySem.W.nsIn K mainGlobals x = some (some (.str i t)) := ⟨t, h⟩
theorem vT_mk {x : Str} {ys : List Str} {a : Addr} {dd : Option Addr} {its : List Value} {n : Nat} {sl : Array (Option Value)} (h : PySem.W.nsIn K mainGlobals x = some (some (.ref a))) (l : K.lookup a = some ⟨.type "tuple", dd, .seq its.toArray n, sl⟩) (z : its.length ≤ sizeLine) (v : Vals (ys.map V.str) its) :
    ∃ (a : Addr) (o : Obj) (its : Array Value) (n : Nat), PySem.W.nsIn K mainGlobals x = some (some (.ref a)) ∧ K.lookup a = some o ∧ o.cls = .type "tuple" ∧ o.data = .seq its n ∧ its.size ≤ sizeLine ∧ Vals (ys.map V.str) its.toList :=
  ⟨a, _, its.toArray, n, h, l, rfl, rfl, by simpa using z, by simpa using v⟩
end
theorem oexc_mk {K : PySem.W.Frag} {C N : Addr} {nm q : Str} {bs bm : List Value} {sn : List Str} {sub : List Value} {ab : Bool} {col : Option Bool} {dd : Option Addr} {k0 k1 k2 k3 k5 : Option Value}
    (l : K.lookup C = some (excClassObj nm q C N bs bm true sn sub ab col dd k0 k1 k2 k3 k5 "ValueError.__new__")) (r : PySem.HandSPX.refsVE bm = true) (sa : PySem.W.findIn K (.ref C) "__setattr__" = some (some (.builtin "object.__setattr__")))
    (ex : PySem.W.subIn K (.ref C) (.type "BaseException") = some true) (ty : PySem.W.typeIn K (.ref C) = some (.type "type")) (kp : PySem.W.keepIn K (.ref C) = true) : OexC K C := ⟨⟨_, _, _, _, _, _, _, _, _, _, _, _, _, _, _, l, r⟩, sa, ex, ty, kp⟩
theorem sup_mk {P : Program} {K : PySem.W.Frag} {C f cc cda : Addr} {name qual : Str} {params : Arguments} {body : List Stmt} {scope : Scope} {kV doc pm ctv oc : Value} {an od : Option Addr} {osl : Array (Option Value)} {ccl cl : Value} {cdd cld : Option Addr} {vs : Array Value} {ccs csl : Array (Option Value)} {file : Str} {tf : Tok}
    (l : K.lookup f = some ⟨oc, od, .func (PySem.W.ksFn name qual params body scope .none kV doc pm an (.ref cda) ctv cc), osl⟩) (c : PySem.W.codeIn K (.ref cda) qual = true) (f1 : K.lookup cda = some ⟨ccl, cdd, .fields vs, ccs⟩) (f2 : vs[2]? = some (.str file tf)) (f3 : ((P.main.file : Str) == file) = true)
    (c1 : K.lookup cc = some ⟨cl, cld, .cell (some (.ref C)), csl⟩) (tp : (P.main.scope.names.lookup ("super" : Str)).isSome = false) (mgs : PySem.W.nsIn K mainGlobals "super" = some none) (op : PySem.W.nsIn K cStatics "thirdparty.any" = some none)
    (su : PySem.W.ks_superIn K C C "__init__" = some (some (.builtin "ValueError.__init__"))) (mr : PySem.W.mroIn K C (.ref C) = some true) (ve : PySem.W.subIn K (.ref C) (.type "ValueError") = some true) (ec : OexC K C) :
    ∃ fd cc cda, SupDef P K C f cc cda fd qual params body scope :=
  ⟨_, cc, cda, ⟨name, kV, doc, pm, ctv, oc, an, od, osl, rfl, l⟩, c, ⟨_, _, vs, _, file, tf, f1, f2, f3⟩, ⟨_, _, _, c1⟩, tp, mgs, op, su, mr, ve, ec⟩
theorem fn_mk {K : PySem.W.Frag} {x qual : Str} {st : Stmt} {f : Addr} {oc : Value} {od an : Option Addr} {osl : Array (Option Value)} {kV doc pm cdv ctv : Value} (l : K.lookup f = some ⟨oc, od, .func (PySem.W.fnOf x qual (defArgs st) (defBody st) (defScope st) .none kV doc pm an cdv ctv), osl⟩)
    (c : PySem.W.codeIn K cdv qual = true) (k : PySem.W.keepIn K (.ref f) = true) : ∃ fd, Fun K x qual st f fd := ⟨_, fun_mk l c k⟩
end Gx
end T_GxN6
section T_GxS
set_option Elab.async false
set_option linter.all false
set_option maxRecDepth 100000
set_option maxHeartbeats 4000000
namespace Gx
open PySem

/-! ## the readings' equations, for simp -/
section
variable {α β : Type} {f g : EM} {t u : TM} {a : AM} {p q : SM} {sd : Sl} {own : Own} {n i c j : Nat} {d : D} {m : Own → SV → SV → Option D} {m' : Own → SV → SV → Option D} {Ff : FM}
@[simp] theorem s_bind_ok {f : M α} {k : α → M β} {x : α} {o1 : Own} (h : f sd own = some (.ok x, o1)) : M.bind f k sd own = k x sd o1 := by unfold M.bind; rw [h]
@[simp] theorem s_Mbind {f : M α} {k : α → M β} : M.bind f k sd own = (match f sd own with | some (.ok x, o1) => k x sd o1 | some (.ex c fs, o1) => some (.ex c fs, o1) | none => none) := rfl
@[simp] theorem s_Sbind {f : M α} {k : α → SM} : SM.bind f k sd own = (match f sd own with | some (.ok x, o1) => k x sd o1 | some (.ex c fs, o1) => some (.ex c fs sd o1) | none => none) := rfl
@[simp] theorem s_ret {x : α} : (M.ret x : M α) sd own = some (.ok x, own) := rfl
@[simp] theorem s_ask {h : Own → Option α} : (M.ask h : M α) sd own = (match h own with | some x => some (.ok x, own) | none => none) := rfl
@[simp] theorem s_fail : (M.fail : M α) sd own = none := rfl
@[simp] theorem s_eV : eV i sd own = (match sd[i]? with | some (some s) => some (.ok s, own) | _ => none) := rfl
@[simp] theorem s_eK : eK d sd own = some (.ok (.d d), own) := rfl
@[simp] theorem s_eB : eB m f g sd own = M.bind f (fun x => g.bind fun y => M.ask fun own => (m own x y).map SV.d) sd own := rfl
@[simp] theorem s_eU {m : Own → SV → Option D} : eU m f sd own = M.bind f (fun x => M.ask fun own => (m own x).map SV.d) sd own := rfl
@[simp] theorem s_eCh {h : EM} : eCh m m' f g h sd own = M.bind f (fun x => g.bind fun y => (M.ask fun own => m own x y).bind fun z => match z with
  | .bl true => h.bind fun w => M.ask fun own => (m' own y w).map SV.d
  | .bl false => M.ret (.d (.bl false))
  | _ => M.fail) sd own := rfl
@[simp] theorem s_eIf : eIf t f g sd own = M.bind t (fun b => match b with | true => f | false => g) sd own := rfl
@[simp] theorem s_tE : tE f sd own = M.bind f (fun x => match x with | .d (.bl b) => M.ret b | _ => M.fail) sd own := rfl
@[simp] theorem s_aNil : aNil sd own = some (.ok [], own) := rfl
@[simp] theorem s_aCons : aCons f a sd own = M.bind f (fun x => a.bind fun xs => M.ret (x :: xs)) sd own := rfl
@[simp] theorem s_eTup : eTup a sd own = M.bind a (fun xs => M.ask fun _ => (dats xs).bind fun ds => if ds.length ≤ sizeLine then some (.d (.tup ds)) else none) sd own := rfl
@[simp] theorem s_eLst : eLst a sd own = M.bind a (fun xs => M.ask fun _ => (dats xs).bind fun ds => if ds.length ≤ sizeLine then some (.d (.lst ds)) else none) sd own := rfl
@[simp] theorem s_eCB {m : Own → List SV → Option SV} : eCB m a sd own = M.bind a (fun xs => M.ask fun own => m own xs) sd own := rfl
@[simp] theorem s_m1 {m : Own → SV → Option D} {x : SV} : m1 m own [x] = (m own x).map SV.d := rfl
@[simp] theorem s_m2 {x y : SV} : m2 m own [x, y] = (m own x y).map SV.d := rfl
@[simp] theorem s_dats0 : dats [] = some [] := rfl
@[simp] theorem s_dats {r : List SV} : dats (.d d :: r) = (dats r).map (d :: ·) := rfl
@[simp] theorem s_sNil : sNil sd own = some (.nx sd own) := rfl
@[simp] theorem s_sSeq : sSeq p q sd own = (match p sd own with | some (.nx sd' own') => q sd' own' | r => r) := rfl
@[simp] theorem s_sExpr : sExpr f sd own = SM.bind f (fun _ => sNil) sd own := rfl
@[simp] theorem s_sRet : sRet f sd own = SM.bind f (fun x => fun _ own => some (.rt x own)) sd own := rfl
@[simp] theorem s_sRetN : sRetN sd own = some (.rt (.d .non) own) := rfl
@[simp] theorem s_sIf : sIf t p q sd own = SM.bind t (fun b => match b with | true => p | false => q) sd own := rfl
@[simp] theorem s_sSet : sSet i f sd own = SM.bind f (fun x => fun sd own => some (.nx (sd.set i (some x)) own)) sd own := rfl
@[simp] theorem s_sPar {is : List Nat} : sPar is a sd own = SM.bind a (fun xs => fun sd own => (setL is xs sd).map fun sd' => .nx sd' own) sd own := rfl
@[simp] theorem s_setL0 : setL [] [] sd = some sd := rfl
@[simp] theorem s_setL {is : List Nat} {x : SV} {xs : List SV} : setL (i :: is) (x :: xs) sd = setL is xs (sd.set i (some x)) := rfl
@[simp] theorem s_sPutL {o i v : EM} : sPutL o i v sd own = SM.bind v (fun x => SM.bind o fun a => SM.bind i fun b => fun sd own => match x with | .d d => (setIx own a b d).map fun own' => .nx sd own' | _ => none) sd own := rfl
@[simp] theorem s_sFor {src : IM} {tg : GM} : sFor src tg p sd own = SM.bind src (fun xs => forL tg p xs) sd own := rfl
@[simp] theorem s_eCallD : eCallD n Ff a sd own = M.bind a (fun xs => callD n Ff xs) sd own := rfl
@[simp] theorem s_eCallZ : eCallZ n Ff a sd own = M.bind a (fun xs => callZ n Ff xs) sd own := rfl
@[simp] theorem s_eCallH : eCallH n Ff a sd own = M.bind a (fun xs => callH n Ff xs) sd own := rfl
@[simp] theorem s_eMakeD : eMakeD c n Ff a sd own = M.bind a (fun xs => makeD c n Ff xs) sd own := rfl
@[simp] theorem s_iSeq : iSeq f sd own = M.bind f (fun x => match x with | .d (.lst xs) => M.ret xs | .d (.tup xs) => M.ret xs | _ => M.fail) sd own := rfl
@[simp] theorem s_iEnum : iEnum f sd own = M.bind f (fun x => match x with | .d (.lst xs) => M.ret (enumD xs) | .d (.tup xs) => M.ret (enumD xs) | _ => M.fail) sd own := rfl
@[simp] theorem s_sRaise : sRaise c a sd own = SM.bind a (fun xs => fun sd own => (fldR c xs).map fun ds => .ex c ds sd own) sd own := rfl
@[simp] theorem s_eFld : eFld c i f sd own = M.bind f (fun x => M.ask fun own => match x with
  | .d (.obj c' vs) => if c' = c then (vs[i]?).map SV.d else none
  | .h k => match own[k]? with
    | some (.ins c' vs) => if c' = c then vs[i]? else none
    | _ => none
  | _ => none) sd own := rfl
@[simp] theorem s_tgN : tgN i d sd = some (sd.set i (some (.d d))) := rfl
@[simp] theorem s_tgU {is : List Nat} {ds : List D} : tgU is (.tup ds) sd = setL is (ds.map SV.d) sd := rfl
@[simp] theorem s_eAnd : eAnd f g sd own = M.bind f (fun x => match x with | .d (.bl true) => g | .d (.bl false) => M.ret (.d (.bl false)) | _ => M.fail) sd own := rfl
@[simp] theorem s_eOr : eOr f g sd own = M.bind f (fun x => match x with | .d (.bl false) => g | .d (.bl true) => M.ret (.d (.bl true)) | _ => M.fail) sd own := rfl
@[simp] theorem s_eNot : eNot f sd own = M.bind f (fun x => match x with | .d (.bl b) => M.ret (.d (.bl (!b))) | _ => M.fail) sd own := rfl
@[simp] theorem s_tAnd : tAnd t u sd own = M.bind t (fun b => match b with | true => u | false => M.ret false) sd own := rfl
@[simp] theorem s_tOr : tOr t u sd own = M.bind t (fun b => match b with | true => M.ret true | false => u) sd own := rfl
@[simp] theorem s_tNot : tNot t sd own = M.bind t (fun b => M.ret (!b)) sd own := rfl
/-! ### operators -/
variable {k : Nat} {xs ys : List D} {x y : Int}
@[simp] theorem o_eq : mEq own (.d (.int x)) (.d (.int y)) = some (.bl (x == y)) := rfl
@[simp] theorem o_ne : mNe own (.d (.int x)) (.d (.int y)) = some (.bl (!(x == y))) := rfl
@[simp] theorem o_lt : mLt own (.d (.int x)) (.d (.int y)) = some (.bl (decide (x < y))) := rfl
@[simp] theorem o_le : mLe own (.d (.int x)) (.d (.int y)) = some (.bl (decide (x ≤ y))) := rfl
@[simp] theorem o_gt : mGt own (.d (.int x)) (.d (.int y)) = some (.bl (decide (y < x))) := rfl
@[simp] theorem o_ge : mGe own (.d (.int x)) (.d (.int y)) = some (.bl (decide (y ≤ x))) := rfl
@[simp] theorem o_add : mAdd own (.d (.int x)) (.d (.int y)) = some (.int (x + y)) := rfl
@[simp] theorem o_sub : mSub own (.d (.int x)) (.d (.int y)) = some (.int (x - y)) := rfl
@[simp] theorem o_int : mInt own (.d (.int x)) = some (.int x) := rfl
@[simp] theorem o_neg : mNeg own (.d (.int x)) = some (.int (-x)) := rfl
theorem o_mod (h : 0 < y) : mMod own (.d (.int x)) (.d (.int y)) = some (.int (x % y)) := by
  show (if decide (0 < y) = true then some (D.int (x % y)) else none) = _
  rw [if_pos (decide_eq_true h)]
theorem o_fdiv (h : 0 < y) (h2 : y < 1073741824) : mFdiv own (.d (.int x)) (.d (.int y)) = some (.int (x / y)) := by
  show (if decide (0 < y ∧ y < 1073741824) = true then some (D.int (x / y)) else none) = _
  rw [if_pos (decide_eq_true ⟨h, h2⟩)]
theorem o_mulr (h : -(2 ^ 64) < y) (h2 : y < 2 ^ 64) : mMul own (.d (.int x)) (.d (.int y)) = some (.int (x * y)) := by
  show (if decide ((-(2 ^ 64) < x ∧ x < 2 ^ 64) ∨ (-(2 ^ 64) < y ∧ y < 2 ^ 64)) = true then some (D.int (x * y)) else none) = _
  rw [if_pos (decide_eq_true (.inr ⟨h, h2⟩))]
@[simp] theorem o_ixl : mIx own (.d (.lst xs)) (.d (.int x)) = L2.atI xs x := rfl
@[simp] theorem o_ixt : mIx own (.d (.tup xs)) (.d (.int x)) = L2.atI xs x := rfl
theorem o_ixh (h : own[k]? = some (.lst xs)) : mIx own (.h k) (.d (.int x)) = L2.atI xs x := by
  simp [mIx, dicV, seqV, h]
@[simp] theorem o_lenl : mLen own (.d (.lst xs)) = some (.int xs.length) := rfl
@[simp] theorem o_lent : mLen own (.d (.tup xs)) = some (.int xs.length) := rfl
@[simp] theorem o_tup : mTupC own (.d (.lst xs)) = some (.tup xs) := rfl
@[simp] theorem o_tupt : mTupC own (.d (.tup xs)) = some (.tup xs) := rfl
@[simp] theorem o_lst : mLstC own (.d (.lst xs)) = some (.lst xs) := rfl
@[simp] theorem o_lstt : mLstC own (.d (.tup xs)) = some (.lst xs) := rfl
theorem atI_pos {α : Type} {l : List α} {i : Int} (h : 0 ≤ i) : L2.atI l i = l[i.toNat]? := by
  unfold L2.atI L2.ixN
  rw [if_pos h]
  by_cases c : i < l.length
  · rw [if_pos c]; rfl
  · rw [if_neg c, List.getElem?_eq_none (by omega)]; rfl
@[simp] theorem forL_0 {tg : GM} : forL tg p [] sd own = some (.nx sd own) := rfl
theorem forL_1 {tg : GM} {x : D} {xs : List D} : forL tg p (x :: xs) sd own = (match tg x sd with
    | none => none
    | some sd1 => match p sd1 own with
      | some (.nx sd2 own2) => forL tg p xs sd2 own2
      | some (.ct sd2 own2) => forL tg p xs sd2 own2
      | some (.bk sd2 own2) => some (.nx sd2 own2)
      | r => r) := rfl
end
/-! ## the drawn row -/
/-- the row: the script's numbers, where it stands, the great number, the seed -/
def Row (o : O) : Prop := ∃ (ns : List Int) (i c s : Int), o = .lst [.lst (ns.map D.int), .int i, .int c, .int s] ∧ 0 ≤ i ∧ i ≤ ns.length ∧ 0 ≤ c
theorem row_flat {o : O} (h : Row o) : flatO o = true := by
  obtain ⟨_, _, _, _, rfl, _⟩ := h
  rfl
theorem row_start {ns : List Int} : Row (.lst [.lst (ns.map D.int), .int 0, .int 0, .int 7]) := ⟨ns, 0, 0, 7, rfl, Int.le_refl _, by omega, Int.le_refl _⟩
/-- a drawing function: from a row and a number to a smaller one -/
def Draws (Ff : FM) : Prop := ∀ (o : O) (m : Int), Row o → 1 ≤ m → m < 1073741824 → ∃ (r : Int) (o' : O), 0 ≤ r ∧ r < m ∧ Row o' ∧ Ff [.h 0, .d (.int m)] [o] = some (.ok (.d (.int r)), [o'])
end Gx
end T_GxS
section T_GxS2
set_option Elab.async false
set_option linter.all false
set_option maxRecDepth 100000
set_option maxHeartbeats 4000000
namespace Gx
open PySem
section
variable {f g : EM} {a : AM} {p : SM} {sd : Sl} {own : Own} {n c i : Nat}
@[simp] theorem s_oNo : oNo sd own = some (.ok none, own) := rfl
@[simp] theorem s_oSo : oSo f sd own = M.bind f (fun x => match x with | .d (.int i) => M.ret (some i) | _ => M.fail) sd own := rfl
@[simp] theorem s_eSl {l h : OM} : eSl f l h sd own = M.bind f (fun x => l.bind fun lo => h.bind fun hi => M.ask fun own => (mSl own x lo hi).map SV.d) sd own := rfl
@[simp] theorem s_mSlt {xs : List D} {lo hi : Option Int} : mSl own (.d (.tup xs)) lo hi = some (.tup (cutD xs lo hi)) := rfl
@[simp] theorem s_mSll {xs : List D} {lo hi : Option Int} : mSl own (.d (.lst xs)) lo hi = some (.lst (cutD xs lo hi)) := rfl
theorem cut_to {xs : List D} {k : Int} (h0 : 0 ≤ k) (h1 : k ≤ xs.length) : cutD xs none (some k) = xs.take k.toNat := by
  unfold cutD
  simp [HT.sIx]
  split
  · omega
  · congr 1
    omega
@[simp] theorem s_sFldS : sFldS c i f g sd own = SM.bind g (fun x => SM.bind f fun a => fun sd own => (putFld c i own a x).map fun own' => .nx sd own') sd own := rfl
@[simp] theorem s_eMut {mm : MM} : eMut mm f a sd own = M.bind f (fun x => (M.ask fun own => lstV own x).bind fun _ => a.bind fun ys => fun _ own => match x with
  | .h k => match own[k]? with
    | some (.lst xs) => match mm own xs ys with
      | some (z, xs') => some (.ok (.d z), own.set k (.lst xs'))
      | none => none
    | _ => none
  | _ => none) sd own := rfl
@[simp] theorem s_iRg1 : iRg1 a sd own = M.bind a (fun xs => match xs with | [.d (.int j)] => if rgOk 0 j = true then M.ret (rgD 0 j.toNat) else M.fail | _ => M.fail) sd own := rfl
@[simp] theorem s_eLstH : eLstH a sd own = M.bind a (fun xs => fun _ own => match dats xs with
  | some ds => if ds.length ≤ sizeLine then some (.ok (.h own.length), own ++ [.lst ds]) else none
  | none => none) sd own := rfl
theorem rg_ok {j : Int} (h : 0 ≤ j) (h2 : j < 2 ^ 62) : rgOk 0 j = true := by
  unfold rgOk
  simp
  omega
theorem in_tup {d : D} {xs : List D} {neg : Bool} (h1 : okN 60 d = true) (h2 : xs.all (okN 59) = true) : mIn neg own (.d d) (.d (.tup xs)) = some (.bl ((xs.any fun z => eqN 60 z d) != neg)) := by
  show (if (okN 60 d && xs.all (okN 59)) = true then some (D.bl ((xs.any fun z => eqN 60 z d) != neg)) else none) = _
  rw [h1, h2]
  rfl
theorem in_lst {d : D} {xs : List D} {neg : Bool} (h1 : okN 60 d = true) (h2 : xs.all (okN 59) = true) : mIn neg own (.d d) (.d (.lst xs)) = some (.bl ((xs.any fun z => eqN 60 z d) != neg)) := by
  show (if (okN 60 d && xs.all (okN 59)) = true then some (D.bl ((xs.any fun z => eqN 60 z d) != neg)) else none) = _
  rw [h1, h2]
  rfl
theorem in_h {k : Nat} {d : D} {xs : List D} {neg : Bool} (hk : own[k]? = some (.lst xs)) (h1 : okN 60 d = true) (h2 : xs.all (okN 59) = true) : mIn neg own (.d d) (.h k) = some (.bl ((xs.any fun z => eqN 60 z d) != neg)) := by
  have e1 : dicV own (.h k) = none := by simp [dicV, hk]
  have e2 : seqV own (.h k) = some xs := by simp [seqV, hk]
  unfold mIn
  rw [e1, e2]
  show (if (okN 60 d && xs.all (okN 59)) = true then some (D.bl ((xs.any fun z => eqN 60 z d) != neg)) else none) = _
  rw [h1, h2]
  rfl
theorem sizeL : sizeLine = 16777216 := by decide
end
theorem draw_all {Ff : FM} (P : Draws Ff) {o : O} {m : Int} (R : Row o) (h1 : 1 ≤ m) (h2 : m < 1073741824) :
    ∃ (r : Int) (o' : O), 0 ≤ r ∧ r < m ∧ Row o' ∧ ∀ (sd : Sl) (rest : Own), callZ 2 Ff [.h 0, .d (.int m)] sd (o :: rest) = some (.ok (.d (.int r)), o' :: rest) := by
  obtain ⟨r, o', h3, h4, R', e⟩ := P o m R h1 h2
  refine ⟨r, o', h3, h4, R', fun sd rest => ?_⟩
  unfold callZ
  simp [row_flat R, row_flat R', e]
/-! ### one step each -/
section
variable {f g : EM} {t u : TM} {a : AM} {p q : SM} {sd sd1 sd2 : Sl} {own o1 o2 o3 : Own} {n c i : Nat} {d : D} {x y : SV} {xs : List SV} {b : Bool} {Ff : FM} {r : Fl}
theorem e_V (h : sd[i]? = some (some x)) : eV i sd own = some (.ok x, own) := by rw [s_eV, h]
theorem e_B {m : Own → SV → SV → Option D} (hf : f sd own = some (.ok x, o1)) (hg : g sd o1 = some (.ok y, o2)) (hm : m o2 x y = some d) : eB m f g sd own = some (.ok (.d d), o2) := by
  rw [s_eB, s_bind_ok hf, s_bind_ok hg, s_ask, hm]
  rfl
theorem e_C1 {m : Own → SV → Option D} (hf : f sd own = some (.ok x, o1)) (hm : m o1 x = some d) : eCB (m1 m) (aCons f aNil) sd own = some (.ok (.d d), o1) := by
  have ha : aCons f aNil sd own = some (.ok [x], o1) := by rw [s_aCons, s_bind_ok hf]; rfl
  rw [s_eCB, s_bind_ok ha, s_ask, s_m1, hm]
  rfl
theorem t_E (hf : f sd own = some (.ok (.d (.bl b)), o1)) : tE f sd own = some (.ok b, o1) := by
  rw [s_tE, s_bind_ok hf]
  rfl
theorem t_Not (h1 : t sd own = some (.ok b, o1)) : tNot t sd own = some (.ok (!b), o1) := by
  rw [s_tNot, s_bind_ok h1]
  rfl
theorem st_If (h1 : t sd own = some (.ok b, o1)) : sIf t p q sd own = (match b with | true => p | false => q) sd o1 := by
  rw [s_sIf, s_Sbind, h1]
  try (cases b <;> rfl)
theorem st_IfT (h1 : t sd own = some (.ok true, o1)) : sIf t p q sd own = p sd o1 := st_If h1
theorem st_IfF (h1 : t sd own = some (.ok false, o1)) : sIf t p q sd own = q sd o1 := st_If h1
theorem st_Set (h1 : f sd own = some (.ok x, o1)) : sSet i f sd own = some (.nx (sd.set i (some x)) o1) := by
  rw [s_sSet, s_Sbind, h1]
theorem st_Seq (h1 : p sd own = some (.nx sd1 o1)) : sSeq p q sd own = q sd1 o1 := by
  rw [s_sSeq, h1]
theorem st_Ret (h1 : f sd own = some (.ok x, o1)) : sRet f sd own = some (.rt x o1) := by
  rw [s_sRet, s_Sbind, h1]
theorem a_1 (h : f sd own = some (.ok x, o1)) : aCons f aNil sd own = some (.ok [x], o1) := by
  rw [s_aCons, s_bind_ok h]
  rfl
theorem a_c (h : f sd own = some (.ok x, o1)) (h2 : a sd o1 = some (.ok xs, o2)) : aCons f a sd own = some (.ok (x :: xs), o2) := by
  rw [s_aCons, s_bind_ok h, s_bind_ok h2]
  rfl
end
end Gx
end T_GxS2
section T_GxT1
set_option Elab.async false
set_option linter.all false
set_option maxRecDepth 100000
set_option maxHeartbeats 4000000
namespace Gx
open PySem PySem.Spec PyProof.Rows L2
/-! ## ints and tuples in order -/
/-- less, by the first place where two lists differ -/
def lexI : List Int → List Int → Bool
  | [], [] => false
  | [], _ :: _ => true
  | _ :: _, [] => false
  | i :: x, j :: y => if i = j then lexI x y else decide (i < j)
theorem lexI_irr : ∀ x : List Int, lexI x x = false
  | [] => rfl
  | i :: x => by unfold lexI; rw [if_pos rfl]; exact lexI_irr x
theorem lexI_as : ∀ x y : List Int, lexI x y = true → lexI y x = false
  | [], [], h => by cases h
  | [], _ :: _, _ => rfl
  | _ :: _, [], h => by cases h
  | i :: x, j :: y, h => by
    unfold lexI at h ⊢
    by_cases e : i = j
    · rw [if_pos e] at h
      rw [if_pos e.symm]
      exact lexI_as x y h
    · rw [if_neg e] at h
      rw [if_neg (fun z => e z.symm)]
      have h := of_decide_eq_true h
      exact decide_eq_false (by omega)
theorem lexI_tr : ∀ x y z : List Int, lexI x y = false → lexI y z = false → lexI x z = false
  | [], [], z, _, h => h
  | [], _ :: _, _, h, _ => by cases h
  | _ :: _, _, [], _, _ => rfl
  | i :: x, [], k :: z, _, h => by cases h
  | i :: x, j :: y, k :: z, h1, h2 => by
    unfold lexI at h1 h2 ⊢
    by_cases e1 : i = j
    · by_cases e2 : j = k
      · rw [if_pos e1] at h1
        rw [if_pos e2] at h2
        rw [if_pos (e1.trans e2)]
        exact lexI_tr x y z h1 h2
      · rw [if_neg e2] at h2
        have h2 := of_decide_eq_false h2
        rw [if_neg (by omega)]
        exact decide_eq_false (by omega)
    · rw [if_neg e1] at h1
      have h1 := of_decide_eq_false h1
      by_cases e2 : j = k
      · rw [if_neg (by omega)]
        exact decide_eq_false (by omega)
      · rw [if_neg e2] at h2
        have h2 := of_decide_eq_false h2
        rw [if_neg (by omega)]
        exact decide_eq_false (by omega)
theorem swo_lexI {α : Type} (k : α → List Int) : SrtO.Swo fun x y => lexI (k x) (k y) := ⟨fun x y h => lexI_as _ _ h, fun x y z h1 h2 => lexI_tr _ _ _ h2 h1⟩
/-- the shapes: an int, a tuple of any number of one shape, a pair -/
inductive Sh where
  | I | U (s : Sh) | P (a b : Sh)
def shp : Sh → D → Bool
  | .I, .int _ => true
  | .U s, .tup xs => xs.all (shp s)
  | .P a b, .tup [x, y] => shp a x && shp b y
  | _, _ => false
/-- a code that keeps the order -/
def encS : Sh → D → List Int
  | .I, .int i => [i]
  | .U s, .tup xs => (xs.flatMap fun x => 1 :: encS s x) ++ [0]
  | .P a b, .tup [x, y] => encS a x ++ encS b y
  | _, _ => []
def ltS (s : Sh) (x y : D) : Bool := lexI (encS s x) (encS s y)
theorem lexI_pre : ∀ a u v : List Int, lexI (a ++ u) (a ++ v) = lexI u v
  | [], _, _ => rfl
  | i :: a, u, v => by
    have e : lexI (i :: (a ++ u)) (i :: (a ++ v)) = (if i = i then lexI (a ++ u) (a ++ v) else decide (i < i)) := rfl
    show lexI (i :: (a ++ u)) (i :: (a ++ v)) = _
    rw [e, if_pos rfl]
    exact lexI_pre a u v
/-- two of one shape are one, or differ at a place before the end of both -/
def Far (x y : List Int) : Prop := ∃ b, ∀ u v, lexI (x ++ u) (y ++ v) = b
def flatS (s : Sh) (xs : List D) : List Int := xs.flatMap fun x => 1 :: encS s x
theorem far_app {a b : List Int} (h : Far a b) (u v : List Int) : Far (a ++ u) (b ++ v) := by
  obtain ⟨c, h⟩ := h
  exact ⟨c, fun u' v' => by rw [List.append_assoc, List.append_assoc]; exact h _ _⟩
theorem far_pre {a b : List Int} (h : Far a b) (p : List Int) : Far (p ++ a) (p ++ b) := by
  obtain ⟨c, h⟩ := h
  exact ⟨c, fun u' v' => by rw [List.append_assoc, List.append_assoc, lexI_pre]; exact h _ _⟩
theorem far_flat {s : Sh} (ih : ∀ x y, shp s x = true → shp s y = true → x = y ∨ Far (encS s x) (encS s y)) : ∀ xs ys : List D, xs.all (shp s) = true → ys.all (shp s) = true → xs = ys ∨ Far (flatS s xs ++ [0]) (flatS s ys ++ [0])
  | [], [], _, _ => .inl rfl
  | [], y :: ys, _, _ => .inr ⟨true, fun u v => rfl⟩
  | x :: xs, [], _, _ => .inr ⟨false, fun u v => rfl⟩
  | x :: xs, y :: ys, h1, h2 => by
    rw [List.all_cons, Bool.and_eq_true] at h1 h2
    have e1 : ∀ (z : D) (zs : List D), flatS s (z :: zs) ++ [0] = [1] ++ (encS s z ++ (flatS s zs ++ [0])) := fun z zs => by simp [flatS]
    rcases ih x y h1.1 h2.1 with e | f
    · subst e
      rcases far_flat ih xs ys h1.2 h2.2 with e | f
      · exact .inl (by rw [e])
      · refine .inr ?_
        rw [e1, e1]
        exact far_pre (far_pre f _) _
    · refine .inr ?_
      rw [e1, e1]
      exact far_pre (far_app f _ _) _
theorem far_enc : ∀ (s : Sh) (x y : D), shp s x = true → shp s y = true → x = y ∨ Far (encS s x) (encS s y)
  | .I, .int i, .int j, _, _ => by
    by_cases e : i = j
    · exact .inl (by rw [e])
    · refine .inr ⟨decide (i < j), fun u v => ?_⟩
      show lexI (i :: u) (j :: v) = _
      unfold lexI
      rw [if_neg e]
  | .U s, .tup xs, .tup ys, h1, h2 => by
    rcases far_flat (far_enc s) xs ys h1 h2 with e | f
    · exact .inl (by rw [e])
    · exact .inr f
  | .P a b, .tup [x, y], .tup [x', y'], h1, h2 => by
    have h1 : (shp a x && shp b y) = true := h1
    have h2 : (shp a x' && shp b y') = true := h2
    rw [Bool.and_eq_true] at h1 h2
    rcases far_enc a x x' h1.1 h2.1 with e | f
    · subst e
      rcases far_enc b y y' h1.2 h2.2 with e | f
      · exact .inl (by rw [e])
      · exact .inr (far_pre f _)
    · exact .inr (far_app f _ _)
theorem far_ne {a : List Int} (h : Far a a) : False := by
  obtain ⟨b, h⟩ := h
  have h1 := h [0] [1]
  have h2 := h [1] [0]
  rw [lexI_pre] at h1 h2
  have e1 : lexI [0] [1] = true := rfl
  have e2 : lexI [1] [0] = false := rfl
  rw [e1] at h1
  rw [e2, ← h1] at h2
  cases h2
end Gx
end T_GxT1
section T_GxT2
set_option Elab.async false
set_option linter.all false
set_option maxRecDepth 100000
set_option maxHeartbeats 4000000
namespace Gx
open PySem PySem.Spec PyProof.Rows L2
mutual
/-- a value on a heap is this data of this shape -/
inductive TV (h : Heap) : Sh → Value → D → Prop
  | I (i : Int) (t : Tok) : TV h .I (.int i t) (.int i)
  | U {s : Sh} {a : Addr} {o : Obj} {vs : Array Value} {n : Nat} {ds : List D} : h.get? a = some o → o.cls = .type "tuple" → o.data = .seq vs n → TVs h s vs.toList ds → TV h (.U s) (.ref a) (.tup ds)
  | P {s1 s2 : Sh} {a : Addr} {o : Obj} {vs : Array Value} {n : Nat} {v u : Value} {x y : D} : h.get? a = some o → o.cls = .type "tuple" → o.data = .seq vs n → vs.toList = [v, u] → TV h s1 v x → TV h s2 u y → TV h (.P s1 s2) (.ref a) (.tup [x, y])
inductive TVs (h : Heap) : Sh → List Value → List D → Prop
  | nil {s : Sh} : TVs h s [] []
  | cons {s : Sh} {v : Value} {d : D} {vs : List Value} {ds : List D} : TV h s v d → TVs h s vs ds → TVs h s (v :: vs) (d :: ds)
end
mutual
theorem TV.keeps {h h' : Heap} (k : ∀ b o, h.get? b = some o → o.cls = .type "tuple" → h'.get? b = some o) : ∀ {s : Sh} {v : Value} {d : D}, TV h s v d → TV h' s v d
  | _, _, _, .I i t => .I i t
  | _, _, _, .U h1 h2 h3 r => .U (k _ _ h1 h2) h2 h3 (TVs.keeps k r)
  | _, _, _, .P h1 h2 h3 h4 r1 r2 => .P (k _ _ h1 h2) h2 h3 h4 (TV.keeps k r1) (TV.keeps k r2)
theorem TVs.keeps {h h' : Heap} (k : ∀ b o, h.get? b = some o → o.cls = .type "tuple" → h'.get? b = some o) : ∀ {s : Sh} {v : List Value} {d : List D}, TVs h s v d → TVs h' s v d
  | _, _, _, .nil => .nil
  | _, _, _, .cons a r => .cons (TV.keeps k a) (TVs.keeps k r)
end
mutual
theorem TV.shp {h : Heap} : ∀ {s : Sh} {v : Value} {d : D}, TV h s v d → shp s d = true
  | _, _, _, .I i t => rfl
  | _, _, _, .U _ _ _ r => TVs.shp r
  | _, _, _, .P _ _ _ _ r1 r2 => by
    show (Gx.shp _ _ && Gx.shp _ _) = true
    rw [TV.shp r1, TV.shp r2]; rfl
theorem TVs.shp {h : Heap} : ∀ {s : Sh} {v : List Value} {d : List D}, TVs h s v d → d.all (Gx.shp s) = true
  | _, _, _, .nil => rfl
  | _, _, _, .cons a r => by rw [List.all_cons, TV.shp a, TVs.shp r]; rfl
end
def pyS : Sh → D → PyData
  | .I, .int i => .int i
  | .U s, .tup xs => .tuple (xs.map (pyS s))
  | .P a b, .tup [x, y] => .tuple [pyS a x, pyS b y]
  | _, _ => .none
mutual
theorem TV.reads {h : Heap} : ∀ {s : Sh} {v : Value} {d : D}, TV h s v d → ∃ as, Reads h v (pyS s d) as
  | _, _, _, .I i t => ⟨_, .int i t⟩
  | _, _, _, .U h1 h2 h3 r => let ⟨_, q⟩ := TVs.reads r; ⟨_, .tuple h1 h2 h3 q⟩
  | _, _, _, .P h1 h2 h3 h4 r1 r2 => let ⟨_, q1⟩ := TV.reads r1; let ⟨_, q2⟩ := TV.reads r2; ⟨_, .tuple h1 h2 h3 (by rw [h4]; exact .cons q1 (.cons q2 .nil))⟩
theorem TVs.reads {h : Heap} : ∀ {s : Sh} {v : List Value} {d : List D}, TVs h s v d → ∃ as, ReadsAll h v (d.map (pyS s)) as
  | _, _, _, .nil => ⟨_, .nil⟩
  | _, _, _, .cons a r => let ⟨_, q1⟩ := TV.reads a; let ⟨_, q2⟩ := TVs.reads r; ⟨_, .cons q1 q2⟩
end
theorem TVs.length {h : Heap} : ∀ {s : Sh} {v : List Value} {d : List D}, TVs h s v d → v.length = d.length
  | _, _, _, .nil => rfl
  | _, _, _, .cons _ r => by rw [List.length_cons, List.length_cons, r.length]
/-- how deep a shape goes -/
def Sh.dep : Sh → Nat
  | .I => 0
  | .U s => s.dep + 1
  | .P a b => max a.dep b.dep + 1
theorem pyS_all {s : Sh} (ih : ∀ x, shp s x = true → (pyS s x).canLay0 = true ∧ (pyS s x).depth ≤ s.dep) : ∀ xs : List D, xs.all (shp s) = true → PyData.canLayAll0 (xs.map (pyS s)) = true ∧ PyData.depthAll (xs.map (pyS s)) ≤ s.dep
  | [], _ => ⟨rfl, Nat.zero_le _⟩
  | x :: xs, h => by
    rw [List.all_cons, Bool.and_eq_true] at h
    obtain ⟨a, b⟩ := ih x h.1
    obtain ⟨c, d⟩ := pyS_all ih xs h.2
    refine ⟨?_, ?_⟩
    · show (PyData.canLay0 (pyS s x) && PyData.canLayAll0 (xs.map (pyS s))) = true
      rw [a, c]; rfl
    · show max (PyData.depth (pyS s x)) (PyData.depthAll (xs.map (pyS s))) ≤ _
      omega
theorem pyS_lay : ∀ (s : Sh) (x : D), shp s x = true → (pyS s x).canLay0 = true ∧ (pyS s x).depth ≤ s.dep
  | .I, .int i, _ => ⟨rfl, Nat.le_refl _⟩
  | .U s, .tup xs, h => by
    obtain ⟨a, b⟩ := pyS_all (pyS_lay s) xs h
    exact ⟨a, Nat.succ_le_succ b⟩
  | .P a b, .tup [x, y], h => by
    have h : (shp a x && shp b y) = true := h
    rw [Bool.and_eq_true] at h
    obtain ⟨a1, a2⟩ := pyS_lay a x h.1
    obtain ⟨b1, b2⟩ := pyS_lay b y h.2
    refine ⟨?_, ?_⟩
    · show (PyData.canLay0 (pyS a x) && (PyData.canLay0 (pyS b y) && true)) = true
      rw [a1, b1]; rfl
    · show max (PyData.depth (pyS a x)) (max (PyData.depth (pyS b y)) 0) + 1 ≤ max a.dep b.dep + 1
      omega
theorem pyS_eqs {s : Sh} (ih : ∀ x y, shp s x = true → shp s y = true → (PyData.eqv (pyS s x) (pyS s y) = true ↔ x = y)) : ∀ xs ys : List D, xs.all (shp s) = true → ys.all (shp s) = true → (PyData.eqvAll (xs.map (pyS s)) (ys.map (pyS s)) = true ↔ xs = ys)
  | [], [], _, _ => ⟨fun _ => rfl, fun _ => rfl⟩
  | [], y :: ys, _, _ => ⟨(fun h => by cases h), (fun h => by cases h)⟩
  | x :: xs, [], _, _ => ⟨(fun h => by cases h), (fun h => by cases h)⟩
  | x :: xs, y :: ys, h1, h2 => by
    rw [List.all_cons, Bool.and_eq_true] at h1 h2
    have e : PyData.eqvAll ((x :: xs).map (pyS s)) ((y :: ys).map (pyS s)) = (PyData.eqv (pyS s x) (pyS s y) && PyData.eqvAll (xs.map (pyS s)) (ys.map (pyS s))) := rfl
    rw [e, Bool.and_eq_true, ih x y h1.1 h2.1, pyS_eqs ih xs ys h1.2 h2.2, List.cons.injEq]
theorem pyS_eq : ∀ (s : Sh) (x y : D), shp s x = true → shp s y = true → (PyData.eqv (pyS s x) (pyS s y) = true ↔ x = y)
  | .I, .int i, .int j, _, _ => by
    have e : PyData.eqv (pyS .I (.int i)) (pyS .I (.int j)) = (i == j) := rfl
    rw [e, beq_iff_eq, D.int.injEq]
  | .U s, .tup xs, .tup ys, h1, h2 => by
    have e : PyData.eqv (pyS (.U s) (.tup xs)) (pyS (.U s) (.tup ys)) = PyData.eqvAll (xs.map (pyS s)) (ys.map (pyS s)) := rfl
    rw [e, pyS_eqs (pyS_eq s) xs ys h1 h2, D.tup.injEq]
  | .P a b, .tup [x, y], .tup [x', y'], h1, h2 => by
    have h1 : (shp a x && shp b y) = true := h1
    have h2 : (shp a x' && shp b y') = true := h2
    rw [Bool.and_eq_true] at h1 h2
    have e : PyData.eqv (pyS (.P a b) (.tup [x, y])) (pyS (.P a b) (.tup [x', y'])) = (PyData.eqv (pyS a x) (pyS a x') && (PyData.eqv (pyS b y) (pyS b y') && true)) := rfl
    rw [e, Bool.and_eq_true, Bool.and_eq_true, pyS_eq a x x' h1.1 h2.1, pyS_eq b y y' h1.2 h2.2, D.tup.injEq, List.cons.injEq, List.cons.injEq]
    simp
end Gx
end T_GxT2
section T_GxT3
set_option Elab.async false
set_option linter.all false
set_option maxRecDepth 100000
set_option maxHeartbeats 4000000
namespace Gx
open PySem PySem.Spec PyProof.Rows L2
theorem far_lt {s : Sh} {x y : D} (h : Far (encS s x) (encS s y)) (u v : List Int) : lexI (encS s x ++ u) (encS s y ++ v) = ltS s x y := by
  obtain ⟨b, h⟩ := h
  have h0 := h [] []
  rw [List.append_nil, List.append_nil] at h0
  rw [h u v]
  exact h0.symm
theorem lexAt_U {s : Sh} {e r : Nat → Bool} : ∀ (xs ys : List D) (i : Nat), xs.all (shp s) = true → ys.all (shp s) = true → (∀ j x y, xs[j]? = some x → ys[j]? = some y → e (i + j) = PyData.eqv (pyS s x) (pyS s y)) → (∀ j x y, xs[j]? = some x → ys[j]? = some y → r (i + j) = ltS s x y) →
    Ob.lexAt e r (decide (xs.length < ys.length)) i (min xs.length ys.length) = lexI (flatS s xs ++ [0]) (flatS s ys ++ [0])
  | [], [], _, _, _, _, _ => rfl
  | [], y :: ys, i, _, _, _, _ => by
    have e : min ([] : List D).length (y :: ys).length = 0 := by simp
    rw [e]; rfl
  | x :: xs, [], i, _, _, _, _ => by
    have e : min (x :: xs).length ([] : List D).length = 0 := by simp
    rw [e]; rfl
  | x :: xs, y :: ys, i, h1, h2, he, hr => by
    rw [List.all_cons, Bool.and_eq_true] at h1 h2
    have e0 : min (x :: xs).length (y :: ys).length = min xs.length ys.length + 1 := by simp only [List.length_cons]; omega
    have e1 : ∀ (z : D) (zs : List D), flatS s (z :: zs) ++ [0] = [1] ++ (encS s z ++ (flatS s zs ++ [0])) := fun z zs => by simp [flatS]
    have e2 : decide ((x :: xs).length < (y :: ys).length) = decide (xs.length < ys.length) := by simp
    rw [e0, e2, e1, e1, lexI_pre, Ob.lexAt_succ]
    have ei := he 0 x y rfl rfl
    have ri := hr 0 x y rfl rfl
    rw [Nat.add_zero] at ei ri
    rcases far_enc s x y h1.1 h2.1 with q | q
    · have : e i = true := by rw [ei]; exact (pyS_eq s x y h1.1 h2.1).mpr q
      rw [if_pos this]
      subst q
      rw [lexI_pre]
      refine lexAt_U xs ys (i + 1) h1.2 h2.2 (fun j a b ha hb => ?_) (fun j a b ha hb => ?_)
      · have := he (j + 1) a b ha hb
        rw [← this]; congr 1; omega
      · have := hr (j + 1) a b ha hb
        rw [← this]; congr 1; omega
    · have ne : x ≠ y := fun z => by subst z; exact far_ne q
      have : ¬ e i = true := by rw [ei]; exact fun z => ne ((pyS_eq s x y h1.1 h2.1).mp z)
      rw [if_neg this, ri, far_lt q]
section
variable {A : Around} {st : Shared}
theorem TV.eqAt {s : Sh} {v u : Value} {x y : D} (hv : TV st.heap s v x) (hu : TV st.heap s u y) (hr : A.units + s.dep < cLine) : SeqAt.EqAt A st v u (PyData.eqv (pyS s x) (pyS s y)) := by
  obtain ⟨as, r1⟩ := hv.reads
  obtain ⟨bs, r2⟩ := hu.reads
  obtain ⟨a1, a2⟩ := pyS_lay s x hv.shp
  obtain ⟨b1, b2⟩ := pyS_lay s y hu.shp
  intro prog w E Q h
  exact SeqAt.eqBoolOverData prog w A E st v u _ _ as bs Q r1 r2 a1 b1 (by omega) h
theorem TVs.get {h : Heap} : ∀ {s : Sh} {vs : List Value} {ds : List D} {j : Nat} {v : Value}, TVs h s vs ds → vs[j]? = some v → ∃ d, ds[j]? = some d ∧ TV h s v d
  | _, _, _, _, _, .nil, e => by simp at e
  | _, _, _, 0, _, .cons a _, e => by simp at e; subst e; exact ⟨_, rfl, a⟩
  | _, _, _, j + 1, _, .cons _ r, e => by
    obtain ⟨d, e1, e2⟩ := TVs.get (j := j) r (by simpa using e)
    exact ⟨d, by simpa using e1, e2⟩
end
end Gx
end T_GxT3
section T_GxT4
set_option Elab.async false
set_option linter.all false
set_option maxRecDepth 100000
set_option maxHeartbeats 4000000
namespace Gx
open PySem PySem.Spec PyProof.Rows L2
theorem ltS_I (i j : Int) : ltS .I (.int i) (.int j) = decide (i < j) := by
  show (if i = j then false else decide (i < j)) = decide (i < j)
  by_cases e : i = j
  · rw [if_pos e]; exact (decide_eq_false (by omega)).symm
  · rw [if_neg e]
def eAt (s : Sh) (ds es : List D) (j : Nat) : Bool := match ds[j]?, es[j]? with
  | some x, some y => PyData.eqv (pyS s x) (pyS s y)
  | _, _ => false
def rAt (s : Sh) (ds es : List D) (j : Nat) : Bool := match ds[j]?, es[j]? with
  | some x, some y => ltS s x y
  | _, _ => false
section
variable {st : Shared}
theorem TV.lt : ∀ (s : Sh) {A : Around} {v u : Value} {x y : D}, TV st.heap s v x → TV st.heap s u y → A.units + s.dep < cLine → Ob.RcOp .Lt A st v u (ltS s x y)
  | .I, A, _, _, _, _, .I i t, .I j t2, _ => by
    rw [ltS_I]
    exact Ob.RcOp.lt_int i j t t2
  | .U s, A, _, _, _, _, .U (vs := vs) (n := n) (ds := ds) h1 h2 h3 r1, .U (vs := ws) (n := m) (ds := es) k1 k2 k3 r2, hu => by
    have hu : A.units + (s.dep + 1) < cLine := hu
    have main := Ob.RcOp.tuples_lt (A := A) (s := st) (e := eAt s ds es) (r := rAt s ds es) ⟨_, h1, h2, n, h3⟩ ⟨_, k1, k2, m, k3⟩ (by omega) (fun j q1 q2 => ?_) (fun j q1 q2 _ => ?_)
    · have l1 : vs.size = ds.length := by rw [← r1.length]; simp
      have l2 : ws.size = es.length := by rw [← r2.length]; simp
      rw [l1, l2, lexAt_U (s := s) ds es 0 r1.shp r2.shp (fun j x y ha hb => by unfold eAt; rw [Nat.zero_add, ha, hb]) (fun j x y ha hb => by unfold rAt; rw [Nat.zero_add, ha, hb])] at main
      exact main
    · obtain ⟨x, e1, t1⟩ := r1.get (j := j) (v := vs[j]) (by simp [q1])
      obtain ⟨y, e2, t2⟩ := r2.get (j := j) (v := ws[j]) (by simp [q2])
      have := t1.eqAt t2 (A := A.in1) (by show A.units + 1 + s.dep < cLine; omega)
      unfold eAt
      rw [e1, e2]
      exact this
    · obtain ⟨x, e1, t1⟩ := r1.get (j := j) (v := vs[j]) (by simp [q1])
      obtain ⟨y, e2, t2⟩ := r2.get (j := j) (v := ws[j]) (by simp [q2])
      have := TV.lt s (A := A.in1) t1 t2 (by show A.units + 1 + s.dep < cLine; omega)
      unfold rAt
      rw [e1, e2]
      exact this
  | .P a b, A, _, _, _, _, .P (vs := vs) (n := n) (v := v1) (u := v2) (x := x1) (y := x2) h1 h2 h3 h4 r1 r2, .P (vs := ws) (n := m) (v := w1) (u := w2) (x := y1) (y := y2) k1 k2 k3 k4 p1 p2, hu => by
    have hu : A.units + (max a.dep b.dep + 1) < cLine := hu
    have main := Ob.RcOp.tuples_lt (A := A) (s := st) (e := fun j => if j = 0 then PyData.eqv (pyS a x1) (pyS a y1) else PyData.eqv (pyS b x2) (pyS b y2)) (r := fun j => if j = 0 then ltS a x1 y1 else ltS b x2 y2) ⟨_, h1, h2, n, h3⟩ ⟨_, k1, k2, m, k3⟩ (by omega) (fun j q1 q2 => ?_) (fun j q1 q2 _ => ?_)
    · have l1 : vs.size = 2 := by have := congrArg List.length h4; simpa using this
      have l2 : ws.size = 2 := by have := congrArg List.length k4; simpa using this
      rw [l1, l2] at main
      have e : ltS (.P a b) (.tup [x1, x2]) (.tup [y1, y2]) = (if PyData.eqv (pyS a x1) (pyS a y1) = true then (if PyData.eqv (pyS b x2) (pyS b y2) = true then false else ltS b x2 y2) else ltS a x1 y1) := by
        show lexI (encS a x1 ++ encS b x2) (encS a y1 ++ encS b y2) = _
        rcases far_enc a x1 y1 r1.shp p1.shp with q | q
        · rw [if_pos ((pyS_eq a x1 y1 r1.shp p1.shp).mpr q)]
          subst q
          rw [lexI_pre]
          rcases far_enc b x2 y2 r2.shp p2.shp with q | q
          · rw [if_pos ((pyS_eq b x2 y2 r2.shp p2.shp).mpr q)]
            subst q
            exact lexI_irr _
          · rw [if_neg fun z => by have := (pyS_eq b x2 y2 r2.shp p2.shp).mp z; subst this; exact far_ne q]
            rfl
        · rw [if_neg fun z => by have := (pyS_eq a x1 y1 r1.shp p1.shp).mp z; subst this; exact far_ne q]
          exact far_lt q _ _
      rw [e]
      exact main
    · have c : j = 0 ∨ j = 1 := by have := congrArg List.length h4; simp at this; omega
      have g1 : vs.toList[j]? = some vs[j] := by simp [q1]
      have g2 : ws.toList[j]? = some ws[j] := by simp [q2]
      rw [h4] at g1
      rw [k4] at g2
      rcases c with rfl | rfl
      · cases g1; cases g2
        exact r1.eqAt p1 (A := A.in1) (by show A.units + 1 + a.dep < cLine; omega)
      · cases g1; cases g2
        exact r2.eqAt p2 (A := A.in1) (by show A.units + 1 + b.dep < cLine; omega)
    · have c : j = 0 ∨ j = 1 := by have := congrArg List.length h4; simp at this; omega
      have g1 : vs.toList[j]? = some vs[j] := by simp [q1]
      have g2 : ws.toList[j]? = some ws[j] := by simp [q2]
      rw [h4] at g1
      rw [k4] at g2
      rcases c with rfl | rfl
      · cases g1; cases g2
        exact TV.lt a (A := A.in1) r1 p1 (by show A.units + 1 + a.dep < cLine; omega)
      · cases g1; cases g2
        exact TV.lt b (A := A.in1) r2 p2 (by show A.units + 1 + b.dep < cLine; omega)
end
end Gx
end T_GxT4
section T_GxT5
set_option Elab.async false
set_option linter.all false
set_option maxRecDepth 100000
set_option maxHeartbeats 4000000
namespace Gx
open PySem PySem.Spec PyProof.Rows L2
section
variable {prog : Program} {w : World} {A : Around} {E : Value → Shared → Prop} {st : Shared}
theorem oneLt_T {s : Sh} {b : Bool} {v u : Value} {x y : D} {Q : Bool → Shared → Prop} (hb : b = true → s = .I) (t1 : TV st.heap s v x) (t2 : TV st.heap s u y) (hu : A.units + s.dep < cLine) (h : Q (ltS s x y) st) : wpAny (model prog w) A (oneLt' b v u) Q E st := by
  cases b with
  | false => exact PySem.W.kat_one _ _ (TV.lt s t1 t2 hu prog w E _ h)
  | true =>
    obtain rfl := hb rfl
    cases t1
    cases t2
    rw [ltS_I] at h
    exact PyProof.Rows.oneLt_int h
theorem katU {s : Sh} {b : Bool} {n m : Nat} {Q : Bool → Shared → Prop} (hb : b = true → s = .I) (hu : A.units + s.dep < cLine) : ∀ {vs us : List Value} {xs ys : List D} (i : Nat), TVs st.heap s vs xs → TVs st.heap s us ys → n + ys.length = m + xs.length →
    Q (lexI (flatS s xs ++ [0]) (flatS s ys ++ [0])) st → PySem.W.KatLex prog w A b (decide (n < m)) Q (vs.zip us) i st
  | _, _, _, _, i, .nil, .nil, hl, h => by
    have e : decide (n < m) = false := decide_eq_false (by simp at hl; omega)
    rw [e]
    exact PySem.W.kat_nil h
  | _, _, _, _, i, .nil, .cons _ _, hl, h => by
    have e : decide (n < m) = true := decide_eq_true (by simp at hl; omega)
    rw [e]
    exact PySem.W.kat_nil h
  | _, _, _, _, i, .cons _ _, .nil, hl, h => by
    have e : decide (n < m) = false := decide_eq_false (by simp at hl; omega)
    rw [e]
    exact PySem.W.kat_nil h
  | _, _, _, _, i, .cons (d := x) (ds := xs) t1 r1, .cons (d := y) (ds := ys) t2 r2, hl, h => by
    have e1 : ∀ (z : D) (zs : List D), flatS s (z :: zs) ++ [0] = [1] ++ (encS s z ++ (flatS s zs ++ [0])) := fun z zs => by simp [flatS]
    rw [e1, e1, lexI_pre] at h
    refine PySem.W.kat_cons (t1.eqAt t2 hu prog w _ _ ?_)
    rcases far_enc s x y t1.shp t2.shp with q | q
    · rw [(pyS_eq s x y t1.shp t2.shp).mpr q]
      subst q
      rw [lexI_pre] at h
      exact PySem.W.kat_yes (katU hb hu (i + 1) r1 r2 (by simp at hl; omega) h)
    · have ne : PyData.eqv (pyS s x) (pyS s y) = false := by
        cases hh : PyData.eqv (pyS s x) (pyS s y)
        · rfl
        · have := (pyS_eq s x y t1.shp t2.shp).mp hh; subst this; exact (far_ne q).elim
      rw [ne]
      rw [far_lt q] at h
      refine PySem.W.kat_no (oneLt_T (s := s) (fun z => hb ?_) t1 t2 hu h)
      revert z
      cases b <;> simp
end
end Gx
end T_GxT5
section T_GxT6
set_option Elab.async false
set_option linter.all false
set_option maxRecDepth 100000
set_option maxHeartbeats 4000000
namespace Gx
open PySem PySem.Spec PyProof.Rows L2
/-- the shapes of lists that are sorted here, with the first items' type -/
inductive SKind : Sh → Bool → Prop
  | UI : SKind (.U .I) true
  | UU (s : Sh) : SKind (.U (.U s)) false
  | UP (a b : Sh) : SKind (.U (.P a b)) false
  | PI (b : Sh) : SKind (.P .I b) true
  | PU (a b : Sh) : SKind (.P (.U a) b) false
  | PP (a b c : Sh) : SKind (.P (.P a b) c) false
section
variable {prog : Program} {w : World} {A : Around} {E : Value → Shared → Prop} {st : Shared}
/-- one comparison of the sort -/
theorem keyLt_T {s : Sh} {b : Bool} {v u : Value} {x y : D} {Q : Bool → Shared → Prop} (k : SKind s b) (t1 : TV st.heap s v x) (t2 : TV st.heap s u y) (hu : A.units + s.dep < cLine) (h : Q (ltS s x y) st) : wpAny (model prog w) A (keyLt' (tuples' b) v u) Q E st := by
  have gU : ∀ {s : Sh} {v u : Value} {x y : D}, (b = true → s = .I) → A.units + s.dep < cLine → TV st.heap (.U s) v x → TV st.heap (.U s) u y → Q (ltS (.U s) x y) st → wpAny (model prog w) A (keyLt' (tuples' b) v u) Q E st := by
    intro s v u x y hb hu t1 t2 h
    cases t1 with
    | @U _ a o vs n ds h1 h2 h3 r1 =>
      cases t2 with
      | @U _ a' o' ws m es k1 k2 k3 r2 =>
        refine PySem.W.kat_lt h1 h3 k1 k3 ?_
        refine katU hb hu 0 r1 r2 ?_ h
        have l1 := r1.length
        have l2 := r2.length
        rw [Array.length_toList] at l1 l2
        omega
  have gP : ∀ {a c : Sh} {v u : Value} {x y : D}, (b = true → a = .I) → A.units + (max a.dep c.dep) < cLine → TV st.heap (.P a c) v x → TV st.heap (.P a c) u y → Q (ltS (.P a c) x y) st → wpAny (model prog w) A (keyLt' (tuples' b) v u) Q E st := by
    intro a c v u x y hb hu t1 t2 h
    cases t1 with
    | @P _ _ ad o vs n v1 v2 x1 x2 h1 h2 h3 h4 r1 r2 =>
      cases t2 with
      | @P _ _ ad' o' ws m w1 w2 y1 y2 k1 k2 k3 k4 p1 p2 =>
        refine PySem.W.kat_lt h1 h3 k1 k3 ?_
        have l1 : vs.size = 2 := by have := congrArg List.length h4; simpa using this
        have l2 : ws.size = 2 := by have := congrArg List.length k4; simpa using this
        rw [h4, k4, l1, l2]
        have h : Q (lexI (encS a x1 ++ encS c x2) (encS a y1 ++ encS c y2)) st := h
        show PySem.W.KatLex prog w A b (decide (2 < 2)) Q [(v1, w1), (v2, w2)] 0 st
        refine PySem.W.kat_cons (r1.eqAt p1 (by omega) prog w _ _ ?_)
        rcases far_enc a x1 y1 r1.shp p1.shp with q | q
        · rw [(pyS_eq a x1 y1 r1.shp p1.shp).mpr q]
          subst q
          rw [lexI_pre] at h
          refine PySem.W.kat_yes (PySem.W.kat_cons (r2.eqAt p2 (by omega) prog w _ _ ?_))
          rcases far_enc c x2 y2 r2.shp p2.shp with q | q
          · rw [(pyS_eq c x2 y2 r2.shp p2.shp).mpr q]
            subst q
            rw [lexI_irr] at h
            exact PySem.W.kat_yes (PySem.W.kat_nil h)
          · have ne : PyData.eqv (pyS c x2) (pyS c y2) = false := by
              cases hh : PyData.eqv (pyS c x2) (pyS c y2)
              · rfl
              · have := (pyS_eq c x2 y2 r2.shp p2.shp).mp hh; subst this; exact (far_ne q).elim
            rw [ne]
            refine PySem.W.kat_no (oneLt_T (s := c) (fun z => ?_) r2 p2 (by omega) h)
            revert z
            cases b <;> simp
        · have ne : PyData.eqv (pyS a x1) (pyS a y1) = false := by
            cases hh : PyData.eqv (pyS a x1) (pyS a y1)
            · rfl
            · have := (pyS_eq a x1 y1 r1.shp p1.shp).mp hh; subst this; exact (far_ne q).elim
          rw [ne]
          rw [far_lt q] at h
          refine PySem.W.kat_no (oneLt_T (s := a) (fun z => hb ?_) r1 p1 (by omega) h)
          revert z
          cases b <;> simp
  cases k with
  | UI => exact gU (fun _ => rfl) (by have : A.units + (Sh.I.dep + 1) < cLine := hu; omega) t1 t2 h
  | UU s => exact gU (fun z => by cases z) (by have : A.units + ((Sh.U s).dep + 1) < cLine := hu; omega) t1 t2 h
  | UP a c => exact gU (fun z => by cases z) (by have : A.units + ((Sh.P a c).dep + 1) < cLine := hu; omega) t1 t2 h
  | PI c => exact gP (fun _ => rfl) (by have : A.units + (max Sh.I.dep c.dep + 1) < cLine := hu; omega) t1 t2 h
  | PU a c => exact gP (fun z => by cases z) (by have : A.units + (max (Sh.U a).dep c.dep + 1) < cLine := hu; omega) t1 t2 h
  | PP a c d => exact gP (fun z => by cases z) (by have : A.units + (max (Sh.P a c).dep d.dep + 1) < cLine := hu; omega) t1 t2 h
end
end Gx
end T_GxT6
section T_GxT7
set_option Elab.async false
set_option linter.all false
set_option maxRecDepth 100000
set_option maxHeartbeats 4000000
namespace Gx
open PySem PySem.Spec PyProof.Rows L2
/-- a tuple that has an item -/
def full : D → Bool
  | .tup (_ :: _) => true
  | _ => false
def tyB (b : Bool) : Value := if b = true then .type "int" else .type "tuple"
theorem ty_I {M : Model} {h : Heap} {v : Value} {d : D} (t : TV h .I v d) : PySem.W.Looks M h (typeOf v) (.type "int") := by
  cases t
  exact PySem.W.Looks.now
theorem ty_T {M : Model} {h : Heap} {s : Sh} {v : Value} {d : D} (hs : s ≠ .I) (t : TV h s v d) : PySem.W.Looks M h (typeOf v) (.type "tuple") := by
  cases t with
  | I => exact (hs rfl).elim
  | U h1 h2 h3 r => rw [← h2]; exact (PySem.W.Looks.ld h1).andThen .now
  | P h1 h2 h3 h4 r1 r2 => rw [← h2]; exact (PySem.W.Looks.ld h1).andThen .now
theorem first_T {M : Model} {h : Heap} {s : Sh} {b : Bool} {v : Value} {d : D} (k : SKind s b) (t : TV h s v d) (hf : full d = true) :
    ∃ (f : Value) (a : Addr) (o : Obj) (xs : Array Value) (n : Nat), v = .ref a ∧ h.get? a = some o ∧ o.cls = .type "tuple" ∧ o.data = .seq xs n ∧ xs[0]? = some f ∧ PySem.W.Looks M h (typeOf f) (tyB b) := by
  cases t with
  | I => cases k
  | @U s a o vs n ds h1 h2 h3 r =>
    cases r' : vs.toList with
    | nil => rw [r'] at r; cases r; cases hf
    | cons f fs =>
      rw [r'] at r
      have e : vs[0]? = some f := by rw [← Array.getElem?_toList, r']; rfl
      cases r with
      | cons t0 _ =>
        refine ⟨f, a, o, vs, n, rfl, h1, h2, h3, e, ?_⟩
        cases k with
        | UI => exact ty_I t0
        | UU s => exact ty_T (by intro z; cases z) t0
        | UP a c => exact ty_T (by intro z; cases z) t0
  | @P s1 s2 a o vs n v1 v2 x y h1 h2 h3 h4 r1 r2 =>
    have e : vs[0]? = some v1 := by rw [← Array.getElem?_toList, h4]; rfl
    refine ⟨v1, a, o, vs, n, rfl, h1, h2, h3, e, ?_⟩
    cases k with
    | PI c => exact ty_I r1
    | PU a c => exact ty_T (by intro z; cases z) r1
    | PP a c d => exact ty_T (by intro z; cases z) r1
theorem firsts_T {M : Model} {h : Heap} {s : Sh} {b : Bool} (k : SKind s b) : ∀ {vs : List Value} {ds : List D}, TVs h s vs ds → ds.all full = true → ∃ fs, PySem.W.KatTups h vs fs ∧ fs.length = vs.length ∧ ∀ f ∈ fs, PySem.W.Looks M h (typeOf f) (tyB b)
  | _, _, .nil, _ => ⟨[], .nil, rfl, fun _ h => by cases h⟩
  | _, _, .cons t r, hf => by
    rw [List.all_cons, Bool.and_eq_true] at hf
    obtain ⟨fs, q1, q2, q3⟩ := firsts_T (M := M) k r hf.2
    obtain ⟨f, a, o, xs, n, rfl, h1, h2, h3, h4, h5⟩ := first_T (M := M) k t hf.1
    refine ⟨f :: fs, .cons h1 h2 h3 h4 q1, by rw [List.length_cons, List.length_cons, q2], fun g hg => ?_⟩
    rcases List.mem_cons.mp hg with rfl | hg
    · exact h5
    · exact q3 g hg
section
variable {prog : Program} {w : World} {A : Around} {st : Shared}
theorem sortable_T {s : Sh} {b : Bool} {vs : List Value} {ds : List D} {a : Addr} {ltv : Value → Value → Bool} (k : SKind s b) (h0 : 0 < vs.length) (t : TVs st.heap s vs ds) (hf : ds.all full = true) (hu : A.units + s.dep < cLine)
    (hlt : ∀ v ∈ vs, ∀ u ∈ vs, ∃ x y, TV st.heap s v x ∧ TV st.heap s u y ∧ ltv v u = ltS s x y)
    (ha : ∀ o, st.heap.get? a = some o → o.cls ≠ .type "tuple") : SrtO.SortableO prog w A st a vs ltv := by
  intro h' keep
  have kp : ∀ c o, st.heap.get? c = some o → o.cls = .type "tuple" → h'.get? c = some o := fun c o e hc => keep c o (fun z => by subst z; exact ha o e hc) e
  obtain ⟨fs, h1, h2, h3⟩ := firsts_T (M := model prog w) k (t.keeps kp) hf
  refine ⟨tuples' b, fun Q E hq => ?_, fun p q hp hq => ?_⟩
  · refine PySem.W.kat_kind (T := tyB b) h1 (by omega) h3 (by cases b <;> rfl) ?_
    have e : (tyB b != Value.type "tuple") = b := by cases b <;> (first | decide +kernel | rfl)
    rw [e]
    exact hq
  · obtain ⟨x, y, t1, t2, e⟩ := hlt _ hp _ hq
    refine keyLt_T k (t1.keeps kp) (t2.keeps kp) hu ?_
    exact ⟨rfl, e.symm⟩
end
end Gx
end T_GxT7
section T_GxT8
set_option Elab.async false
set_option linter.all false
set_option maxRecDepth 100000
set_option maxHeartbeats 4000000
namespace Gx
open PySem PySem.Spec PyProof.Rows L2
section
variable {X : Cx} {pins : List (Addr × Obj)} {σ : L2.St} {H F : Hp} {st : Shared} {T : Tb}
theorem tvs_of {s : Sh} (ih : ∀ {d : D} {v : V} {u : Value}, Rep T F d v → RelV v u → shp s d = true → TV st.heap s u d) : ∀ {ds : List D} {vs : List V} {us : List Value}, Reps T F ds vs → Vals vs us → ds.all (shp s) = true → TVs st.heap s us ds
  | _, _, _, .nil, r, _ => by cases r; exact .nil
  | _, _, _, .cons h t, r, hs => by
    rw [List.all_cons, Bool.and_eq_true] at hs
    cases r with
    | cons r1 r2 => exact .cons (ih h r1 hs.1) (tvs_of ih t r2 hs.2)
/-- data on the heap -/
theorem tv_of (I : Inv X pins σ H st) (l : Le F H) (hK : X.K = T.K) : ∀ (s : Sh) {d : D} {v : V} {u : Value}, Rep T F d v → RelV v u → shp s d = true → TV st.heap s u d := by
  intro s
  induction s with
  | I =>
    intro d v u r rv hs
    cases d with
    | int i =>
      cases r
      obtain ⟨t, rfl⟩ := rv
      exact .I i t
    | _ => cases hs
  | U s ih =>
    intro d v u r rv hs
    cases d with
    | tup xs =>
      cases r with
      | @tup a vs _ q rs =>
        obtain rfl := (show _ = Value.ref a from rv)
        obtain ⟨its, r2, ⟨o, ho, hc, n, hd⟩, _⟩ := I.tuple (by rw [hK]; exact SqT.le l q)
        exact .U ho hc hd (tvs_of ih rs r2 hs)
    | _ => cases hs
  | P s1 s2 ih1 ih2 =>
    intro d v u r rv hs
    cases d with
    | tup xs =>
      cases xs with
      | nil => cases hs
      | cons x xs =>
        cases xs with
        | nil => cases hs
        | cons y xs =>
          cases xs with
          | cons z xs => cases hs
          | nil =>
            have hs : (shp s1 x && shp s2 y) = true := hs
            rw [Bool.and_eq_true] at hs
            cases r with
            | @tup a vs _ q rs =>
              obtain rfl := (show _ = Value.ref a from rv)
              obtain ⟨its, r2, ⟨o, ho, hc, n, hd⟩, _⟩ := I.tuple (by rw [hK]; exact SqT.le l q)
              cases rs with
              | cons h1 t1 =>
                cases t1 with
                | cons h2 t2 =>
                  cases t2
                  obtain ⟨u1, u2, rfl, ra, rb⟩ := vals2 r2
                  exact .P ho hc hd rfl (ih1 h1 ra hs.1) (ih2 h2 rb hs.2)
    | _ => cases hs
end
end Gx
end T_GxT8
section T_GxT9
set_option Elab.async false
set_option linter.all false
set_option maxRecDepth 100000
set_option maxHeartbeats 4000000
namespace Gx
open PySem PySem.Spec PyProof.Rows L2
section
variable {α : Type} {lt : α → α → Bool}
/-- before all that are not less -/
def insB (lt : α → α → Bool) (x : α) : List α → List α
  | [] => [x]
  | y :: l => if lt y x = true then y :: insB lt x l else x :: y :: l
def srt (lt : α → α → Bool) : List α → List α
  | [] => []
  | x :: l => insB lt x (srt lt l)
theorem insB_perm (x : α) : ∀ l : List α, (insB lt x l).Perm (x :: l)
  | [] => .refl _
  | y :: l => by
    unfold insB
    by_cases c : lt y x = true
    · rw [if_pos c]
      exact ((insB_perm x l).cons y).trans (List.Perm.swap x y l)
    · rw [if_neg c]
theorem insB_srtd (O : SrtO.Swo lt) (x : α) : ∀ l : List α, SrtO.Srtd lt l → SrtO.Srtd lt (insB lt x l)
  | [], _ => SrtO.srtd_one x
  | y :: l, h => by
    unfold insB
    by_cases c : lt y x = true
    · rw [if_pos c]
      refine List.pairwise_cons.mpr ⟨fun z hz => ?_, insB_srtd O x l (List.pairwise_cons.mp h).2⟩
      rcases List.mem_cons.mp ((insB_perm x l).mem_iff.mp hz) with e | hz
      · rw [e]; exact O.asym _ _ c
      · exact SrtO.srtd_head h z hz
    · rw [if_neg c]
      have c : lt y x = false := by simpa using c
      refine List.pairwise_cons.mpr ⟨fun z hz => ?_, h⟩
      rcases List.mem_cons.mp hz with e | hz
      · rw [e]; exact c
      · exact O.tr _ _ _ c (SrtO.srtd_head h z hz)
theorem insB_stb (O : SrtO.Swo lt) (x : α) : ∀ l : List α, SrtO.Stb lt (insB lt x l) (x :: l)
  | [] => SrtO.Stb.refl _
  | y :: l => by
    unfold insB
    by_cases c : lt y x = true
    · rw [if_pos c]
      have ih := insB_stb O x l
      refine SrtO.Stb.trans (SrtO.Stb.app (SrtO.Stb.refl [y]) ih) ?_
      exact SrtO.Stb.app (a := [y] ++ [x]) (b := [x] ++ [y]) (c := l) (d := l) (SrtO.Stb.swap O (A := [y]) (B := [x]) (fun a ha b hb => by rw [List.mem_singleton.mp ha, List.mem_singleton.mp hb]; exact c)) (SrtO.Stb.refl l)
    · rw [if_neg c]
      exact SrtO.Stb.refl _
theorem srt_srtd (O : SrtO.Swo lt) : ∀ l : List α, SrtO.Srtd lt (srt lt l)
  | [] => List.Pairwise.nil
  | x :: l => insB_srtd O x _ (srt_srtd O l)
theorem srt_stb (O : SrtO.Swo lt) : ∀ l : List α, SrtO.Stb lt (srt lt l) l
  | [] => SrtO.Stb.refl _
  | x :: l => SrtO.Stb.trans (insB_stb O x _) (SrtO.Stb.app (SrtO.Stb.refl [x]) (srt_stb O l))
/-- a list that rises already -/
theorem srt_id : ∀ l : List α, SrtO.Srtd lt l → srt lt l = l
  | [], _ => rfl
  | [x], _ => rfl
  | x :: y :: l, h => by
    show insB lt x (srt lt (y :: l)) = _
    rw [srt_id (y :: l) (List.pairwise_cons.mp h).2]
    have c : lt y x = false := SrtO.srtd_head h y (List.mem_cons_self ..)
    unfold insB
    rw [if_neg (by rw [c]; exact Bool.false_ne_true)]
end
section
variable {α β : Type}
theorem insB_map {lt : β → β → Bool} (f : α → β) (x : α) : ∀ l : List α, (insB (fun a b => lt (f a) (f b)) x l).map f = insB lt (f x) (l.map f)
  | [] => rfl
  | y :: l => by
    have e1 : insB (fun a b => lt (f a) (f b)) x (y :: l) = if lt (f y) (f x) = true then y :: insB (fun a b => lt (f a) (f b)) x l else x :: y :: l := rfl
    have e2 : insB lt (f x) ((y :: l).map f) = if lt (f y) (f x) = true then f y :: insB lt (f x) (l.map f) else f x :: f y :: l.map f := rfl
    rw [e1, e2]
    by_cases c : lt (f y) (f x) = true
    · rw [if_pos c, if_pos c, List.map_cons, insB_map f x l]
    · rw [if_neg c, if_neg c, List.map_cons, List.map_cons]
theorem srt_map {lt : β → β → Bool} (f : α → β) : ∀ l : List α, (srt (fun a b => lt (f a) (f b)) l).map f = srt lt (l.map f)
  | [] => rfl
  | x :: l => by
    show (insB _ x (srt _ l)).map f = insB lt (f x) (srt lt (l.map f))
    rw [insB_map, srt_map f l]
end
end Gx
end T_GxT9
section T_GxT10
set_option Elab.async false
set_option linter.all false
set_option maxRecDepth 100000
set_option maxHeartbeats 4000000
namespace Gx
open PySem PySem.Spec PyProof.Rows L2
mutual
theorem TV.uniq {h : Heap} : ∀ {s : Sh} {v : Value} {d d' : D}, TV h s v d → TV h s v d' → d = d'
  | _, _, _, _, .I i t, q => by cases q; rfl
  | _, _, _, _, .U h1 h2 h3 r, q => by
    cases q with
    | U k1 k2 k3 r' =>
      rw [h1] at k1; cases k1
      rw [h3] at k3; cases k3
      rw [TVs.uniq r r']
  | _, _, _, _, .P h1 h2 h3 h4 r1 r2, q => by
    cases q with
    | P k1 k2 k3 k4 p1 p2 =>
      rw [h1] at k1; cases k1
      rw [h3] at k3; cases k3
      rw [h4] at k4; cases k4
      rw [TV.uniq r1 p1, TV.uniq r2 p2]
theorem TVs.uniq {h : Heap} : ∀ {s : Sh} {v : List Value} {d d' : List D}, TVs h s v d → TVs h s v d' → d = d'
  | _, _, _, _, .nil, q => by cases q; rfl
  | _, _, _, _, .cons a r, q => by
    cases q with
    | cons a' r' => rw [TV.uniq a a', TVs.uniq r r']
end
end Gx
end T_GxT10
section T_GxT11
set_option Elab.async false
set_option linter.all false
set_option maxRecDepth 100000
set_option maxHeartbeats 4000000
namespace Gx
open PySem PySem.Spec PyProof.Rows L2
open Classical in
noncomputable def cod (h : Heap) (s : Sh) (v : Value) : List Int := if q : ∃ d, TV h s v d then encS s (Classical.choose q) else []
theorem cod_of {h : Heap} {s : Sh} {v : Value} {d : D} (t : TV h s v d) : cod h s v = encS s d := by
  have q : ∃ d, TV h s v d := ⟨d, t⟩
  unfold cod
  rw [dif_pos q, TV.uniq (Classical.choose_spec q) t]
/-- data, its V, its value -/
structure Tri where
  d : D
  v : V
  u : Value
theorem tris_of {h : Heap} {T : Tb} {F : Hp} {s : Sh} : ∀ {ds : List D} {vs : List V} {us : List Value}, Reps T F ds vs → Vals vs us → TVs h s us ds → ∃ l : List Tri, l.map Tri.d = ds ∧ l.map Tri.v = vs ∧ l.map Tri.u = us ∧ ∀ x ∈ l, Rep T F x.d x.v ∧ RelV x.v x.u ∧ TV h s x.u x.d
  | _, _, _, .nil, r, t => by cases r; exact ⟨[], rfl, rfl, rfl, fun _ h => by cases h⟩
  | _, _, _, .cons (d := d) (v := v) a r, rv, t => by
    cases rv with
    | @cons _ u _ _ r1 r2 =>
      cases t with
      | cons t1 t2 =>
        obtain ⟨l, e1, e2, e3, e4⟩ := tris_of r r2 t2
        refine ⟨⟨d, v, u⟩ :: l, by rw [List.map_cons, e1], by rw [List.map_cons, e2], by rw [List.map_cons, e3], fun x hx => ?_⟩
        rcases List.mem_cons.mp hx with rfl | hx
        · exact ⟨a, r1, t1⟩
        · exact e4 x hx
theorem reps_map {T : Tb} {F : Hp} : ∀ (l : List Tri), (∀ x ∈ l, Rep T F x.d x.v) → Reps T F (l.map Tri.d) (l.map Tri.v)
  | [], _ => .nil
  | x :: l, h => .cons (h x (List.mem_cons_self ..)) (reps_map l fun y hy => h y (List.mem_cons_of_mem _ hy))
theorem vals_map : ∀ (l : List Tri), (∀ x ∈ l, RelV x.v x.u) → Vals (l.map Tri.v) (l.map Tri.u)
  | [], _ => .nil
  | x :: l, h => .cons (h x (List.mem_cons_self ..)) (vals_map l fun y hy => h y (List.mem_cons_of_mem _ hy))
end Gx
end T_GxT11
section T_GxT12
set_option Elab.async false
set_option linter.all false
set_option maxRecDepth 100000
set_option maxHeartbeats 4000000
namespace Gx
open PySem PySem.Spec PyProof.Rows L2
/-- sorted(xs), xs a list of data of one shape -/
def rSortD (T : Tb) (s : Sh) : List V → Hp → VK → Prop := fun vs H Q => ∃ (a : Addr) (xs : List V) (ds : List D) (F : Hp), vs = [V.ref a] ∧ SqL T.K H a xs ∧ Le F H ∧ Reps T F ds xs ∧ ds.all (shp s) = true ∧ ds.all full = true ∧
  ∀ ys p, Reps T F (srt (ltS s) ds) ys → H p = none → Q (.ref p) (upd H p (.lst ys))
theorem insB_congr {α : Type} {lt lt' : α → α → Bool} (x : α) : ∀ l : List α, (∀ y ∈ l, lt y x = lt' y x) → insB lt x l = insB lt' x l
  | [], _ => rfl
  | y :: l, h => by
    unfold insB
    rw [h y (List.mem_cons_self ..), insB_congr x l fun z hz => h z (List.mem_cons_of_mem _ hz)]
theorem srt_congr {α : Type} {lt lt' : α → α → Bool} (O : SrtO.Swo lt') : ∀ l : List α, (∀ x ∈ l, ∀ y ∈ l, lt x y = lt' x y) → srt lt l = srt lt' l
  | [], _ => rfl
  | x :: l, h => by
    show insB lt x (srt lt l) = insB lt' x (srt lt' l)
    rw [srt_congr O l fun y hy z hz => h y (List.mem_cons_of_mem _ hy) z (List.mem_cons_of_mem _ hz)]
    exact insB_congr x _ fun y hy => h y (List.mem_cons_of_mem _ ((srt_stb O l).perm.mem_iff.mp hy)) x (List.mem_cons_self ..)
section
variable {X : Cx} {T : Tb}
theorem cr_sortD {s : Sh} {b : Bool} (k : SKind s b) (hK : X.K = T.K) (hu : X.A.units + s.dep + 8 < cLine) : CallR X (.builtin "sorted") (rSortD T s) := by
  intro pins st σ H vs us Q I r h
  obtain ⟨a, xs, ds, F, rfl, hs, le, rs, h1, h2, q⟩ := h
  obtain ⟨its, rv, hl, hz⟩ := I.list (by rw [hK]; exact hs)
  obtain ⟨u, rfl, ru⟩ := vals1 r
  obtain rfl : u = Value.ref a := ru
  have tv : TVs st.heap s its ds := tvs_of (fun a b c => tv_of I le hK s a b c) rs rv h1
  obtain ⟨l, e1, e2, e3, e4⟩ := tris_of rs rv tv
  have O := swo_lexI (cod st.heap s)
  have hcod : ∀ x ∈ l, cod st.heap s x.u = encS s x.d := fun x hx => cod_of (e4 x hx).2.2
  have hit : ∀ v ∈ its, ∃ x ∈ l, v = x.u := fun v hv => by
    rw [← e3] at hv
    obtain ⟨x, hx, e⟩ := List.mem_map.mp hv
    exact ⟨x, hx, e.symm⟩
  refine SrtO.sorted_ord O hl.isList (by rw [← rv.length]; exact hz) (fun g2 h₁ a1 ha kk => ?_) fun out hs1 hb => ?_
  · have kp : ∀ c o, st.heap.get? c = some o → o.cls = .type "tuple" → h₁.get? c = some o := fun c o e _ => (kk c o e).2
    refine sortable_T (st := { st with heap := h₁ }) k (by omega) (tv.keeps kp) h2 (by show X.A.units + 1 + 1 + s.dep < cLine; omega) (fun v hv u hu' => ?_) fun o e => ?_
    · obtain ⟨x, hx, rfl⟩ := hit v hv
      obtain ⟨y, hy, rfl⟩ := hit u hu'
      refine ⟨x.d, y.d, (e4 x hx).2.2.keeps kp, (e4 y hy).2.2.keeps kp, ?_⟩
      show lexI _ _ = lexI _ _
      rw [hcod x hx, hcod y hy]
    · have e' : some o = some (seqObj "list" its.toArray 0) := e.symm.trans ha
      cases e'
      intro c
      exact absurd (Value.type.inj c) (by decide)
  · have Ot := swo_lexI (fun x : Tri => cod st.heap s x.u)
    have f1 : (srt (fun x y : Tri => lexI (cod st.heap s x.u) (cod st.heap s y.u)) l).map Tri.u = srt (fun v u => lexI (cod st.heap s v) (cod st.heap s u)) its := by
      rw [← e3]
      exact srt_map (lt := fun v u => lexI (cod st.heap s v) (cod st.heap s u)) Tri.u l
    have f2 : out = (srt (fun x y : Tri => lexI (cod st.heap s x.u) (cod st.heap s y.u)) l).map Tri.u := by
      rw [f1]
      exact SrtO.stb_uniq O hs1 (srt_srtd O its) (SrtO.Stb.trans hb ⟨(srt_stb O its).perm.symm, fun x => ((srt_stb O its).cls x).symm⟩)
    generalize hm : srt (fun x y : Tri => lexI (cod st.heap s x.u) (cod st.heap s y.u)) l = m at f2
    have hp : m.Perm l := by rw [← hm]; exact (srt_stb Ot l).perm
    have e4' : ∀ x ∈ m, Rep T F x.d x.v ∧ RelV x.v x.u ∧ TV st.heap s x.u x.d := fun x hx => e4 x (hp.mem_iff.mp hx)
    have f3 : m.map Tri.d = srt (ltS s) ds := by
      rw [← hm, ← e1, ← srt_map (lt := ltS s) Tri.d l]
      congr 1
      refine srt_congr (swo_lexI fun x : Tri => encS s x.d) l fun x hx y hy => ?_
      show lexI _ _ = lexI _ _
      rw [hcod x hx, hcod y hy]
    have rv' : Vals (m.map Tri.v) out := by rw [f2]; exact vals_map m fun x hx => (e4' x hx).2.1
    have rs' : Reps T F (srt (ltS s) ds) (m.map Tri.v) := by rw [← f3]; exact reps_map m fun x hx => (e4' x hx).1
    obtain ⟨n, hn⟩ := PyProof.Rows.sortedAll_at st.heap its out.toArray
    have hd : st.heap.objs.size ≤ st.heap.objs.size + 1 := Nat.le_succ _
    refine ⟨.ref _, upd H (st.heap.objs.size + 1) (.lst (m.map Tri.v)), I.laid (t' := st.toks) (fun b o e => PyProof.Rows.sortedAll_old e) hd ⟨?_, out, n, rv', hn⟩, rfl, q _ _ rs' (I.hok.fresh hd)⟩
    have hl : (m.map Tri.v).length = xs.length := by rw [List.length_map, hp.length_eq, ← e2, List.length_map]
    rw [hl]
    exact hz
end
end Gx
end T_GxT12
section T_GxD1
set_option Elab.async false
set_option linter.all false
set_option maxRecDepth 100000
set_option maxHeartbeats 4000000
namespace Gx
open PySem PySem.Spec PyProof.Rows L2

/-! ## a written dict -/
/-- a key among others -/
def hasK (k : Key) : List D → Bool
  | [] => false
  | c :: ks => decide (keyOf c = some k) || hasK k ks
def setK (k : Key) (d : D) : List D → List D → List D
  | c :: ks, x :: xs => (if keyOf c = some k then d else x) :: setK k d ks xs
  | _, xs => xs
/-- k: d, in its place or at the end -/
def putKD (k : Key) (d : D) (ks xs : List D) : List D × List D := if hasK k ks = true then (ks, setK k d ks xs) else (ks ++ [keyD k], xs ++ [d])
theorem keyOf_keyD (k : Key) : keyOf (keyD k) = some k := by cases k <;> rfl
section
variable {T : Tb} {F : Hp}
theorem hasK_any {k : Key} : ∀ {kvs : List (Key × V)}, hasK k (kvs.map fun p => keyD p.1) = kvs.any fun kv => decide (kv.1 = k)
  | [] => rfl
  | p :: r => by
    show (decide (keyOf (keyD p.1) = some k) || hasK k (r.map fun p => keyD p.1)) = (decide (p.1 = k) || r.any fun kv => decide (kv.1 = k))
    rw [hasK_any, keyOf_keyD]
    congr 1
    by_cases e : p.1 = k
    · rw [e]; simp
    · rw [decide_eq_false e, decide_eq_false (fun z => e (Option.some.inj z))]
theorem setK_rel {k : Key} {d : D} {v : V} (h : Rep T F d v) : ∀ {kvs : List (Key × V)} {xs : List D}, Reps T F xs (kvs.map (·.2)) →
    Reps T F (setK k d (kvs.map fun p => keyD p.1) xs) ((kvs.map fun kv => if kv.1 = k then (kv.1, v) else kv).map (·.2))
  | [], _, r => r
  | p :: kvs, _, .cons (d := x) (ds := xs) hx t => by
    have ih := setK_rel (k := k) h t
    have e : setK k d ((p :: kvs).map fun p => keyD p.1) (x :: xs) = (if keyOf (keyD p.1) = some k then d else x) :: setK k d (kvs.map fun p => keyD p.1) xs := rfl
    rw [e, keyOf_keyD]
    refine .cons ?_ ih
    show Rep T F _ (if p.1 = k then (p.1, v) else p).2
    by_cases q : p.1 = k
    · rw [if_pos (by rw [q]), if_pos q]; exact h
    · rw [if_neg (fun z => q (Option.some.inj z)), if_neg q]; exact hx
theorem putKD_rel {k : Key} {d : D} {v : V} (h : Rep T F d v) {kvs : List (Key × V)} {xs : List D} (r : Reps T F xs (kvs.map (·.2))) :
    (putKD k d (kvs.map fun p => keyD p.1) xs).1 = (putK kvs k v).map (fun p => keyD p.1) ∧ Reps T F (putKD k d (kvs.map fun p => keyD p.1) xs).2 ((putK kvs k v).map (·.2)) := by
  unfold putKD putK
  rw [hasK_any]
  by_cases c : (kvs.any fun kv => decide (kv.1 = k)) = true
  · rw [if_pos c, if_pos c]
    refine ⟨?_, setK_rel h r⟩
    rw [List.map_map]
    refine List.map_congr_left fun p _ => ?_
    show keyD p.1 = keyD (if p.1 = k then (p.1, v) else p).1
    by_cases q : p.1 = k
    · rw [if_pos q]
    · rw [if_neg q]
  · rw [if_neg c, if_neg c]
    exact ⟨by simp, by rw [List.map_append]; exact r.snoc h⟩
end
/-- keys and values, one pair after the other -/
def mergeD : List (Key × D) → List D × List D → List D × List D
  | [], a => a
  | p :: r, a => mergeD r (putKD p.1 p.2 a.1 a.2)
theorem mergeD_rel {T : Tb} {F : Hp} : ∀ {ps : List (Key × D)} {qs : List (Key × V)} {kvs : List (Key × V)} {xs : List D}, qs.map (·.1) = ps.map (·.1) → Reps T F (ps.map (·.2)) (qs.map (·.2)) → Reps T F xs (kvs.map (·.2)) →
    (mergeD ps (kvs.map (fun p => keyD p.1), xs)).1 = (mergeK kvs qs).map (fun p => keyD p.1) ∧ Reps T F (mergeD ps (kvs.map (fun p => keyD p.1), xs)).2 ((mergeK kvs qs).map (·.2))
  | [], [], kvs, xs, _, _, r => ⟨rfl, r⟩
  | [], _ :: _, _, _, e, _, _ => by cases e
  | _ :: _, [], _, _, e, _, _ => by cases e
  | (k, d) :: ps, (k2, v) :: qs, kvs, xs, e, rs, r => by
    have e : k2 :: qs.map (·.1) = k :: ps.map (·.1) := e
    obtain ⟨e1, e2⟩ := List.cons.inj e
    subst e1
    cases rs with
    | cons h t =>
      obtain ⟨a1, a2⟩ := putKD_rel (k := k2) h r
      have ih := mergeD_rel (ps := ps) (qs := qs) (kvs := putK kvs k2 v) (xs := (putKD k2 d (kvs.map fun p => keyD p.1) xs).2) e2 t a2
      have : mergeD ((k2, d) :: ps) (kvs.map (fun p => keyD p.1), xs) = mergeD ps ((putK kvs k2 v).map (fun p => keyD p.1), (putKD k2 d (kvs.map fun p => keyD p.1) xs).2) := by
        show mergeD ps (putKD k2 d (kvs.map fun p => keyD p.1) xs) = _
        rw [← a1]
      rw [this]
      exact ih
/-- the pairs of a written dict, from the left -/
def prs : List (EM × EM) → M (List (Key × D))
  | [] => M.ret []
  | (f, g) :: r => f.bind fun x => g.bind fun y => match x, y with
    | .d a, .d b => (match keyOf a with
      | some k => (prs r).bind fun l => M.ret ((k, b) :: l)
      | none => M.fail)
    | _, _ => M.fail
def eDisp (l : List (EM × EM)) : EM := (prs l).bind fun ps => M.ask fun _ => if ps.length ≤ 15 then some (.d (.dic (mergeD ps ([], [])).1 (mergeD ps ([], [])).2)) else none
section
variable {α β γ δ : Type} {Y : Cy} {relA : Gh → Nat → α → β → Prop} {relC : Gh → Nat → γ → δ → Prop} {g : Gh} {σ : L2.St} {own : Own} {sd : Sl} {H : Hp} {p : Addr} {u : HO}
/-- a step while an object that is not yet ours stands by -/
theorem guard_bind {f : M α} {k : α → M γ} {Q : δ → Hp → Prop} {Q1 : β → Hp → Prop} (hB : Y.B p = none) (hF : g.F p = none) (R1 : HRel Y.T (upd Y.B p u) g own H) (S1 : SRel Y.T g own.length sd σ) (h : At Y relC g sd own σ Q (f.bind k))
    (c : ∀ g1 o1 x v H1, HRel Y.T (upd Y.B p u) g1 o1 H1 → SRel Y.T g1 o1.length sd σ → GExt Y.B g own.length g1 o1.length → g1.F p = none → relA g1 o1.length x v → At Y relC g1 sd o1 σ Q (k x) → Q1 v H1) : trM ⟨Y.T, upd Y.B p u, Y.Ek⟩ relA f σ H Q1 := by
  obtain ⟨r, own', e, q⟩ := h
  refine ⟨g, sd, own, R1, S1, ?_⟩
  unfold M.bind at e
  cases ef : f sd own with
  | none => rw [ef] at e; cases e
  | some pr =>
    obtain ⟨r0, o1⟩ := pr
    rw [ef] at e
    cases r0 with
    | ok x => exact ⟨.ok x, o1, ef, fun g' v H' R' x' rx => c g' o1 x v H' R' (S1.ext (x'.less (Le.upd hB))) (x'.less (Le.upd hB)) (guard_none x' hF) rx ⟨r, own', e, q.shift (x'.less (Le.upd hB))⟩⟩
    | ex k fs =>
      cases e
      exact ⟨.ex k fs, _, ef, fun g' d H' R' e' x => q g' d H' (R'.less (Le.upd hB)) (e'.less (Le.upd hB)) x⟩
end
theorem cxB {X : Cx} {Y : Cy} {B : Hp} (c : CxOk X Y) : CxOk X ⟨Y.T, B, Y.Ek⟩ := ⟨c.K, c.pass⟩
section
variable {X : Cx} {Y : Cy} {pos : Pos}
/-- pairs, whatever is to stay -/
inductive RPs (X : Cx) (Y : Cy) : List (Option Expr) → List Expr → List (EM × EM) → Prop
  | nil : RPs X Y [] [] []
  | cons {k v : Expr} {ks : List (Option Expr)} {vs : List Expr} {f g : EM} {l : List (EM × EM)} : (∀ B, PE X k (trE ⟨Y.T, B, Y.Ek⟩ f)) → (∀ B, PE X v (trE ⟨Y.T, B, Y.Ek⟩ g)) → RPs X Y ks vs l → RPs X Y (some k :: ks) (v :: vs) ((f, g) :: l)
def anyP (Y : Cy) (f : EM) : TE := fun σ H Q => ∃ B, trE ⟨Y.T, B, Y.Ek⟩ f σ H Q
theorem pe_anyP {e : Expr} {f : EM} (h : ∀ B, PE X e (trE ⟨Y.T, B, Y.Ek⟩ f)) : PE X e (anyP Y f) := ⟨fun pins s σ H Q I q => q.elim fun B q => (h B).run pins s σ H Q I q⟩
theorem rps_pps {ks : List (Option Expr)} {vs : List Expr} {l : List (EM × EM)} (h : RPs X Y ks vs l) : PPs X pos ks vs (l.map fun p => (anyP Y p.1, anyP Y p.2)) := by
  induction h with
  | nil => exact pps_nil
  | cons hk hv _ ih => exact pps_cons (pe_anyP hk) (pe_anyP hv) ih
theorem prs_at {p : Addr} {u : HO} (hB : Y.B p = none) {γ δ : Type} {relC : Gh → Nat → γ → δ → Prop} {σ : L2.St} {sd : Sl} {Q : δ → Hp → Prop} : ∀ (l : List (EM × EM)) {g : Gh} {own : Own} {H : Hp} {k : List (Key × D) → M γ} {Qd : List (V × V) → Hp → Prop}, g.F p = none → HRel Y.T (upd Y.B p u) g own H → SRel Y.T g own.length sd σ → At Y relC g sd own σ Q ((prs l).bind k) →
    (∀ g1 o1 (ps : List (Key × D)) (qs : List (Key × V)) H1, HRel Y.T (upd Y.B p u) g1 o1 H1 → GExt Y.B g own.length g1 o1.length → g1.F p = none → qs.map (·.1) = ps.map (·.1) → Reps Y.T g1.F (ps.map (·.2)) (qs.map (·.2)) → At Y relC g1 sd o1 σ Q (k ps) → Qd (qs.map fun q => (kV q.1, q.2)) H1) →
    tPairs (l.map fun p => (anyP Y p.1, anyP Y p.2)) σ H Qd
  | [], g, own, H, k, Qd, hF, R, S, h, c => by
    have h : At Y relC g sd own σ Q (k []) := by
      obtain ⟨r, own', e, q⟩ := h
      exact ⟨r, own', e, q⟩
    exact c g own [] [] H R .rfl' hF rfl .nil h
  | (f, g0) :: l, g, own, H, k, Qd, hF, R, S, h, c => by
    have h : At Y relC g sd own σ Q (f.bind fun x => (g0.bind fun y => match x, y with
      | .d a, .d b => (match keyOf a with
        | some k => (prs l).bind fun l => M.ret ((k, b) :: l)
        | none => M.fail)
      | _, _ => M.fail).bind k) := by
      obtain ⟨r, own', e, q⟩ := h
      refine ⟨r, own', ?_, q⟩
      rw [← e]
      show M.bind f _ sd own = M.bind (M.bind f _) k sd own
      unfold M.bind
      cases f sd own with
      | none => rfl
      | some z => obtain ⟨z1, z2⟩ := z; cases z1 <;> rfl
    refine ⟨_, guard_bind hB hF R S h fun g1 o1 x v H1 R1 S1 e1 F1 rx q1 => ?_⟩
    have q1 : At Y relC g1 sd o1 σ Q (g0.bind fun y => (match x, y with
      | .d a, .d b => (match keyOf a with
        | some k => (prs l).bind fun l => M.ret ((k, b) :: l)
        | none => M.fail)
      | _, _ => M.fail).bind k) := by
      obtain ⟨r, own', e, q⟩ := q1
      refine ⟨r, own', ?_, q⟩
      rw [← e]
      show M.bind g0 _ sd o1 = M.bind (M.bind g0 _) k sd o1
      unfold M.bind
      cases g0 sd o1 with
      | none => rfl
      | some z => obtain ⟨z1, z2⟩ := z; cases z1 <;> rfl
    refine ⟨_, guard_bind hB F1 R1 S1 q1 fun g2 o2 y w H2 R2 S2 e2 F2 ry q2 => ?_⟩
    have nof : ∀ {f : M γ}, (∀ sd own, f sd own = none) → At Y relC g2 sd o2 σ Q f → False := fun {f} z ⟨r, own', e, _⟩ => by rw [z] at e; cases e
    cases x with
    | h kk => exact (nof (fun _ _ => rfl) q2).elim
    | d a =>
      cases y with
      | h kk => exact (nof (fun _ _ => rfl) q2).elim
      | d b =>
        cases ea : keyOf a with
        | none =>
          have q2 : At Y relC g2 sd o2 σ Q ((match keyOf a with | some k => (prs l).bind fun l => M.ret ((k, b) :: l) | none => M.fail).bind k) := q2
          rw [ea] at q2
          exact (nof (fun _ _ => rfl) q2).elim
        | some kk =>
          have q2 : At Y relC g2 sd o2 σ Q ((match keyOf a with | some k => (prs l).bind fun l => M.ret ((k, b) :: l) | none => M.fail).bind k) := q2
          rw [ea] at q2
          have q3 : At Y relC g2 sd o2 σ Q ((prs l).bind fun l => k ((kk, b) :: l)) := by
            obtain ⟨r, own', e, q⟩ := q2
            refine ⟨r, own', ?_, q⟩
            rw [← e]
            show M.bind (prs l) _ sd o2 = M.bind (M.bind (prs l) _) k sd o2
            unfold M.bind
            cases prs l sd o2 with
            | none => rfl
            | some z => obtain ⟨z1, z2⟩ := z; cases z1 <;> rfl
          have ev := keyOf_rel ea (show Rep Y.T g2.F a v from (rx.ext e2))
          refine prs_at hB l F2 R2 S2 q3 fun g3 o3 ps qs H3 R3 e3 F3 k3 r3 q4 => ?_
          have := c g3 o3 ((kk, b) :: ps) ((kk, w) :: qs) H3 R3 ((e1.trans e2).trans e3) F3 (by rw [List.map_cons, List.map_cons, k3]) (.cons (Rep.le e3.F ry) r3) q4
          rw [ev]
          exact this
theorem r_disp {ks : List (Option Expr)} {vs : List Expr} {l : List (EM × EM)} (h : RPs X Y ks vs l) (hall : ks.all (·.isSome) = true := by rfl) (hl : ks.length = vs.length := by rfl) (h0 : ks ≠ [] := by exact List.cons_ne_nil _ _) (h15 : ks.length ≤ 15 := by decide) : PE X (.Dict ks vs pos) (trE Y (eDisp l)) := by
  refine PE.imp (pe_disp (rps_pps h) hall hl h0 h15) fun σ H Q q => ?_
  obtain ⟨gh, sd, own, R, S, q⟩ := q
  intro p hp
  obtain ⟨hB, hF⟩ := R.free hp
  refine prs_at hB l hF (R.guard hp) S q fun g1 o1 ps qs H1 R1 e1 F1 k1 r1 q1 => ?_
  obtain ⟨s, es, q2⟩ := at_ask q1
  by_cases hz : ps.length ≤ 15
  case neg => rw [if_neg hz] at es; cases es
  rw [if_pos hz] at es
  cases es
  have hz2 : qs.length ≤ 15 := by
    have := congrArg List.length k1
    rw [List.length_map, List.length_map] at this
    omega
  refine ⟨R1.b _ _ upd_same, qs, rfl, hz2, ?_⟩
  have R2 := R1.reb (u' := .dK (mergeK [] qs)) F1
  obtain ⟨R3, e3⟩ := R2.unguard F1 hB
  obtain ⟨m1, m2⟩ := mergeD_rel (T := Y.T) (F := g1.F) (ps := ps) (qs := qs) (kvs := []) (xs := []) k1 r1 .nil
  exact q2 _ _ _ R3 e3 (Rep.dic (.inl upd_same) m1 (m2.le e3.F))
end
end Gx
end T_GxD1
section T_GxD2
set_option Elab.async false
set_option linter.all false
set_option maxRecDepth 100000
set_option maxHeartbeats 4000000
namespace Gx
open PySem PySem.Spec PyProof.Rows L2

/-! ## comprehensions of two clauses -/
/-- one outer item's items -/
def lc2I (tg1 : GM) (t1 : TM) (f : EM) (sd1 : Sl) : List D → Own → Option (List D × Own) := lcL tg1 t1 f sd1
def lc2L (tg : GM) (t : TM) (src1 : IM) (vs1 : List Nat) (tg1 : GM) (t1 : TM) (f : EM) (sd0 : Sl) : List D → Own → Option (List D × Own)
  | [], own => some ([], own)
  | x :: xs, own => match tg x sd0 with
    | none => none
    | some sd1 => match t sd1 own with
      | some (.ok true, o1) => (match src1 sd1 o1 with
        | some (.ok ys, o2) => (match lcL tg1 t1 f (wipeD sd1 vs1) ys o2 with
          | some (ds, o3) => (match lc2L tg t src1 vs1 tg1 t1 f sd0 xs o3 with
            | some (es, o4) => some (ds ++ es, o4)
            | none => none)
          | none => none)
        | _ => none)
      | some (.ok false, o1) => lc2L tg t src1 vs1 tg1 t1 f sd0 xs o1
      | _ => none
def eLC2 (src : IM) (vs : List Nat) (tg : GM) (t : TM) (src1 : IM) (vs1 : List Nat) (tg1 : GM) (t1 : TM) (f : EM) : EM := src.bind fun xs => fun sd own => match lc2L tg t src1 vs1 tg1 t1 f (wipeD sd vs) xs own with
  | some (ds, o) => if ds.length < sizeLine then some (.ok (.d (.lst ds)), o) else none
  | none => none
section
variable {X : Cx} {Y : Cy} {tgx iter elt tgx1 iter1 : Expr} {ifs ifs1 : List Expr} {scope : Scope} {own : List (Str × Nat)} {pos : Pos} {src src1 : IM} {tg tg1 : GM} {gg gg1 : TG} {is is1 vs1 : List Nat} {t t1 : TM} {f : EM}
def anyI (T : Tb) (f : IM) : TI := fun σ H Q => ∃ B, trI ⟨T, B, E00⟩ f σ H Q
theorem pi_any {tg e : Expr} {T : Tb} {f : IM} (h : ∀ B, PI X tg e (trI ⟨T, B, E00⟩ f)) : PI X tg e (anyI T f) := ⟨fun pins s σ H Q I q => q.elim fun B q => (h B).run pins s σ H Q I q⟩
/-- the slots at vs1 alone may differ; the rest of wipe -/
theorem lc2_at (og : OG Y.T gg tg is) (hv : ∀ i ∈ is, i ∈ own.map (·.2)) (og1 : OG Y.T gg1 tg1 is1) (hv1 : ∀ i ∈ is1, i ∈ vs1) {σ : L2.St} {H : Hp} {Q : VK} (q : trE Y (eLC2 src (own.map (·.2)) tg t src1 vs1 tg1 t1 f) σ H Q) :
    tLc2 (trI Y src) gg (anyT Y.T t) (anyI Y.T src1) gg1 (anyT Y.T t1) (anyB Y.T f) (own.map (·.2)) vs1 σ H Q := by
  obtain ⟨gh, sd, own0, R, S, q⟩ := q
  refine at_bind R S q fun g1 o1 xs J H1 R1 S1 e1 wk q1 => ?_
  obtain ⟨r, own', e, k⟩ := q1
  cases el : lc2L tg t src1 vs1 tg1 t1 f (wipeD sd (own.map (·.2))) xs o1 with
  | none => simp only [el] at e; cases e
  | some p =>
    obtain ⟨ds, oF⟩ := p
    simp only [el] at e
    by_cases hz : ds.length < sizeLine
    case neg => rw [if_neg hz] at e; cases e
    rw [if_pos hz] at e
    cases e
    intro Dn hD
    obtain ⟨hB, hF⟩ := R1.free hD
    refine ⟨fun i m H => m = xs.length - i ∧ i ≤ xs.length ∧ ∃ (acc : List D) (accV : List V) (rest : List D) (g2 : Gh) (o2 : Own), HRel Y.T (upd Y.B Dn (.lst accV)) g2 o2 H ∧ g2.F Dn = none ∧ Reps Y.T g2.F acc accV ∧
      GExt Y.B g1 o1.length g2 o2.length ∧ lc2L tg t src1 vs1 tg1 t1 f (wipeD sd (own.map (·.2))) (xs.drop i) o2 = some (rest, own') ∧ acc ++ rest = ds,
      ⟨xs.length, by omega, Nat.zero_le _, [], [], ds, g1, o1, R1.guard hD, hF, .nil, .rfl', by rw [List.drop_zero]; exact el, rfl⟩, ?_⟩
    rintro i m H2 ⟨rfl, hi, acc, accV, rest, g2, o2, R2, F2, r2, e2, l2, ea⟩
    by_cases c : i < xs.length
    · refine .inr ⟨wk.go _ i g2 o2 H2 R2 e2.F c, fun H' => i + 1 ≤ xs.length ∧ ∃ (acc : List D) (accV : List V) (rest : List D) (g2 : Gh) (o2 : Own), HRel Y.T (upd Y.B Dn (.lst accV)) g2 o2 H' ∧ g2.F Dn = none ∧ Reps Y.T g2.F acc accV ∧
        GExt Y.B g1 o1.length g2 o2.length ∧ lc2L tg t src1 vs1 tg1 t1 f (wipeD sd (own.map (·.2))) (xs.drop (i + 1)) o2 = some (rest, own') ∧ acc ++ rest = ds,
        fun H' w => ⟨xs.length - (i + 1), by omega, rfl, w⟩, fun x H' y => ?_⟩
      have hx : xs[i]? = some xs[i] := by simp [c]
      obtain ⟨g3, R3, e3, r3⟩ := wk.yld _ i g2 o2 H2 x H' xs[i] R2 e2.F y hx
      have F3 : g3.F Dn = none := guard_none e3 F2
      rw [List.drop_eq_getElem_cons c] at l2
      unfold lc2L at l2
      have S3 : SRel Y.T g3 o2.length sd σ := (S1.ext e2).ext e3
      cases et : tg xs[i] (wipeD sd (own.map (·.2))) with
      | none => simp only [et] at l2; cases l2
      | some sd3 =>
        simp only [et] at l2
        refine og _ g3 o2 H' xs[i] x _ sd3 _ _ R3 r3 (srel_wipe S3 _) et fun σ3 S4 u => ⟨wipe_eq u hv, ?_⟩
        cases ec : t sd3 o2 with
        | none => simp only [ec] at l2; cases l2
        | some pc =>
          obtain ⟨rc, o3⟩ := pc
          cases rc with
          | ex cc fs => simp only [ec] at l2; cases l2
          | ok bb =>
            simp only [ec] at l2
            refine ⟨upd Y.B Dn (.lst accV), g3, sd3, o2, R3, S4, .ok bb, o3, ec, fun g4 b' H4 R4 e4 eb => ?_⟩
            obtain rfl : bb = b' := eb
            have F4 : g4.F Dn = none := guard_none e4 F3
            have e34 := (e3.trans e4).less (B := Y.B) (Le.upd hB)
            cases bb with
            | false =>
              rw [if_neg (by decide)]
              simp only at l2
              exact ⟨c, acc, accV, rest, g4, o3, R4, F4, r2.le (e3.F.trans e4.F), e2.trans e34, l2, ea⟩
            | true =>
              rw [if_pos rfl]
              simp only at l2
              cases es : src1 sd3 o3 with
              | none => simp only [es] at l2; cases l2
              | some ps =>
                obtain ⟨rs, o4⟩ := ps
                cases rs with
                | ex cc fs => simp only [es] at l2; cases l2
                | ok ys =>
                  simp only [es] at l2
                  cases ei : lcL tg1 t1 f (wipeD sd3 vs1) ys o4 with
                  | none => simp only [ei] at l2; cases l2
                  | some pi =>
                    obtain ⟨ds1, o5⟩ := pi
                    simp only [ei] at l2
                    cases er : lc2L tg t src1 vs1 tg1 t1 f (wipeD sd (own.map (·.2))) (xs.drop (i + 1)) o5 with
                    | none => simp only [er] at l2; cases l2
                    | some pr =>
                      obtain ⟨es1, o6⟩ := pr
                      simp only [er] at l2
                      cases l2
                      refine ⟨upd Y.B Dn (.lst accV), g4, sd3, o3, R4, S4.ext e4, .ok ys, o4, es, fun g5 J1 H5 R5 e5 wk1 => ?_⟩
                      have F5 : g5.F Dn = none := guard_none e5 F4
                      have e15 := (e2.trans e34).trans (e5.less (B := Y.B) (Le.upd hB))
                      have S5 : SRel Y.T g5 o4.length sd3 σ3 := (S4.ext e4).ext e5
                      have r5 := r2.le ((e3.F.trans e4.F).trans e5.F)
                      refine ⟨fun j m H => m = ys.length - j ∧ j ≤ ys.length ∧ ∃ (acc1 : List D) (accV1 : List V) (rest1 : List D) (g2 : Gh) (o2 : Own), HRel Y.T (upd Y.B Dn (.lst accV1)) g2 o2 H ∧ g2.F Dn = none ∧ Reps Y.T g2.F acc1 accV1 ∧
                        GExt Y.B g5 o4.length g2 o2.length ∧ lcL tg1 t1 f (wipeD sd3 vs1) (ys.drop j) o2 = some (rest1, o5) ∧ acc1 ++ rest1 = acc ++ ds1,
                        ⟨ys.length, by omega, Nat.zero_le _, acc, accV, ds1, g5, o4, R5, F5, r5, .rfl', by rw [List.drop_zero]; exact ei, rfl⟩, ?_⟩
                      rintro j m H6 ⟨rfl, hj, acc1, accV1, rest1, g6, o6', R6, F6, r6, e6, l6, ea6⟩
                      by_cases c1 : j < ys.length
                      · refine .inr ⟨wk1.go _ j g6 o6' H6 R6 e6.F c1, fun H' => j + 1 ≤ ys.length ∧ ∃ (acc1 : List D) (accV1 : List V) (rest1 : List D) (g2 : Gh) (o2 : Own), HRel Y.T (upd Y.B Dn (.lst accV1)) g2 o2 H' ∧ g2.F Dn = none ∧ Reps Y.T g2.F acc1 accV1 ∧
                          GExt Y.B g5 o4.length g2 o2.length ∧ lcL tg1 t1 f (wipeD sd3 vs1) (ys.drop (j + 1)) o2 = some (rest1, o5) ∧ acc1 ++ rest1 = acc ++ ds1,
                          fun H' w => ⟨ys.length - (j + 1), by omega, rfl, w⟩, fun x1 H7 y1 => ?_⟩
                        have hy : ys[j]? = some ys[j] := by simp [c1]
                        obtain ⟨g7, R7, e7, r7⟩ := wk1.yld _ j g6 o6' H6 x1 H7 ys[j] R6 e6.F y1 hy
                        have F7 : g7.F Dn = none := guard_none e7 F6
                        rw [List.drop_eq_getElem_cons c1] at l6
                        unfold lcL at l6
                        have S7 : SRel Y.T g7 o6'.length sd3 σ3 := (S5.ext e6).ext e7
                        cases et1 : tg1 ys[j] (wipeD sd3 vs1) with
                        | none => simp only [et1] at l6; cases l6
                        | some sd8 =>
                          simp only [et1] at l6
                          refine og1 _ g7 o6' H7 ys[j] x1 _ sd8 _ _ R7 r7 (srel_wipe S7 _) et1 fun σ8 S8 u1 => ⟨wipe_eq u1 hv1, ?_⟩
                          cases ec1 : t1 sd8 o6' with
                          | none => simp only [ec1] at l6; cases l6
                          | some pc1 =>
                            obtain ⟨rc1, o8⟩ := pc1
                            cases rc1 with
                            | ex cc fs => simp only [ec1] at l6; cases l6
                            | ok b1 =>
                              simp only [ec1] at l6
                              refine ⟨upd Y.B Dn (.lst accV1), g7, sd8, o6', R7, S8, .ok b1, o8, ec1, fun g9 b' H9 R9 e9 eb => ?_⟩
                              obtain rfl : b1 = b' := eb
                              have F9 : g9.F Dn = none := guard_none e9 F7
                              have e79 := (e7.trans e9).less (B := Y.B) (Le.upd hB)
                              cases b1 with
                              | false =>
                                rw [if_neg (by decide)]
                                simp only at l6
                                exact ⟨c1, acc1, accV1, rest1, g9, o8, R9, F9, r6.le (e7.F.trans e9.F), e6.trans e79, l6, ea6⟩
                              | true =>
                                rw [if_pos rfl]
                                simp only at l6
                                cases ef : f sd8 o8 with
                                | none => simp only [ef] at l6; cases l6
                                | some pf =>
                                  obtain ⟨rf, o9⟩ := pf
                                  cases rf with
                                  | ex cc fs => simp only [ef] at l6; cases l6
                                  | ok s =>
                                    cases s with
                                    | h kk => simp only [ef] at l6; cases l6
                                    | d d =>
                                      simp only [ef] at l6
                                      cases er1 : lcL tg1 t1 f (wipeD sd3 vs1) (ys.drop (j + 1)) o9 with
                                      | none => simp only [er1] at l6; cases l6
                                      | some pr =>
                                        obtain ⟨rs1, o10⟩ := pr
                                        simp only [er1] at l6
                                        cases l6
                                        refine ⟨upd Y.B Dn (.lst accV1), g9, sd8, o8, R9, S8.ext e9, .ok (.d d), o9, ef, fun g10 v H10 R10 e10 rv => ?_⟩
                                        have F10 : g10.F Dn = none := guard_none e10 F9
                                        have e710 := ((e7.trans e9).trans e10).less (B := Y.B) (Le.upd hB)
                                        have r10 := r6.le ((e7.F.trans e9.F).trans e10.F)
                                        have hlen : acc1.length < ds.length := by
                                          rw [← ea]
                                          have := congrArg List.length ea6
                                          simp only [List.length_append, List.length_cons] at this ⊢
                                          omega
                                        exact ⟨accV1, R10.b _ _ upd_same, by rw [← r6.length]; omega, c1, acc1 ++ [d], accV1 ++ [v], rs1, g10, o9, R10.reb F10, F10, r10.snoc rv, e6.trans e710, er1, by rw [← ea6]; simp⟩
                      · have ej : j = ys.length := by omega
                        subst ej
                        rw [List.drop_length] at l6
                        cases l6
                        rw [List.append_nil] at ea6
                        subst ea6
                        exact .inl ⟨wk1.stop _ _ g6 _ H6 R6 e6.F (Nat.le_refl _), c, acc ++ ds1, accV1, es1, g6, _, R6, F6, r6, e15.trans e6, er, by rw [← ea, List.append_assoc]⟩
    · have e : i = xs.length := by omega
      subst e
      rw [List.drop_length] at l2
      cases l2
      rw [List.append_nil] at ea
      subst ea
      obtain ⟨R3, e3⟩ := R2.unguard F2 hB
      exact .inl ⟨wk.stop _ _ g2 _ H2 R2 e2.F (Nat.le_refl _), k _ _ H2 R3 (e2.trans e3) (Rep.lst upd_same (r2.le e3.F))⟩
theorem r_lc2 (hN : X.N.Nodup) (hi : PI X tgx iter (trI Y src)) (ok : BlkOk X.N X.env.scope scope own)
    (hg : ∀ (s : Shared) (H : Hp) (C : Addr) (cl : List (Str × Addr)) (fp : List Addr), PG (X.blk s H scope (compEnvC scope cl C X.env) fp) tgx gg) (og : OG Y.T gg tg is) (hv : ∀ i ∈ is, i ∈ own.map (·.2))
    (ht : ∀ (B : Hp) (s : Shared) (H : Hp) (C : Addr) (cl : List (Str × Addr)) (fp : List Addr), PTs (X.blk s H scope (compEnvC scope cl C X.env) fp) ifs (trT ⟨Y.T, B, E00⟩ t))
    (hi1 : ∀ (B : Hp) (s : Shared) (H : Hp) (C : Addr) (cl : List (Str × Addr)) (fp : List Addr), PI (X.blk s H scope (compEnvC scope cl C X.env) fp) tgx1 iter1 (trI ⟨Y.T, B, E00⟩ src1)) (hw : ∀ i ∈ vs1, i ∈ own.map (·.2))
    (hg1 : ∀ (s : Shared) (H : Hp) (C : Addr) (cl : List (Str × Addr)) (fp : List Addr), PG (X.blk s H scope (compEnvC scope cl C X.env) fp) tgx1 gg1) (og1 : OG Y.T gg1 tg1 is1) (hv1 : ∀ i ∈ is1, i ∈ vs1)
    (ht1 : ∀ (B : Hp) (s : Shared) (H : Hp) (C : Addr) (cl : List (Str × Addr)) (fp : List Addr), PTs (X.blk s H scope (compEnvC scope cl C X.env) fp) ifs1 (trT ⟨Y.T, B, E00⟩ t1))
    (he : ∀ (B : Hp) (s : Shared) (H : Hp) (C : Addr) (cl : List (Str × Addr)) (fp : List Addr), PE (X.blk s H scope (compEnvC scope cl C X.env) fp) elt (trE ⟨Y.T, B, E00⟩ f)) (hc : X.calm = true := by rfl) (hs : ∀ x, foldedSetIterable iter X.env x = pure x := by intro _; rfl) (hs1 : ∀ env x, foldedSetIterable iter1 env x = pure x := by intro _ _; rfl) :
    PE X (.ListComp elt [⟨tgx, iter, ifs, 0⟩, ⟨tgx1, iter1, ifs1, 0⟩] scope pos) (trE Y (eLC2 src (own.map (·.2)) tg t src1 vs1 tg1 t1 f)) :=
  PE.imp (pe_lc2 hc hN hi ok hw hg (fun s H C cl fp => pt_any fun B => ht B s H C cl fp) (fun s H C cl fp => pi_any fun B => hi1 B s H C cl fp) hg1 (fun s H C cl fp => pt_any fun B => ht1 B s H C cl fp) (fun s H C cl fp => pe_any fun B => he B s H C cl fp) hs hs1) fun _ _ _ q => lc2_at og hv og1 hv1 q
end
end Gx
end T_GxD2
section T_GxD3
set_option Elab.async false
set_option linter.all false
set_option maxRecDepth 100000
set_option maxHeartbeats 4000000
namespace Gx
open PySem PySem.Spec PyProof.Rows L2

/-! ## dict comprehensions -/
def dcL (tg : GM) (t : TM) (fk fv : EM) (sd0 : Sl) : List D → List D × List D → Own → Option ((List D × List D) × Own)
  | [], a, own => some (a, own)
  | x :: xs, a, own => match tg x sd0 with
    | none => none
    | some sd1 => match t sd1 own with
      | some (.ok true, o1) => (match fk sd1 o1 with
        | some (.ok (.d c), o2) => (match keyOf c with
          | some k => (match fv sd1 o2 with
            | some (.ok (.d d), o3) => dcL tg t fk fv sd0 xs (putKD k d a.1 a.2) o3
            | _ => none)
          | none => none)
        | _ => none)
      | some (.ok false, o1) => dcL tg t fk fv sd0 xs a o1
      | _ => none
def dcM (src : IM) (vs : List Nat) (tg : GM) (t : TM) (fk fv : EM) : M (List D × List D) := src.bind fun xs => fun sd own => if xs.length < sizeLine then (match dcL tg t fk fv (wipeD sd vs) xs ([], []) own with
  | some (a, o) => some (.ok a, o)
  | none => none) else none
/-- data -/
def eDC (src : IM) (vs : List Nat) (tg : GM) (t : TM) (fk fv : EM) : EM := (dcM src vs tg t fk fv).bind fun a => M.ret (.d (.dic a.1 a.2))
/-- .. of one's own -/
def eDCH (src : IM) (vs : List Nat) (tg : GM) (t : TM) (fk fv : EM) : EM := (dcM src vs tg t fk fv).bind fun a => fun _ own => some (.ok (.h own.length), own ++ [.dic a.1 a.2])
section
variable {X : Cx} {Y : Cy} {tgx iter kx vx : Expr} {ifs : List Expr} {scope : Scope} {own : List (Str × Nat)} {pos : Pos} {src : IM} {tg : GM} {gg : TG} {is : List Nat} {t : TM} {fk fv : EM}
end
end Gx
end T_GxD3
section T_GxD4
set_option Elab.async false
set_option linter.all false
set_option maxRecDepth 100000
set_option maxHeartbeats 4000000
namespace Gx
open PySem PySem.Spec PyProof.Rows L2

/-! ## dicts of one's own, changed -/
/-- o[i] = v, o a dict of one's own -/
def putDK (own : Own) (o i : SV) (v : D) : Option Own := match o, i with
  | .h k, .d c => match own[k]? with
    | some (.dic ks xs) => (keyOf c).bind fun kk => if ks.length < sizeLine then some (own.set k (.dic (putKD kk v ks xs).1 (putKD kk v ks xs).2)) else none
    | _ => none
  | _, _ => none
def sPutD (o i v : EM) : SM := SM.bind v fun x => SM.bind o fun a => SM.bind i fun b => fun sd own => match x with
  | .d d => (putDK own a b d).map fun own' => .nx sd own'
  | _ => none
/-- o[i] op= v, ints -/
def sAugD (gg : Int → Int → Int) (o i v : EM) : SM := SM.bind o fun a => SM.bind i fun b => fun sd own => match a, b with
  | .h k, .d c => (match own[k]? with
    | some (.dic ks xs) => (match (keyOf c).bind fun kk => getK kk ks xs with
      | some (.int n) => SM.bind v (fun y => fun sd own => match y with
        | .d (.int m) => (putDK own a b (.int (gg n m))).map fun own' => .nx sd own'
        | _ => none) sd own
      | _ => none)
    | _ => none)
  | _, _ => none
section
variable {X : Cx} {Y : Cy} {pos po : Pos} {o i a : Expr} {fo fi f : EM}
/-! ## places and numbers of items -/
/-- the first place -/
def ixD (x : D) : Nat → List D → Option Nat
  | _, [] => none
  | n, y :: ys => if eqN 60 y x = true then some n else ixD x (n + 1) ys
def mIndex : Own → SV → List SV → Option D := fun own x ys => match ys with
  | [y] => (lstV own x).bind fun xs => (datV own y).bind fun a => if (okN 60 a && xs.all (okN 59)) = true then (ixD a 0 xs).map (fun n : Nat => D.int (n : Int)) else none
  | _ => none
def mCount : Own → SV → List SV → Option D := fun own x ys => match ys with
  | [y] => (lstV own x).bind fun xs => (datV own y).bind fun a => if (okN 60 a && xs.all (okN 59)) = true then some (.int (xs.countP fun z => eqN 60 z a)) else none
  | _ => none
end
/-! ### list methods that only look -/
abbrev LM := Own → SV → List SV → Option D
def eLm (m : LM) (f : EM) (a : AM) : EM := f.bind fun x => (M.ask fun own => lstV own x).bind fun _ => a.bind fun ys => M.ask fun own => (m own x ys).map SV.d
def OLm (Y : Cy) (r : V → List V → Hp → VK → Prop) (m : LM) : Prop := ∀ (gh : Gh) (own : Own) (H : Hp) (x : SV) (v : V) (ys : List SV) (ws : List V) (z : D) (Q : VK),
  HRel Y.T Y.B gh own H → RS Y.T gh own.length x v → RSs Y.T gh own.length ys ws → m own x ys = some z →
  (∀ g' u H', HRel Y.T Y.B g' own H' → GExt Y.B gh own.length g' own.length → Rep Y.T g'.F z u → Q u H') → r v ws H Q
section
variable {X : Cx} {Y : Cy} {apos cpos : Pos} {o e : Expr} {es : List Expr} {name : Str} {id : String} {r : V → List V → Hp → VK → Prop} {m : LM} {f : EM} {al : AM}
end
section
variable {Y : Cy}
end
/-- xs.count(y) -/
def rCountD (K : PySem.W.Frag) : V → List V → Hp → VK → Prop := fun x xs H Q => ∃ (a : Addr) (y : V) (d : PyData) (ds : List PyData), x = V.ref a ∧ xs = [y] ∧ Dp K H (V.ref a) (.list ds) ∧ Dp K H y d ∧
  SeqAt.shaped (.list ds) = true ∧ SeqAt.shaped d = true ∧ Q (.int (ds.countP fun z => PyData.eqv z d : Nat)) H
section
variable {Y : Cy}
end
end Gx
end T_GxD4
section T_GxD5
set_option Elab.async false
set_option linter.all false
set_option maxRecDepth 100000
set_option maxHeartbeats 4000000
namespace Gx
open PySem PySem.Spec PyProof.Rows L2

/-! ## sorted, < of tuples -/
def mSortT (s : Sh) : Own → SV → Option D := fun own x => (lstV own x).bind fun ds => if (ds.all (shp s) && ds.all full) = true then some (.lst (srt (ltS s) ds)) else none
theorem ob_sortT {Y : Cy} {s : Sh} : OB Y (rSortD Y.T s) (m1 (mSortT s)) := by
  refine ob_1 (r := fun v H Q => rSortD Y.T s [v] H Q) (fun gh own H x v z Q R rx h k => ?_) fun _ _ _ h => h
  obtain ⟨ds, e1, h⟩ := Option.bind_eq_some_iff.mp h
  by_cases c : (ds.all (shp s) && ds.all full) = true
  · rw [if_pos c] at h
    cases h
    obtain ⟨c1, c2⟩ := Bool.and_eq_true_iff.mp c
    obtain ⟨a, vs, rfl, h1, h2⟩ := lst_of R rx e1
    refine ⟨a, vs, ds, gh.F, rfl, SqL.of h1, R.f, h2, c1, c2, fun ys p r2 hp => ?_⟩
    obtain ⟨R2, e2⟩ := R.new hp (.lst ys)
    exact k _ _ _ R2 e2 (.lst upd_same (r2.le e2.F))
  · rw [if_neg c] at h; cases h
def ltI (i j : Int) : Bool := decide (i < j)
def isort : List Int → List Int := srt ltI
theorem swo_ltI : SrtO.Swo ltI := ⟨fun x y h => by have := of_decide_eq_true h; exact decide_eq_false (by omega), fun x y z h1 h2 => by
  have := of_decide_eq_false h1
  have := of_decide_eq_false h2
  exact decide_eq_false (by omega)⟩
theorem isort_le (l : List Int) : (isort l).Pairwise (· ≤ ·) := (srt_srtd swo_ltI l).imp fun h => by
  have := of_decide_eq_false h
  omega
theorem isort_perm (l : List Int) : (isort l).Perm l := (srt_stb swo_ltI l).perm
theorem rise_uniq : ∀ {a b : List Int}, a.Perm b → a.Pairwise (· ≤ ·) → b.Pairwise (· ≤ ·) → a = b
  | [], b, p, _, _ => (List.Perm.nil_eq p)
  | x :: a, [], p, _, _ => by have := p.length_eq; simp at this
  | x :: a, y :: b, p, ha, hb => by
    have h1 := List.pairwise_cons.mp ha
    have h2 := List.pairwise_cons.mp hb
    have e : x = y := by
      have m1 : x ∈ y :: b := p.mem_iff.mp List.mem_cons_self
      have m2 : y ∈ x :: a := p.mem_iff.mpr List.mem_cons_self
      rcases List.mem_cons.mp m1 with e | m1
      · exact e
      · rcases List.mem_cons.mp m2 with e | m2
        · exact e.symm
        · have := h1.1 y m2
          have := h2.1 x m1
          omega
    subst e
    rw [rise_uniq (List.Perm.cons_inv p) h1.2 h2.2]
def mSortI : Own → SV → Option D := fun own x => (lstV own x).bind fun ds => (intsD ds).map fun is => .lst ((isort is).map D.int)
theorem ob_sortI {Y : Cy} : OB Y (rSortedI Y.T.K) (m1 mSortI) := by
  refine ob_1 (r := fun v H Q => rSortedI Y.T.K [v] H Q) (fun gh own H x v z Q R rx h k => ?_) fun _ _ _ h => h
  obtain ⟨ds, e1, h⟩ := Option.bind_eq_some_iff.mp h
  obtain ⟨is, e2, e3⟩ := Option.map_eq_some_iff.mp h
  subst e3
  obtain ⟨a, rfl, hs⟩ := ints_of R rx e1 e2
  refine ⟨a, is, rfl, hs, fun ns p hp hr hn => ?_⟩
  have e : ns = isort is := rise_uniq (hp.trans (isort_perm is).symm) hr (isort_le is)
  subst e
  obtain ⟨R2, e2⟩ := R.new hn (.lst ((isort is).map V.int))
  exact k _ _ _ R2 e2 (.lst upd_same (reps_int _))
/-- < of two of one shape -/
def mLtT (s : Sh) : Own → SV → SV → Option D := fun _ x y => match x, y with
  | .d a, .d b => if (shp s a && shp s b) = true then some (.bl (ltS s a b)) else none
  | _, _ => none
def rLtT (T : Tb) (s : Sh) : R2 := fun x y H Q => ∃ (d e : D) (F : Hp), Le F H ∧ Rep T F d x ∧ Rep T F e y ∧ shp s d = true ∧ shp s e = true ∧ Q (.bl (ltS s d e)) H
theorem op_ltS {X : Cx} {T : Tb} {s : Sh} (hu : X.A.units + 64 < cLine) (hd : s.dep ≤ 60 := by decide) (hK : X.K = T.K := by rfl) : OpR X (compareOp .Lt) (rLtT T s) := by
  intro pins st σ H x y v u Q I rx ry h
  obtain ⟨d, e, F, le, r1, r2, h1, h2, q⟩ := h
  exact TV.lt s (tv_of I le hK s r1 rx h1) (tv_of I le hK s r2 ry h2) (by omega) X.prog X.w _ _ ⟨.bl _, H, I, rfl, q⟩
theorem o2_ltS {Y : Cy} {s : Sh} : O2 Y (rLtT Y.T s) (mLtT s) := by
  intro gh own H x y v w z Q R rx ry h k
  cases x with
  | h j => cases h
  | d a =>
    cases y with
    | h j => cases h
    | d b =>
      have h : (if (shp s a && shp s b) = true then some (D.bl (ltS s a b)) else none) = some z := h
      by_cases c : (shp s a && shp s b) = true
      · rw [if_pos c] at h
        cases h
        obtain ⟨c1, c2⟩ := Bool.and_eq_true_iff.mp c
        exact ⟨a, b, gh.F, R.f, rx, ry, c1, c2, k gh _ H R .rfl' (.bl _)⟩
      · rw [if_neg c] at h; cases h
theorem _root_.L2.Room.u80 {k : Nat} {A : Around} (r : Room k A) : A.units + 80 < cLine := by have := r.un; omega
theorem call_sortT {X : Cx} {T : Tb} {s : Sh} {b : Bool} (k : SKind s b) (hu : X.A.units + 80 < cLine) (hd : s.dep ≤ 60 := by decide) (hK : X.K = T.K := by rfl) : CallR X (.builtin "sorted") (rSortD T s) := cr_sortD k hK (by omega)
end Gx
end T_GxD5
section T_GxD6
set_option Elab.async false
set_option linter.all false
set_option maxRecDepth 100000
set_option maxHeartbeats 4000000
namespace Gx
open PySem PySem.Spec PyProof.Rows L2

/-! ## list(range(..)), tuple(range(..)) -/
abbrev RM := M (Int × Int)
def relR : Gh → Nat → Int × Int → Int × Int → Prop := fun _ _ a b => a = b
def rg1 (f : EM) : RM := f.bind fun x => match x with
  | .d (.int n) => M.ret (0, n)
  | _ => M.fail
def rg2 (f g : EM) : RM := f.bind fun x => g.bind fun y => match x, y with
  | .d (.int i), .d (.int j) => M.ret (i, j)
  | _, _ => M.fail
def trR (Y : Cy) (f : RM) : L2.St → Hp → (Int → Int → Hp → Prop) → Prop := fun σ H Q => trM Y relR f σ H fun p H' => Q p.1 p.2 H'
def rgS (a b : Int) : Bool := decide (-(2 ^ 62) ≤ a ∧ a < 2 ^ 62 ∧ -(2 ^ 62) ≤ b ∧ b < 2 ^ 62 ∧ (b - a).toNat ≤ 2 ^ 24)
def eTupR (f : RM) : EM := f.bind fun p => M.ask fun _ => if rgS p.1 p.2 = true then some (.d (.tup (rgD p.1 (p.2 - p.1).toNat))) else none
def eLstR (f : RM) : EM := f.bind fun p => M.ask fun _ => if rgS p.1 p.2 = true then some (.d (.lst (rgD p.1 (p.2 - p.1).toNat))) else none
def eLstRH (f : RM) : EM := f.bind fun p => fun _ own => if rgS p.1 p.2 = true then some (.ok (.h own.length), own ++ [.lst (rgD p.1 (p.2 - p.1).toNat)]) else none
theorem rgD_eq (a : Int) (n : Nat) : rgD a n = ((List.range n).map fun i => a + (i : Nat)).map D.int := by
  unfold rgD
  rw [List.map_map]
  rfl
theorem rgV_eq (a b : Int) : rgV a b = ((List.range (b - a).toNat).map fun i => a + (i : Nat)).map V.int := by
  unfold rgV
  rw [List.map_map]
  rfl
theorem reps_rg {T : Tb} {F : Hp} (a b : Int) : Reps T F (rgD a (b - a).toNat) (rgV a b) := by
  rw [rgD_eq, rgV_eq]
  exact reps_int _
section
variable {X : Cx} {Y : Cy} {a b e : Expr} {f g : EM} {p pos : Pos} {m : RM}
theorem rr_2 (hm : X.mg "range" = none) (ha : PE X a (trE Y f)) (hb : PE X b (trE Y g)) (hg : Gl X "range" := by rfl) (na : starEach [a, b] X.env = (false, eval a X.env) :: starEach [b] X.env := by rfl)
    (nb : starEach [b] X.env = (false, eval b X.env) :: starEach [] X.env := by rfl) (hp : (backTo pos (starEach [b] X.env)).any (·.1) = false := by rfl) : PRg X (.Call (.Name "range" p) [a, b] [] pos) (trR Y (rg2 f g)) := by
  intro pins s σ H Q I q
  refine prg_2 hg hm ha hb na nb hp pins s σ H Q I ?_
  obtain ⟨gh, sd, own, R, S, q⟩ := q
  refine at_bind R S q fun g1 o1 x v H1 R1 S1 e1 rx q1 => ?_
  refine at_bind R1 S1 q1 fun g2 o2 y w H2 R2 S2 e2 ry q2 => ?_
  match x, y, rx, ry, q2 with
  | .d (.int i), .d (.int j), rx, ry, q2 => exact ⟨i, j, sv_int rx, sv_int ry, at_ret q2 g2 (i, j) H2 R2 .rfl' rfl⟩
theorem rgS_ok {a b : Int} (h : rgS a b = true) : RgOk a b := by
  unfold rgS at h
  have h := of_decide_eq_true h
  exact h
theorem r_tupR (hm : X.mg "tuple" = none) (he : PRg X e (trR Y m)) (hc : X.calm = true := by rfl) (hg : Gl X "tuple" := by rfl) (na : starEach [e] X.env = (false, eval e X.env) :: starEach [] X.env := by rfl) : PE X (.Call (.Name "tuple" p) [e] [] pos) (trE Y (eTupR m)) := by
  refine PE.imp (pe_tupRg hc hg hm he na) fun σ H Q q => ?_
  obtain ⟨gh, sd, own, R, S, q⟩ := q
  refine at_bind R S q fun g1 o1 x v H1 R1 S1 e1 rx q1 => ?_
  obtain rfl : x = v := rx
  obtain ⟨s, es, k⟩ := at_ask q1
  by_cases c : rgS x.1 x.2 = true
  · rw [if_pos c] at es
    cases es
    refine ⟨rgS_ok c, fun q hq => ?_⟩
    obtain ⟨R2, e2⟩ := R1.new hq (.tup (rgV x.1 x.2))
    exact k _ _ _ R2 e2 (Rep.tup (SqT.of upd_same) (reps_rg _ _))
  · rw [if_neg c] at es; cases es
end
end Gx
end T_GxD6
section T_GxD7
set_option Elab.async false
set_option linter.all false
set_option maxRecDepth 100000
set_option maxHeartbeats 4000000
namespace Gx
open PySem PySem.Spec PyProof.Rows L2
section
variable {X : Cx} {Y : Cy} {pos : Pos}
end
end Gx
end T_GxD7
section T_GxM1
set_option Elab.async false
set_option linter.all false
set_option maxRecDepth 100000
set_option maxHeartbeats 4000000
namespace Gx
open PySem

/-! ## loops and comprehensions, by typed items -/
section
variable {α : Type} {enc : α → D} {tg : GM} {t : TM} {f : EM} {p : SM} {sd sd0 : Sl} {own : Own}
theorem lc_all (pr : α → Bool) (g : α → D) : ∀ (xs : List α), (∀ x ∈ xs, ∃ sd1, tg (enc x) sd0 = some sd1 ∧ t sd1 own = some (.ok (pr x), own) ∧ (pr x = true → f sd1 own = some (.ok (.d (g x)), own))) →
    lcL tg t f sd0 (xs.map enc) own = some ((xs.filter pr).map g, own)
  | [], _ => rfl
  | x :: xs, h => by
    obtain ⟨sd1, h1, h2, h3⟩ := h x List.mem_cons_self
    have ih := lc_all pr g xs fun y hy => h y (List.mem_cons_of_mem _ hy)
    rw [List.map_cons]
    unfold lcL
    simp only [h1, h2]
    cases c : pr x with
    | true =>
      simp only [h3 c, ih, List.filter_cons, c, if_true, List.map_cons]
    | false =>
      simp only [ih, List.filter_cons, c]
      rfl
theorem e_LC {src : IM} {vs : List Nat} {xs : List α} (pr : α → Bool) (g : α → D) (hs : src sd own = some (.ok (xs.map enc), own)) (hz : xs.length < sizeLine)
    (h : ∀ x ∈ xs, ∃ sd1, tg (enc x) (wipeD sd vs) = some sd1 ∧ t sd1 own = some (.ok (pr x), own) ∧ (pr x = true → f sd1 own = some (.ok (.d (g x)), own))) :
    eLC src vs tg t f sd own = some (.ok (.d (.lst ((xs.filter pr).map g))), own) := by
  unfold eLC
  rw [s_bind_ok hs, List.length_map, if_pos hz, lc_all pr g xs h]
/-- no test -/
theorem e_LC0 {src : IM} {vs : List Nat} {xs : List α} (g : α → D) (hs : src sd own = some (.ok (xs.map enc), own)) (hz : xs.length < sizeLine)
    (h : ∀ x ∈ xs, ∃ sd1, tg (enc x) (wipeD sd vs) = some sd1 ∧ f sd1 own = some (.ok (.d (g x)), own)) :
    eLC src vs tg tTrue f sd own = some (.ok (.d (.lst (xs.map g))), own) := by
  have := e_LC (t := tTrue) (vs := vs) (f := f) (tg := tg) (fun _ => true) g hs hz fun x hx => by
    obtain ⟨sd1, h1, h2⟩ := h x hx
    exact ⟨sd1, h1, rfl, fun _ => h2⟩
  rw [List.filter_eq_self.mpr (fun _ _ => rfl)] at this
  exact this
theorem e_LCm {β : Type} {enc1 : β → D} {src : IM} {vs : List Nat} {xs : List α} (g : α → β) (hs : src sd own = some (.ok (xs.map enc), own)) (hz : xs.length < sizeLine)
    (h : ∀ x ∈ xs, ∃ sd1, tg (enc x) (wipeD sd vs) = some sd1 ∧ f sd1 own = some (.ok (.d (enc1 (g x))), own)) :
    eLC src vs tg tTrue f sd own = some (.ok (.d (.lst ((xs.map g).map enc1))), own) := by
  rw [List.map_map]
  exact e_LC0 (fun x => enc1 (g x)) hs hz h
theorem e_LCf {β : Type} {enc1 : β → D} {src : IM} {vs : List Nat} {xs : List α} (pr : α → Bool) (g : α → β) (hs : src sd own = some (.ok (xs.map enc), own)) (hz : xs.length < sizeLine)
    (h : ∀ x ∈ xs, ∃ sd1, tg (enc x) (wipeD sd vs) = some sd1 ∧ t sd1 own = some (.ok (pr x), own) ∧ (pr x = true → f sd1 own = some (.ok (.d (enc1 (g x))), own))) :
    eLC src vs tg t f sd own = some (.ok (.d (.lst (((xs.filter pr).map g).map enc1))), own) := by
  rw [List.map_map]
  exact e_LC pr (fun x => enc1 (g x)) hs hz h
theorem lc2_all {β : Type} {enc1 : β → D} {src1 : IM} {vs1 : List Nat} {tg1 : GM} {t1 : TM} (pr : α → Bool) (ys : α → List β) (pr1 : α → β → Bool) (g : α → β → D) : ∀ (xs : List α),
    (∀ x ∈ xs, ∃ sd1, tg (enc x) sd0 = some sd1 ∧ t sd1 own = some (.ok (pr x), own) ∧ (pr x = true → src1 sd1 own = some (.ok ((ys x).map enc1), own) ∧
      ∀ y ∈ ys x, ∃ sd2, tg1 (enc1 y) (wipeD sd1 vs1) = some sd2 ∧ t1 sd2 own = some (.ok (pr1 x y), own) ∧ (pr1 x y = true → f sd2 own = some (.ok (.d (g x y)), own)))) →
    lc2L tg t src1 vs1 tg1 t1 f sd0 (xs.map enc) own = some ((xs.filter pr).flatMap fun x => ((ys x).filter (pr1 x)).map (g x), own)
  | [], _ => rfl
  | x :: xs, h => by
    obtain ⟨sd1, h1, h2, h3⟩ := h x List.mem_cons_self
    have ih := lc2_all pr ys pr1 g xs fun y hy => h y (List.mem_cons_of_mem _ hy)
    rw [List.map_cons]
    unfold lc2L
    simp only [h1, h2]
    cases c : pr x with
    | true =>
      obtain ⟨h4, h5⟩ := h3 c
      simp only [h4, lc_all (pr1 x) (g x) (ys x) h5, ih, List.filter_cons, c, if_true, List.flatMap_cons]
    | false =>
      simp only [ih, List.filter_cons, c]
      rfl
theorem e_LC2 {β : Type} {enc1 : β → D} {src src1 : IM} {vs vs1 : List Nat} {tg1 : GM} {t1 : TM} {xs : List α} (pr : α → Bool) (ys : α → List β) (pr1 : α → β → Bool) (g : α → β → D) (hs : src sd own = some (.ok (xs.map enc), own))
    (h : ∀ x ∈ xs, ∃ sd1, tg (enc x) (wipeD sd vs) = some sd1 ∧ t sd1 own = some (.ok (pr x), own) ∧ (pr x = true → src1 sd1 own = some (.ok ((ys x).map enc1), own) ∧
      ∀ y ∈ ys x, ∃ sd2, tg1 (enc1 y) (wipeD sd1 vs1) = some sd2 ∧ t1 sd2 own = some (.ok (pr1 x y), own) ∧ (pr1 x y = true → f sd2 own = some (.ok (.d (g x y)), own))))
    (hz : ((xs.filter pr).flatMap fun x => ((ys x).filter (pr1 x)).map (g x)).length < sizeLine) :
    eLC2 src vs tg t src1 vs1 tg1 t1 f sd own = some (.ok (.d (.lst ((xs.filter pr).flatMap fun x => ((ys x).filter (pr1 x)).map (g x)))), own) := by
  unfold eLC2
  rw [s_bind_ok hs, lc2_all pr ys pr1 g xs h]
  simp only
  rw [if_pos hz]
theorem for_pre' (J : List α → Sl → Own → Prop) : ∀ (xs : List α) (pre0 : List α) (sd : Sl) (own : Own), J pre0 sd own →
    (∀ pre x post sd own, pre0 ++ xs = pre ++ x :: post → J pre sd own → ∃ sd1, tg (enc x) sd = some sd1 ∧ ∃ sd2 own2, (p sd1 own = some (.nx sd2 own2) ∨ p sd1 own = some (.ct sd2 own2)) ∧ J (pre ++ [x]) sd2 own2) →
    ∃ sd2 own2, forL tg p (xs.map enc) sd own = some (.nx sd2 own2) ∧ J (pre0 ++ xs) sd2 own2
  | [], pre0, sd, own, h, _ => ⟨sd, own, rfl, by rw [List.append_nil]; exact h⟩
  | x :: xs, pre0, sd, own, h, st => by
    obtain ⟨sd1, e1, sd2, own2, e2, h2⟩ := st pre0 x xs sd own rfl h
    obtain ⟨sd3, own3, e3, h3⟩ := for_pre' J xs (pre0 ++ [x]) sd2 own2 h2 fun pre y post sd own e => st pre y post sd own (by rw [← e]; simp)
    refine ⟨sd3, own3, ?_, by rw [List.append_assoc] at h3; exact h3⟩
    rw [List.map_cons, forL_1, e1]
    rcases e2 with e2 | e2 <;> simp only [e2] <;> exact e3
/-- a loop, by what it has walked -/
theorem for_pre (J : List α → Sl → Own → Prop) (xs : List α) (sd : Sl) (own : Own) (h : J [] sd own)
    (st : ∀ pre x post sd own, xs = pre ++ x :: post → J pre sd own → ∃ sd1, tg (enc x) sd = some sd1 ∧ ∃ sd2 own2, (p sd1 own = some (.nx sd2 own2) ∨ p sd1 own = some (.ct sd2 own2)) ∧ J (pre ++ [x]) sd2 own2) :
    ∃ sd2 own2, forL tg p (xs.map enc) sd own = some (.nx sd2 own2) ∧ J xs sd2 own2 := for_pre' J xs [] sd own h st
def isEnd : Fl → Bool
  | .rt _ _ => true
  | .ex _ _ _ _ => true
  | _ => false
theorem for_exit' (J : List α → Sl → Own → Prop) (K : List α → α → Fl → Prop) : ∀ (xs : List α) (pre0 : List α) (sd : Sl) (own : Own), J pre0 sd own →
    (∀ pre x post sd own, pre0 ++ xs = pre ++ x :: post → J pre sd own → ∃ sd1, tg (enc x) sd = some sd1 ∧ ((∃ sd2 own2, (p sd1 own = some (.nx sd2 own2) ∨ p sd1 own = some (.ct sd2 own2)) ∧ J (pre ++ [x]) sd2 own2) ∨ ∃ r, p sd1 own = some r ∧ isEnd r = true ∧ K pre x r)) →
    (∃ sd2 own2, forL tg p (xs.map enc) sd own = some (.nx sd2 own2) ∧ J (pre0 ++ xs) sd2 own2) ∨ ∃ pre x post r, pre0 ++ xs = pre ++ x :: post ∧ forL tg p (xs.map enc) sd own = some r ∧ K pre x r
  | [], pre0, sd, own, h, _ => .inl ⟨sd, own, rfl, by rw [List.append_nil]; exact h⟩
  | x :: xs, pre0, sd, own, h, st => by
    obtain ⟨sd1, e1, e2⟩ := st pre0 x xs sd own rfl h
    rcases e2 with ⟨sd2, own2, e2, h2⟩ | ⟨r, e2, en, k⟩
    · have e : forL tg p ((x :: xs).map enc) sd own = forL tg p (xs.map enc) sd2 own2 := by
        rw [List.map_cons, forL_1, e1]
        rcases e2 with e2 | e2 <;> simp only [e2]
      rw [e]
      rcases for_exit' J K xs (pre0 ++ [x]) sd2 own2 h2 fun pre y post sd own e => st pre y post sd own (by rw [← e]; simp) with ⟨sd3, own3, e3, h3⟩ | ⟨pre, y, post, r, e3, e4, k⟩
      · exact .inl ⟨sd3, own3, e3, by rw [List.append_assoc] at h3; exact h3⟩
      · exact .inr ⟨pre, y, post, r, by rw [← e3]; simp, e4, k⟩
    · refine .inr ⟨pre0, x, xs, r, rfl, ?_, k⟩
      rw [List.map_cons, forL_1, e1]
      cases r with
      | rt s o => simp only [e2]
      | ex k fs sd o => simp only [e2]
      | nx sd o => cases en
      | bk sd o => cases en
      | ct sd o => cases en
/-- a loop that may be left, by what it has walked -/
theorem for_exit (J : List α → Sl → Own → Prop) (K : List α → α → Fl → Prop) (xs : List α) (sd : Sl) (own : Own) (h : J [] sd own)
    (st : ∀ pre x post sd own, xs = pre ++ x :: post → J pre sd own → ∃ sd1, tg (enc x) sd = some sd1 ∧ ((∃ sd2 own2, (p sd1 own = some (.nx sd2 own2) ∨ p sd1 own = some (.ct sd2 own2)) ∧ J (pre ++ [x]) sd2 own2) ∨ ∃ r, p sd1 own = some r ∧ isEnd r = true ∧ K pre x r)) :
    (∃ sd2 own2, forL tg p (xs.map enc) sd own = some (.nx sd2 own2) ∧ J xs sd2 own2) ∨ ∃ pre x post r, xs = pre ++ x :: post ∧ forL tg p (xs.map enc) sd own = some r ∧ K pre x r := for_exit' J K xs [] sd own h st
/-- a loop that may be left: by a result or an exception -/
def runE {σ ρ : Type} (step : σ → α → σ ⊕ ρ) : List α → σ → σ ⊕ ρ
  | [], s => .inl s
  | x :: xs, s => match step s x with
    | .inl s' => runE step xs s'
    | .inr r => .inr r
end
/-! ## defs -/
section
variable {N n : Nat} {b : SM} {xs : List SV} {own o1 : Own} {s : SV} {Ff : FM} {ds : List D} {z : D}
theorem run_rt (h : b (startD N xs) own = some (.rt s o1)) : runDef N b xs own = some (.ok s, o1) := by unfold runDef; rw [h]
theorem run_nx {sd : Sl} (h : b (startD N xs) own = some (.nx sd o1)) : runDef N b xs own = some (.ok (.d .non), o1) := by unfold runDef; rw [h]
theorem cD (hd : dats xs = some ds) (hl : xs.length = n) (h : Ff xs [] = some (.ok (.d z), o1)) (sd : Sl) (own : Own) : callD n Ff xs sd own = some (.ok (.d z), own) := by
  unfold callD
  rw [if_neg (fun z => z hl)]
  simp [hd, h, resD]
theorem cDh (hd : dats xs = some ds) (hl : xs.length = n) {k : Nat} {o : O} (h : Ff xs [] = some (.ok (.h k), o1)) (hk : o1[k]? = some o) (hz : frzO o = some z) (sd : Sl) (own : Own) : callD n Ff xs sd own = some (.ok (.d z), own) := by
  unfold callD
  rw [if_neg (fun z => z hl)]
  simp [hd, h, resD, hk, hz]
end
/-! ## data made of ints -/
def tI (l : List Int) : D := .tup (l.map D.int)
def lI (l : List Int) : D := .lst (l.map D.int)
def tT (l : List (List Int)) : D := .tup (l.map tI)
theorem ok_ints (n : Nat) : ∀ l : List Int, (l.map D.int).all (okN n) = true
  | [] => rfl
  | i :: l => by rw [List.map_cons, List.all_cons, ok_ints n l]; cases n <;> rfl
theorem ok_tI (n : Nat) (l : List Int) : okN (n + 1) (tI l) = true := ok_ints n l
theorem ok_map {α : Type} {n : Nat} {enc : α → D} (h : ∀ x, okN n (enc x) = true) : ∀ l : List α, (l.map enc).all (okN n) = true
  | [] => rfl
  | x :: l => by rw [List.map_cons, List.all_cons, ok_map h l, h x]; rfl
theorem ok_tT (n : Nat) (l : List (List Int)) : okN (n + 2) (tT l) = true := ok_map (ok_tI n) l
theorem eq_all {α : Type} [DecidableEq α] {n : Nat} {enc : α → D} (h : ∀ x y, eqN n (enc x) (enc y) = decide (x = y)) : ∀ l m : List α, eqAll (eqN n) (l.map enc) (m.map enc) = decide (l = m)
  | [], [] => rfl
  | [], _ :: _ => rfl
  | _ :: _, [] => rfl
  | x :: l, y :: m => by
    show (eqN n (enc x) (enc y) && eqAll (eqN n) (l.map enc) (m.map enc)) = _
    rw [h, eq_all h l m, ← Bool.decide_and]
    simp
theorem eq_int (n : Nat) (i j : Int) : eqN n (.int i) (.int j) = decide (i = j) := by
  have : eqN n (.int i) (.int j) = (i == j) := by cases n <;> rfl
  rw [this]
  by_cases c : i = j
  · subst c; simp
  · simp [c]
theorem eq_tI (n : Nat) (l m : List Int) : eqN (n + 1) (tI l) (tI m) = decide (l = m) := eq_all (enc := D.int) (eq_int n) l m
theorem eq_lI (n : Nat) (l m : List Int) : eqN (n + 1) (lI l) (lI m) = decide (l = m) := eq_all (enc := D.int) (eq_int n) l m
theorem any_eq {α : Type} [BEq α] [LawfulBEq α] {n : Nat} {enc : α → D} (h : ∀ x y, eqN n (enc x) (enc y) = true ↔ x = y) (x : α) : ∀ l : List α, ((l.map enc).any fun z => eqN n z (enc x)) = decide (x ∈ l)
  | [] => rfl
  | y :: l => by
    rw [List.map_cons, List.any_cons, any_eq h x l]
    by_cases c : y = x
    · rw [(h y x).mpr c]
      subst c
      simp
    · have c2 : ¬ x = y := fun z => c z.symm
      have : eqN n (enc y) (enc x) = false := by rw [← Bool.not_eq_true]; exact fun z => c ((h y x).mp z)
      rw [this]
      simp [c2]
theorem iff_of {a : Bool} {p : Prop} [Decidable p] (h : a = decide p) : a = true ↔ p := by rw [h]; exact decide_eq_true_iff
theorem qI (n : Nat) (x y : Int) : eqN n (.int x) (.int y) = true ↔ x = y := iff_of (eq_int n x y)
theorem qT (n : Nat) (x y : List Int) : eqN (n + 1) (tI x) (tI y) = true ↔ x = y := iff_of (eq_tI n x y)
theorem in_tI {own : Own} {c : Int} {l : List Int} {neg : Bool} : mIn neg own (.d (.int c)) (.d (tI l)) = some (.bl (decide (c ∈ l) != neg)) := by
  have e := in_tup (own := own) (d := .int c) (xs := l.map D.int) (neg := neg) rfl (ok_ints 59 l)
  rw [any_eq (enc := D.int) (qI 60) c l] at e
  exact e
theorem in_lI {own : Own} {c : Int} {l : List Int} {neg : Bool} : mIn neg own (.d (.int c)) (.d (lI l)) = some (.bl (decide (c ∈ l) != neg)) := by
  have e := in_lst (own := own) (d := .int c) (xs := l.map D.int) (neg := neg) rfl (ok_ints 59 l)
  rw [any_eq (enc := D.int) (qI 60) c l] at e
  exact e
/-! ### the order of lists of ints -/
theorem lex_U : ∀ a b : List Int, lexI ((a.flatMap fun i => [1, i]) ++ [0]) ((b.flatMap fun i => [1, i]) ++ [0]) = lexI a b
  | [], [] => rfl
  | [], j :: b => by
    show lexI [0] (1 :: j :: ((b.flatMap fun i => [1, i]) ++ [0])) = true
    rfl
  | i :: a, [] => by
    show lexI (1 :: i :: ((a.flatMap fun i => [1, i]) ++ [0])) [0] = false
    rfl
  | i :: a, j :: b => by
    show lexI (1 :: i :: ((a.flatMap fun i => [1, i]) ++ [0])) (1 :: j :: ((b.flatMap fun i => [1, i]) ++ [0])) = (if i = j then lexI a b else decide (i < j))
    have e : ∀ u v : List Int, lexI (1 :: i :: u) (1 :: j :: v) = (if i = j then lexI u v else decide (i < j)) := fun u v => by
      show (if (1 : Int) = 1 then (if i = j then lexI u v else decide (i < j)) else decide ((1 : Int) < 1)) = _
      rw [if_pos rfl]
    rw [e, lex_U a b]
theorem enc_tI (l : List Int) : encS (.U .I) (tI l) = (l.flatMap fun i => [1, i]) ++ [0] := by
  show ((l.map D.int).flatMap fun x => 1 :: encS .I x) ++ [0] = _
  rw [List.flatMap_map]
  rfl
theorem lt_tI (a b : List Int) : ltS (.U .I) (tI a) (tI b) = lexI a b := by
  unfold ltS
  rw [enc_tI, enc_tI, lex_U]
theorem shp_ints : ∀ l : List Int, (l.map D.int).all (shp .I) = true
  | [] => rfl
  | i :: l => by rw [List.map_cons, List.all_cons, shp_ints l]; rfl
theorem shp_tI (l : List Int) : shp (.U .I) (tI l) = true := shp_ints l
theorem shp_tIs (l : List (List Int)) : (l.map tI).all (shp (.U .I)) = true := by
  rw [List.all_map, List.all_eq_true]
  exact fun x _ => shp_tI x
theorem shp_tT (l : List (List Int)) : shp (.U (.U .I)) (tT l) = true := shp_tIs l
/-- sorted of tuples of ints -/
theorem sort_tI (l : List (List Int)) : srt (ltS (.U .I)) (l.map tI) = (srt lexI l).map tI := by
  have e : (fun a b : List Int => ltS (.U .I) (tI a) (tI b)) = lexI := by funext a b; exact lt_tI a b
  rw [← e, srt_map (lt := ltS (.U .I)) tI l]
theorem swo_lex : SrtO.Swo lexI := swo_lexI id
theorem full_tI {l : List Int} (h : l ≠ []) : full (tI l) = true := by
  cases l with
  | nil => exact absurd rfl h
  | cons => rfl
theorem o_sortI {own : Own} (l : List Int) : mSortI own (.d (lI l)) = some (lI (isort l)) := by
  show ((some (l.map D.int)).bind fun ds => (intsD ds).map fun is => D.lst ((isort is).map D.int)) = _
  rw [Option.bind_some, intsD_of]
  rfl
theorem o_sortUI {own : Own} {l : List (List Int)} (h : ∀ x ∈ l, x ≠ []) : mSortT (.U .I) own (.d (.lst (l.map tI))) = some (.lst ((srt lexI l).map tI)) := by
  show ((some (l.map tI)).bind fun ds => if (ds.all (shp (.U .I)) && ds.all full) = true then some (D.lst (srt (ltS (.U .I)) ds)) else none) = _
  have h2 : (l.map tI).all full = true := by
    rw [List.all_map, List.all_eq_true]
    exact fun x hx => full_tI (h x hx)
  rw [Option.bind_some, shp_tIs, h2, sort_tI]
  rfl
end Gx
end T_GxM1
section T_GxD8
set_option Elab.async false
set_option linter.all false
set_option maxRecDepth 100000
set_option maxHeartbeats 4000000
namespace Gx
open PySem PySem.Spec PyProof.Rows L2

/-! ## a dict of lists of one's own: d.setdefault(k, []).append(v) -/
def getKS (k : Key) : List D → List SV → Option SV
  | x :: ks, s :: ss => if keyOf x = some k then some s else getKS k ks ss
  | _, _ => none
theorem getKS_rel {T : Tb} {g : Gh} {n : Nat} {k : Key} : ∀ {kvs : List (Key × V)} {ss : List SV}, RSs T g n ss (kvs.map (·.2)) →
    (∀ s, getKS k (kvs.map fun p => keyD p.1) ss = some s → ∃ v, valV kvs k = some v ∧ RS T g n s v) ∧ (getKS k (kvs.map fun p => keyD p.1) ss = none → valV kvs k = none) := by
  intro kvs
  induction kvs with
  | nil => intro ss r; cases r; exact ⟨fun d h => (nomatch h), fun _ => rfl⟩
  | cons p r ih =>
    intro ss rr
    cases rr with
    | @cons s v ss vs h t =>
      obtain ⟨i1, i2⟩ := ih t
      have hd : getKS k (List.map (fun p => keyD p.1) (p :: r)) (s :: ss) = if p.1 = k then some s else getKS k (r.map fun p => keyD p.1) ss := by
        show (if keyOf (keyD p.1) = some k then some s else _) = _
        rw [keyOf_keyD]
        by_cases e : p.1 = k
        · rw [if_pos (by rw [e]), if_pos e]
        · rw [if_neg (fun z => e (Option.some.inj z)), if_neg e]
      rw [hd]
      by_cases e : p.1 = k
      · rw [if_pos e, valV_pos e]
        exact ⟨fun s' hs => ⟨p.2, rfl, by cases hs; exact h⟩, fun z => nomatch z⟩
      · rw [if_neg e, valV_neg e]
        exact ⟨i1, i2⟩
def dihV (own : Own) (k : Nat) : Option (List D × List SV) := match own[k]? with
  | some (.dih ks ss) => some (ks, ss)
  | some (.dic [] []) => some ([], [])
  | _ => none
theorem dih_of {T : Tb} {B : Hp} {g : Gh} {own : Own} {H : Hp} (R : HRel T B g own H) {k : Nat} {ks : List D} {ss : List SV} (h : dihV own k = some (ks, ss)) :
    ∃ kvs : List (Key × V), H (g.ρ k) = some (.dK kvs) ∧ ks = kvs.map (fun p => keyD p.1) ∧ RSs T g own.length ss (kvs.map (·.2)) ∧ ∃ o, own[k]? = some o ∧ o.live = true := by
  unfold dihV at h
  cases eo : own[k]? with
  | none => rw [eo] at h; cases h
  | some o =>
    rw [eo] at h
    cases o with
    | dih k1 s1 =>
      cases h
      obtain ⟨kvs, h1, h2, h3⟩ := R.o k _ eo
      exact ⟨kvs, h1, h2, h3, _, rfl, rfl⟩
    | dic k1 s1 =>
      cases k1 with
      | cons => cases h
      | nil =>
        cases s1 with
        | cons => cases h
        | nil =>
          cases h
          obtain ⟨kvs, h1, h2, h3⟩ := R.o k _ eo
          cases kvs with
          | cons => cases h2
          | nil => exact ⟨[], h1, rfl, .nil, _, rfl, rfl⟩
    | _ => cases h
def dihS (own : Own) : SV → Option (List D × List SV)
  | .h k => dihV own k
  | _ => none
def setdV (own : Own) (k : Nat) (c : D) (z : SV) : Option (SV × Own) := (dihV own k).bind fun p => (keyOf c).bind fun kk => if p.1.length < sizeLine then (match getKS kk p.1 p.2 with
  | some s => some (s, own)
  | none => some (z, own.set k (.dih (p.1 ++ [keyD kk]) (p.2 ++ [z])))) else none
def eSetd (fo fk fz : EM) : EM := fo.bind fun x => (M.ask fun own => dihS own x).bind fun _ => fk.bind fun y => fz.bind fun z => fun _ own => match x, y with
  | .h k, .d c => (setdV own k c z).map fun p => (.ok p.1, p.2)
  | _, _ => none
section
variable {X : Cx} {Y : Cy} {apos cpos pos : Pos} {o e a : Expr} {fo fk fz f : EM}
theorem r_setd (ho : PE X o (trE Y fo)) (hk : PE X e (trE Y fk)) (hz : PE X a (trE Y fz)) (m : M2 X o "setdefault" apos e a cpos := by exact ⟨rfl, rfl, rfl, rfl⟩) :
    PE X (.Call (.Attribute o "setdefault" apos) [e, a] [] cpos) (trE Y (eSetd fo fk fz)) := by
  refine PE.imp (pe_dsetd ho hk hz m) fun σ H Q q => ?_
  obtain ⟨gh, sd, own, R, S, q⟩ := q
  refine at_bind R S q fun g1 o1 x v H1 R1 S1 e1 rx q1 => ?_
  obtain ⟨p0, ep, q1⟩ := ask_at q1
  cases x with
  | d x => cases ep
  | h k =>
    obtain ⟨ks0, ss0⟩ := p0
    obtain ⟨kvs0, h0, _⟩ := dih_of R1 ep
    have hv := rx.2
    subst hv
    refine ⟨_, rfl, .inl ⟨kvs0, .inl h0⟩, ?_⟩
    refine at_bind R1 S1 q1 fun g2 o2 y w H2 R2 S2 e2 ry q2 => ?_
    refine at_bind R2 S2 q2 fun g3 o3 z u H3 R3 S3 e3 rz q3 => ?_
    obtain ⟨r, own', e4, kq⟩ := q3
    cases y with
    | h j => cases e4
    | d c =>
      obtain ⟨p, e5, e6⟩ := Option.map_eq_some_iff.mp e4
      cases e6
      obtain ⟨⟨ks, ss⟩, d1, d2⟩ := Option.bind_eq_some_iff.mp e5
      obtain ⟨kk, d3, d4⟩ := Option.bind_eq_some_iff.mp d2
      have ek : g3.ρ k = g1.ρ k := by rw [e3.ρ k (Nat.lt_of_lt_of_le rx.1 e2.le), e2.ρ k rx.1]
      have ew := keyOf_rel d3 (show Rep Y.T g2.F c w from ry)
      obtain ⟨kvs, h1, h2, h3, ob, eo, hl⟩ := dih_of R3 d1
      simp only at d4
      by_cases cz : ks.length < sizeLine
      case neg => rw [if_neg cz] at d4; cases d4
      rw [if_pos cz] at d4
      subst h2
      obtain ⟨i1, i2⟩ := getKS_rel (k := kk) h3
      rw [ek] at h1
      refine ⟨kvs, kk, h1, ew, by rw [List.length_map] at cz; exact cz, fun v' hv' => ?_, fun hn => ?_⟩
      · cases eg : getKS kk (kvs.map fun p => keyD p.1) ss with
        | none => rw [i2 eg] at hv'; cases hv'
        | some s =>
          simp only [eg] at d4
          cases d4
          obtain ⟨v2, hv2, rv2⟩ := i1 s eg
          rw [hv'] at hv2
          cases hv2
          exact kq g3 _ H3 R3 .rfl' rv2
      · cases eg : getKS kk (kvs.map fun p => keyD p.1) ss with
        | some s =>
          obtain ⟨v2, hv2, _⟩ := i1 s eg
          rw [hn] at hv2
          cases hv2
        | none =>
          simp only [eg] at d4
          cases d4
          have hput : putK kvs kk u = kvs ++ [(kk, u)] := by
            unfold putK
            rw [valV_any, hn]
            rfl
          have R4 := R3.put (ho := .dK (putK kvs kk u)) (o' := .dih ((kvs.map fun p => keyD p.1) ++ [keyD kk]) (ss ++ [z])) eo hl ⟨_, upd_same, by rw [hput]; simp, by rw [hput, List.map_append]; exact h3.snoc rz⟩
          rw [ek] at R4
          exact kq g3 u _ R4 (by rw [List.length_set]; exact .rfl') (by rw [List.length_set]; exact rz)
end
/-- all lists of a dict of lists are frozen -/
def frzAll : List SV → Own → Option (List D × Own)
  | [], own => some ([], own)
  | .d x :: r, own => (frzAll r own).map fun p => (x :: p.1, p.2)
  | .h j :: r, own => match own[j]? with
    | some (.lst xs) => (frzAll r (own.set j .dead)).map fun p => (.lst xs :: p.1, p.2)
    | _ => none
theorem frzAll_rel {T : Tb} {B : Hp} {H : Hp} : ∀ (ss : List SV) (ws : List V) (g : Gh) (own : Own) (ds : List D) (own2 : Own), HRel T B g own H → RSs T g own.length ss ws → frzAll ss own = some (ds, own2) →
    ∃ g2, HRel T B g2 own2 H ∧ GExt B g own.length g2 own2.length ∧ Reps T g2.F ds ws ∧ own2.length = own.length ∧ g2.ρ = g.ρ ∧ ∀ (k : Nat) (o : O), own[k]? = some o → (∀ xs, o ≠ .lst xs) → own2[k]? = some o := by
  intro ss
  induction ss with
  | nil =>
    intro ws g own ds own2 R r e
    cases r
    cases e
    exact ⟨g, R, .rfl', .nil, rfl, rfl, fun k o h _ => h⟩
  | cons s r ih =>
    intro ws g own ds own2 R rs e
    cases rs with
    | @cons _ v _ vs h t =>
      cases s with
      | d x =>
        obtain ⟨⟨es, o3⟩, e1, e2⟩ := Option.map_eq_some_iff.mp e
        cases e2
        obtain ⟨g2, R2, x2, r2, l2, p2, k2⟩ := ih vs g own es o3 R t e1
        exact ⟨g2, R2, x2, .cons (Rep.le x2.F h) r2, l2, p2, k2⟩
      | h j =>
        unfold frzAll at e
        cases eo : own[j]? with
        | none => simp only [eo] at e; cases e
        | some ob =>
          cases ob with
          | lst xs =>
            simp only [eo] at e
            obtain ⟨⟨es, o3⟩, e1, e2⟩ := Option.map_eq_some_iff.mp e
            cases e2
            obtain ⟨vs1, h1, h2⟩ := R.o j _ eo
            obtain ⟨R1, x1⟩ := R.freeze eo rfl h1
            have hl : (own.set j .dead).length = own.length := by simp
            have t1 : RSs T ⟨L2.upd g.F (g.ρ j) (.lst vs1), g.ρ⟩ (own.set j .dead).length r vs := t.ext x1
            obtain ⟨g2, R2, x2, r2, l2, p2, k2⟩ := ih vs _ _ es o3 R1 t1 e1
            have hv := h.2
            subst hv
            refine ⟨g2, R2, x1.trans x2, .cons (Rep.le x2.F (.lst upd_same (h2.le x1.F))) r2, by rw [l2, hl], p2, fun k o ho hne => k2 k o ?_ hne⟩
            by_cases c : j = k
            · subst c
              rw [eo] at ho
              cases ho
              exact absurd rfl (hne xs)
            · rw [List.getElem?_set_ne c]; exact ho
          | _ => simp only [eo] at e; cases e
/-- a ghost's step: the dict of lists in slot i is frozen, locked for good -/
def sFrzD (i : Nat) (p : SM) : SM := fun sd own => match sd[i]? with
  | some (some (.h k)) => match own[k]? with
    | some (.dih ks ss) => (frzAll ss own).bind fun q => p (sd.set i (some (.d (.dic (.ty 5 :: ks) q.1)))) (q.2.set k .dead)
    | some (.dic ks xs) => p (sd.set i (some (.d (.dic (.ty 5 :: ks) xs)))) (own.set k .dead)
    | _ => none
  | _ => none
section
variable {X : Cx} {Y : Cy} {l : List Stmt} {p : SM}
theorem rss_frzD (i : Nat) (h : PSs X l (trS Y p)) : PSs X l (trS Y (sFrzD i p)) := PSs.imp (pss_froz h) fun D σ H q => by
  obtain ⟨gh, sd, own, R, S, r, e, k⟩ := q
  unfold sFrzD at e
  cases e0 : sd[i]? with
  | none => rw [e0] at e; cases e
  | some o =>
    rw [e0] at e
    cases o with
    | none => cases e
    | some s =>
      cases s with
      | d x => cases e
      | h kk =>
        obtain ⟨v, ev, rv⟩ := S.2 i _ e0
        have hv := rv.2
        subst hv
        cases eo : own[kk]? with
        | none => simp only [eo] at e; cases e
        | some ob =>
          cases ob with
          | dih ks ss =>
            simp only [eo] at e
            obtain ⟨⟨ds, own2⟩, ef, e⟩ := Option.bind_eq_some_iff.mp e
            obtain ⟨kvs0, h1, h2, h3⟩ := R.o kk _ eo
            obtain ⟨g2, R2, x2, r2, l2, p2, k2⟩ := frzAll_rel ss _ gh own ds own2 R h3 ef
            have eo2 := k2 kk _ eo (fun xs z => nomatch z)
            have hk : g2.ρ kk = gh.ρ kk := by rw [p2]
            refine .inr ⟨gh.ρ kk, .dK kvs0, h1, trivial, fun od => ?_⟩
            obtain ⟨R3, e3⟩ := R2.freezeL eo2 rfl (.frz od (.dK kvs0))
            rw [hk] at R3 e3
            have S2 := ((S.ext x2).ext e3).set (i := i) (sv := .d (.dic (.ty 5 :: ks) ds)) (v := .ref (gh.ρ kk)) (Rep.ldic upd_same h2 (r2.le e3.F))
            rw [set_same ev] at S2
            exact ⟨_, _, _, R3, S2, r, e, k.shift (x2.trans e3)⟩
          | dic ks xs =>
            simp only [eo] at e
            obtain ⟨kvs, h1, h2, h3⟩ := R.o kk _ eo
            refine .inr ⟨gh.ρ kk, .dK kvs, h1, trivial, fun od => ?_⟩
            obtain ⟨R2, e2⟩ := R.freezeL eo rfl (.frz od (.dK kvs))
            have S2 := (S.ext e2).set (i := i) (sv := .d (.dic (.ty 5 :: ks) xs)) (v := .ref (gh.ρ kk)) (Rep.ldic upd_same h2 (h3.le e2.F))
            rw [set_same ev] at S2
            exact ⟨_, _, _, R2, S2, r, e, k.shift e2⟩
          | _ => simp only [eo] at e; cases e
end

/-! ## the walk of a locked dict -/
def iVal (f : EM) : IM := f.bind fun x => match x with
  | .d (.dic (.ty 5 :: _) xs) => M.ret xs
  | _ => M.fail
def pairD : List D → List D → List D
  | k :: ks, x :: xs => .tup [k, x] :: pairD ks xs
  | _, _ => []
def iItm (f : EM) : IM := f.bind fun x => match x with
  | .d (.dic (.ty 5 :: ks) xs) => M.ret (pairD ks xs)
  | _ => M.fail
section
variable {X : Cx} {Y : Cy} {apos cpos tpos : Pos} {tg e : Expr} {f : EM} {elts : List Expr} {kk : Nat}
theorem ldic_of {T : Tb} {F : Hp} {ks xs : List D} {v : V} (r : Rep T F (.dic (.ty 5 :: ks) xs) v) : ∃ (a : Addr) (od : Obj) (kvs : List (Key × V)), v = .ref a ∧ F a = some (.frz od (.dK kvs)) ∧ ks = kvs.map (fun p => keyD p.1) ∧ Reps T F xs (kvs.map (·.2)) := by
  cases r with
  | @dic a kvs _ _ h1 h2 h3 =>
    cases kvs with
    | nil => cases h2
    | cons p t =>
      obtain ⟨k, v⟩ := p
      cases k <;> cases h2
  | ldic h1 h2 h3 => exact ⟨_, _, _, rfl, h1, h2, h3⟩
theorem ri_values (h : PE X e (trE Y f)) (hbase : attributeBase e "values" X.env (eval e X.env) = eval e X.env := by rfl) (hline : (apos.endLine == cpos.line) = true := by rfl) : PI X tg (.Call (.Attribute e "values" apos) [] [] cpos) (trI Y (iVal f)) := by
  refine PI.imp (pi_values h hbase hline) fun σ H Q q => ?_
  obtain ⟨gh, sd, own, R, S, q⟩ := q
  refine at_bind R S q fun g1 o1 x v H1 R1 S1 e1 rx q1 => ?_
  match x, rx, q1 with
  | .d (.dic (.ty 5 :: ks) xs), rx, q1 =>
    have rx : Rep Y.T g1.F (.dic (.ty 5 :: ks) xs) v := rx
    have k := at_ret q1
    obtain ⟨a, od, kvs, rfl, h1, h2, h3⟩ := ldic_of rx
    have hl : xs.length = kvs.length := by rw [h3.length, List.length_map]
    refine ⟨a, od, kvs, rfl, R1.f _ _ h1, k g1 _ H1 R1 .rfl' ⟨fun _ i g own H R l hi => ⟨R.f _ _ (l _ _ h1), by omega⟩, fun _ i g own H R l hi => ⟨R.f _ _ (l _ _ h1), by omega⟩, fun _ i g own H x H2 d R l y hd => ?_⟩⟩
    obtain ⟨rfl, kx, hx⟩ := y
    obtain ⟨w, hw, rw'⟩ := h3.get hd
    rw [List.getElem?_map, hx] at hw
    cases hw
    exact ⟨g, R, .rfl', Rep.le l rw'⟩
theorem rep_key {T : Tb} {F : Hp} (k : Key) : Rep T F (keyD k) (kV k) := by
  cases k with
  | inl i => exact .int i
  | inr x => exact .str x
end
end Gx
end T_GxD8
section T_GxD9
set_option Elab.async false
set_option linter.all false
set_option maxRecDepth 100000
set_option maxHeartbeats 4000000
namespace Gx
open PySem PySem.Spec PyProof.Rows L2
open PySem.W (iter_listW moved_old argBest_fold)

/-! ## min of a list of tuples -/
def minS (s : Sh) (d : D) (ds : List D) : D := ds.foldl (fun a y => if ltS s y a = true then y else a) d
def rMinT (T : Tb) (s : Sh) : List V → Hp → VK → Prop := fun vs H Q => ∃ (a : Addr) (xs : List V) (d : D) (ds : List D) (F : Hp), vs = [V.ref a] ∧ SqL T.K H a xs ∧ Le F H ∧ Reps T F (d :: ds) xs ∧ (d :: ds).all (shp s) = true ∧
  ∀ v, Rep T F (minS s d ds) v → Q v H
section
variable {X : Cx} {T : Tb}
end
def mMinT (s : Sh) : Own → SV → Option D := fun own x => (lstV own x).bind fun ds => match ds with
  | [] => none
  | d :: r => if (d :: r).all (shp s) = true then some (minS s d r) else none
end Gx
end T_GxD9
section T_GxW1
set_option Elab.async false
set_option linter.all false
set_option maxRecDepth 100000
set_option maxHeartbeats 4000000
namespace Gx
open PySem PySem.Spec PyProof.Rows L2

/-! ## calls that take all objects of ours with them -/
def callW (n : Nat) (Ff : FM) (xs : List SV) : EM := fun _ own => if xs.length = n then Ff xs own else none
def eCallW (n : Nat) (Ff : FM) (a : AM) : EM := a.bind fun xs => callW n Ff xs
theorem call_W {T : Tb} {B : Hp} {Ek : L2.St → XK} {Ff : FM} {n : Nat} {g1 : Gh} {sd : Sl} {own : Own} {σ : L2.St} {H : Hp} {Q : VK} {xs : List SV} {vs : List V} (R : HRel T B g1 own H) (rs : RSs T g1 own.length xs vs)
    (q : At ⟨T, B, Ek⟩ (RS T) g1 sd own σ Q (callW n Ff xs)) : spF T n Ff vs H Q (Ek σ) := by
  obtain ⟨r, own', e, k⟩ := q
  unfold callW at e
  by_cases hl : xs.length = n
  · rw [if_pos hl] at e
    refine ⟨B, g1, own, xs, R, rs, hl, r, own', e, ?_⟩
    cases r with
    | ok s => exact k
    | ex c fs => exact k
  · rw [if_neg hl] at e; cases e
section
variable {X : Cx} {Y : Cy} {k j n : Nat} {x : Str} {Ff : FM} {p pos : Pos} {a : Expr} {es : List Expr} {al : AM}
end

/-! ### an instance of ours -/
def insV (c : Nat) (own : Own) : SV → Option Unit
  | .h k => match own[k]? with
    | some (.ins c' _) => if c' = c then some () else none
    | _ => none
  | _ => none
theorem ins_of {T : Tb} {B : Hp} {g : Gh} {own : Own} {H : Hp} {c : Nat} {s : SV} {v : V} (R : HRel T B g own H) (r : RS T g own.length s v) (h : insV c own s = some ()) : ∃ a dx ws, v = .ref a ∧ H a = some (.ins (T.ct c) dx ((flds c).zip ws)) := by
  cases s with
  | d x => cases h
  | h k =>
    have h : (match own[k]? with | some (.ins c' _) => if c' = c then some () else none | _ => none) = some () := h
    cases eo : own[k]? with
    | none => rw [eo] at h; cases h
    | some o =>
      rw [eo] at h
      cases o with
      | ins c' svs =>
        by_cases hc : c' = c
        · subst hc
          obtain ⟨dx, ws, h1, _⟩ := R.o k _ eo
          exact ⟨_, dx, ws, r.2, h1⟩
        · simp only [if_neg hc] at h; cases h
      | _ => cases h
/-- o.m(..), o an instance of ours -/
def eMethW (c n : Nat) (Ff : FM) (fo : EM) (a : AM) : EM := fo.bind fun x => (M.ask fun own => insV c own x).bind fun _ => a.bind fun ys => callW n Ff (x :: ys)
theorem zip_no {m : Str} : ∀ {ns : List Str} {ws : List V}, m ∉ ns → (ns.zip ws).lookup m = none
  | [], _, _ => rfl
  | _ :: _, [], _ => rfl
  | k :: ns, w :: ws, h => by
    have h1 : (m == k) = false := beq_eq_false_iff_ne.mpr fun z => h (by rw [z]; exact List.mem_cons_self)
    rw [List.zip_cons_cons, List.lookup_cons, h1]
    exact zip_no fun z => h (List.mem_cons_of_mem _ z)
structure Mw (P : Program) (w : World) (K : PySem.W.Frag) (mg : Str → Option Value) (base : Heap) (T : Tb) (k c : Nat) (nm : Str) (n : Nat) (Ff : FM) : Prop where
  cl : Cls K (T.ct c)
  ex : ∃ (f : Addr) (fd : FuncData) (ps : List Str), Meth K (T.ct c) nm f ∧ Binds K fd ps [] ∧ FnOk P w K mg base (L2.CX P w) k f fd ps (spF T n Ff)
section
variable {X : Cx} {Y : Cy} {k j n c : Nat} {m : Str} {Ff : FM} {apos pos : Pos} {o a : Expr} {es : List Expr} {fo : EM} {al : AM}
def tMethD (C : Addr) (m : Str) (sp : Sp) (E : L2.St → XK) (to : TE) (t : TA) : TE := fun σ H Q => to σ H fun x H1 => ∃ b dx fs, x = .ref b ∧ H1 b = some (.ins C dx fs) ∧ fs.lookup m = none ∧ t σ H1 fun vs H2 => sp (.ref b :: vs ++ []) H2 Q (E σ)
theorem pe_methD {C f : Addr} {fd : FuncData} {ps : List Str} {sp : Sp} {E : L2.St → XK} {to : TE} {t : TA} {pl : Sem Bool} (ho : PE X o to) (cl : Cls X.K C) (hm : Meth X.K C m f) (F : FnOk X.prog X.w X.K X.mg X.base (L2.CX X.prog X.w) k f fd ps sp) (hr : Room k X.A) (hb : Binds X.K fd ps []) (hx : ∀ σ, PassesAt (L2.CX X.prog X.w) X σ (E σ)) (ha : PA X (a :: es) t)
    (hst : starEach (a :: es) X.env = (false, eval a X.env) :: starEach es X.env) (hpl : (backTo pos (starEach es X.env)).any (·.1) = false)
    (ht : eval (.Call (.Attribute o m apos) (a :: es) [] pos) X.env = (do
      let ov ← eval o X.env
      standAt apos.atName
      let (f, first) ← holding [ov] (getMethod ov m pl)
      callWith pos f first (backTo pos (starEach (a :: es) X.env)) (backToKw pos (keywordEach [] X.env)))) : PE X (.Call (.Attribute o m apos) (a :: es) [] pos) (tMethD C m sp E to t) := by
  constructor
  intro pins s σ H Q I h
  apply PySem.W.methodCall_KW (pl := pl) _ ht
  apply thn (ho.run pins s σ H _ I h)
  rintro u s1 ⟨x, H1, I1, rx, b, dx, fs, rfl, eb, l, q⟩
  have eu : u = Value.ref b := rx
  subst eu
  apply getmeth_ok I1 eb cl hm l
  apply PySem.W.callWith_K (first := [.ref b]) (h₀ := X.base) I.ok.mod.kin hm.kp _ hst hpl
  apply thn (ha.run pos pins s1 σ H1 _ I1 q)
  rintro us s2 ⟨vs, H2, I2, r, q2⟩
  exact And.intro I2.kIn (run_fnSD (us := .ref b :: us) (vs := .ref b :: vs) F hr hb .nil (hx σ) I2 (.cons rfl r) q2)
theorem r_methW {pl : Sem Bool} (mw : Mw X.prog X.w X.K X.mg X.base Y.T k c m n Ff) (hr : Room j X.A) (hk : k ≤ j) (cx : CxOk X Y) (ho : PE X o (trE Y fo)) (ha : PA X (a :: es) (trA Y al)) (hno : m ∉ flds c := by decide)
    (hst : starEach (a :: es) X.env = (false, eval a X.env) :: starEach es X.env := by rfl) (hpl : (backTo pos (starEach es X.env)).any (·.1) = false := by rfl)
    (ht : eval (.Call (.Attribute o m apos) (a :: es) [] pos) X.env = (do
      let ov ← eval o X.env
      standAt apos.atName
      let (f, first) ← holding [ov] (getMethod ov m pl)
      callWith pos f first (backTo pos (starEach (a :: es) X.env)) (backToKw pos (keywordEach [] X.env))) := by rfl) : PE X (.Call (.Attribute o m apos) (a :: es) [] pos) (trE Y (eMethW c n Ff fo al)) := by
  obtain ⟨f, fd, ps, hm, hb, F⟩ := mw.ex
  refine PE.imp (pe_methD (E := Y.Ek) ho mw.cl hm F (hr.mono hk) hb cx.pass ha hst hpl ht) fun σ H Q q => ?_
  obtain ⟨gh, sd, own, R, S, q⟩ := q
  refine at_bind R S q fun g1 o1 x v H1 R1 S1 e1 rx q1 => ?_
  obtain ⟨_, ei, q1⟩ := ask_at q1
  obtain ⟨b, dx, ws, rfl, hb'⟩ := ins_of R1 rx ei
  refine ⟨b, dx, _, rfl, hb', zip_no hno, ?_⟩
  refine at_bind R1 S1 q1 fun g2 o2 ys us H2 R2 S2 e2 rs q2 => ?_
  rw [List.append_nil]
  exact call_W R2 (.cons (rx.ext e2) rs) q2
/-! ### a property of an instance of ours -/
def propW (Ff : FM) (x : SV) : EM := fun _ own => match Ff [x] own with
  | some (.ok s, own') => some (.ok s, own')
  | _ => none
def ePropW (c : Nat) (Ff : FM) (f : EM) : EM := f.bind fun x => (M.ask fun own => insV c own x).bind fun _ => propW Ff x
end
/-! ### a new instance among ours -/
def makeW (c n : Nat) (Ff : FM) (xs : List SV) : EM := fun _ own => if xs.length = n then (match Ff (.h own.length :: xs) (own ++ [.ins c []]) with
  | some (.ok (.d .non), own') => some (.ok (.h own.length), own')
  | some (.ex k fs, own') => some (.ex k fs, own')
  | _ => none) else none
def eMakeW (c n : Nat) (Ff : FM) (a : AM) : EM := a.bind fun xs => makeW c n Ff xs
/-- what is none of ours -/
theorem HRel.junk {T : Tb} {B : Hp} {g : Gh} {own : Own} {H : Hp} (R : HRel T B g own H) {p : Addr} (h : H p = none) (ho : HO) : HRel T B g own (L2.upd H p ho) :=
  ⟨R.b.trans (Le.upd h), R.f.trans (Le.upd h), fun k o hk => (R.o k o hk).heap fun hl => upd_ne (R.neOwn h hk hl), R.nb, R.inj⟩
section
variable {X : Cx} {Y : Cy} {k j n c : Nat} {x : Str} {Ff : FM} {p pos : Pos} {a : Expr} {es : List Expr} {al : AM}
theorem r_makeW (m : Ma X.prog X.w X.K X.mg X.base Y.T k x c n Ff) (hr : Room j X.A) (hk : k + 1 ≤ j) (cx : CxOk X Y) (ha : PA X (a :: es) (trA Y al)) (hg : Gl X x := by rfl) (hdb : (x == ("__debug__" : Str)) = false := by decide)
    (he : starEach (a :: es) X.env = (false, eval a X.env) :: starEach es X.env := by rfl) (hpl : (backTo pos (starEach es X.env)).any (·.1) = false := by rfl) : PE X (.Call (.Name x p) (a :: es) [] pos) (trE Y (eMakeW c n Ff al)) := by
  obtain ⟨f, fd, ps, hm, hM, hb, F⟩ := m.ex
  refine PE.imp (pe_makeS (E := Y.Ek) hM F (hr.mono hk) hg hm hb cx.pass ha hdb he hpl) fun σ H Q q => ?_
  obtain ⟨gh, sd, own, R, S, q⟩ := q
  refine at_bind R S q fun g1 o1 xs vs H1 R1 S1 e1 rs q1 => ?_
  obtain ⟨r, own2, e, kq⟩ := q1
  intro x dx hx hd hne
  unfold makeW at e
  by_cases hl : xs.length = n
  case neg => rw [if_neg hl] at e; cases e
  rw [if_pos hl] at e
  have Rj := R1.junk hd (.own x)
  have hx2 : (L2.upd H1 dx (.own x)) x = none := by rw [upd_ne (fun z => hne z.symm)]; exact hx
  obtain ⟨R2, e2⟩ := Rj.made (p := x) hx2 (ho := .ins (Y.T.ct c) dx []) (o := .ins c []) ⟨dx, [], by rw [List.zip_nil_right]; exact upd_same, Nat.zero_le _, .nil⟩
  have hρ : (if o1.length = o1.length then x else g1.ρ o1.length) = x := if_pos rfl
  have rs2 := rs.ext e2
  cases ef : Ff (.h o1.length :: xs) (o1 ++ [.ins c []]) with
  | none => simp only [ef] at e; cases e
  | some pr =>
    obtain ⟨rf, of⟩ := pr
    simp only [ef] at e
    refine ⟨Y.B, _, _, .h o1.length :: xs, R2, .cons ⟨by simp, by show V.ref x = V.ref (if o1.length = o1.length then x else g1.ρ o1.length); rw [hρ]⟩ rs2, by rw [List.length_cons, hl], rf, of, ef, ?_⟩
    cases rf with
    | ok s =>
      cases s with
      | h j => simp only at e; cases e
      | d z =>
        cases z with
        | non =>
          simp only at e
          cases e
          intro g' v H' R' e' rv
          refine ⟨rep_non rv, kq g' _ H' R' (e2.trans e') ?_⟩
          have hlt : o1.length < (o1 ++ [O.ins c []]).length := by simp
          refine ⟨Nat.lt_of_lt_of_le hlt e'.le, ?_⟩
          rw [e'.ρ o1.length hlt]
          show V.ref x = V.ref (if o1.length = o1.length then x else g1.ρ o1.length)
          rw [hρ]
        | _ => simp only at e; cases e
    | ex cc fs =>
      simp only at e
      cases e
      intro g' d H' R' e' xd
      exact kq g' d H' R' (e2.trans e') xd
end
end Gx
end T_GxW1
section T_GxW2
set_option Elab.async false
set_option linter.all false
set_option maxRecDepth 100000
set_option maxHeartbeats 4000000
namespace Gx
open PySem PySem.Spec PyProof.Rows L2

/-! ## len of an instance of ours -/
def eLenW (FL : Nat → Option FM) (f : EM) : EM := f.bind fun x => fun _ own => match x with
  | .h k => match own[k]? with
    | some (.ins c _) => (FL c).bind fun Ff => match Ff [.h k] own with
      | some (.ok (.d (.int n)), own') => if 0 ≤ n ∧ n < 2 ^ 63 then some (.ok (.d (.int n)), own') else none
      | _ => none
    | _ => none
  | _ => none
section
variable {X : Cx} {Y : Cy} {k j : Nat} {FL FE : Nat → Option FM} {L : List Nat} {x : Str} {p pos : Pos} {a : Expr} {f : EM}
end
/-! ## l.pop(), d.get(k, x) -/
section
variable {X : Cx} {Y : Cy} {apos cpos : Pos} {o e a : Expr} {name : Str} {id : String} {r : V → List V → Hp → VK → Prop} {mm : MM} {f fo fk fz : EM}
def mmPop : MM := fun _ xs ys => match ys with
  | [] => (xs[xs.length - 1]?).map fun y => (y, xs.dropLast)
  | _ => none
theorem Reps.dropLast {T : Tb} {F : Hp} : ∀ {ds : List D} {vs : List V}, Reps T F ds vs → Reps T F ds.dropLast vs.dropLast
  | _, _, .nil => .nil
  | _, _, .cons h .nil => .nil
  | _, _, .cons h (.cons h2 t) => .cons h (Reps.dropLast (.cons h2 t))
/-- d.get(k, x), data -/
def eGet (fo fk fz : EM) : EM := fo.bind fun x => (M.ask fun own => dicV own x).bind fun _ => fk.bind fun y => fz.bind fun z => M.ask fun own => match y with
  | .d c => (dicV own x).bind fun p => (keyOf c).bind fun kk => some (match getK kk p.1 p.2 with
    | some d => SV.d d
    | none => z)
  | _ => none
end
/-! ## a call on what is looked at only, its result a new dict of plain things -/
def callU (n : Nat) (Ff : FM) (xs : List SV) : EM := fun _ own => if xs.length = n then (match viewL own xs with
  | none => none
  | some ds => match Ff (ds.map SV.d) [] with
    | some (.ok (.h k), own') => (match own'[k]? with
      | some (.dic ks vs) => if vs.all scal1 = true then some (.ok (.d (.dic ks vs)), own) else none
      | _ => none)
    | _ => none) else none
def eCallU (n : Nat) (Ff : FM) (a : AM) : EM := a.bind fun xs => callU n Ff xs
section
variable {X : Cx} {Y : Cy} {k j n : Nat} {x : Str} {Ff : FM} {p pos : Pos} {a : Expr} {es : List Expr} {al : AM}
end
end Gx
end T_GxW2
section T_GxX1
set_option Elab.async false
set_option linter.all false
set_option maxRecDepth 100000
set_option maxHeartbeats 4000000
namespace Gx
open PySem PySem.Spec PyProof.Rows L2
/-! ## texts -/
def strV : SV → Option Str
  | .d (.str a) => some a
  | _ => none
def splitD (a b : Str) : Option D := if (b.length == 0) = false ∧ a.length + 2 ≤ sizeLine then some (.lst ((Txt.split a b).map D.str)) else none
def eSplit (fo fe : EM) : EM := fo.bind fun x => (M.ask fun _ => strV x).bind fun a => fe.bind fun y => M.ask fun _ => (strV y).bind fun b => (splitD a b).map SV.d
section
variable {X : Cx} {Y : Cy} {apos pos : Pos} {o e : Expr} {fo fe : EM}
def joinD (a : Str) (ys : List Str) : Option D := if (ys.map (·.length)).sum + ys.length * a.length ≤ 16777216 then some (.str (Txt.join a ys)) else none
/-- a.join(l), l a list -/
def eJoin (fo fe : EM) : EM := fo.bind fun x => (M.ask fun _ => strV x).bind fun a => fe.bind fun y => M.ask fun own => (lstV own y).bind fun ds => (strsD ds).bind fun ys => (joinD a ys).map SV.d
/-- str(x): ints and texts -/
def mStr1 : Own → SV → Option D := fun _ x => match x with
  | .d (.str a) => some (.str a)
  | .d (.int i) => if decide (i.natAbs.log2 < 1920) = true then some (.str (toString i)) else none
  | _ => none
def rStr1 : List V → Hp → VK → Prop := fun xs H Q => (∃ i, xs = [.int i] ∧ i.natAbs.log2 < 1920 ∧ Q (.str (toString i)) H) ∨ ∃ a, xs = [.str a] ∧ Q (.str a) H
/-- int(text) -/
def mIntT : Own → SV → Option D := fun _ x => match x with
  | .d (.str a) => if a.length ≤ 640 then (PySem.intText? a).map D.int else none
  | _ => none
def rIntT : List V → Hp → VK → Prop := fun xs H Q => ∃ a n, xs = [.str a] ∧ PySem.intText? a = some n ∧ a.length ≤ 640 ∧ Q (.int n) H
end
end Gx
end T_GxX1
section T_GxX2
set_option Elab.async false
set_option linter.all false
set_option maxRecDepth 100000
set_option maxHeartbeats 4000000
namespace Gx
open PySem PySem.Spec PyProof.Rows L2
/-! ## o.f op= v, an int field of an instance of ours -/
def sFldG (c i : Nat) (gg : Int → Int → Int) (o e : EM) : SM := SM.bind o fun x => fun sd own => match x with
  | .h k => match own[k]? with
    | some (.ins c' vs) => if c' = c then (match vs[i]? with
      | some (.d (.int n)) => SM.bind e (fun y => fun sd own2 => match y with
        | .d (.int m) => (putFld c i own2 (.h k) (.d (.int (gg n m)))).map fun own' => .nx sd own'
        | _ => none) sd own
      | _ => none) else none
    | _ => none
  | _ => none
section
variable {X : Cx} {Y : Cy} {pos tpos : Pos} {o a : Expr} {name : Str} {fo f : EM}
end
end Gx
end T_GxX2
section T_GxX3
set_option Elab.async false
set_option linter.all false
set_option maxRecDepth 100000
set_option maxHeartbeats 4000000
namespace Gx
open PySem PySem.Spec PyProof.Rows L2
section
variable {X : Cx} {Y : Cy} {ε : Held} {i : Nat} {x : Str} {pos pos' : Pos} {a : Expr} {l : List Stmt} {f : EM} {q : SM}
end
section
variable {X : Cx} {Y : Cy} {ε : Held} {pos : Pos} {a b : Expr} {f g : EM}
end
end Gx
end T_GxX3
section T_GxX4
set_option Elab.async false
set_option linter.all false
set_option maxRecDepth 100000
set_option maxHeartbeats 4000000
namespace Gx
open PySem PySem.Spec PyProof.Rows L2

/-! ## dict comprehensions of two clauses -/
abbrev dc2 (kx vx t0 i0 t1 i1 : Expr) (c0 c1 : List Expr) (sc : Scope) (p : Pos) : Expr := .DictComp kx vx [⟨t0, i0, c0, 0⟩, ⟨t1, i1, c1, 0⟩] sc p
section
variable {P : Program} {w : World} {A : Around} {R : Result → Shared → Prop} {s : Shared} {kx vx t0 i0 t1 i1 : Expr} {c0 c1 : List Expr} {sc : Scope} {p : Pos} {z a : Value} {D : Addr} {en : Env}
abbrev rsd (P : Program) (w : World) (A : Around) (en : Env) (R : Result → Shared → Prop) : Value → Shared → Prop := notedBy (model P w) A en fun e y => R (.error e) y
/-- a clause's turn: an item stored and tested -/
def Nxt (P : Program) (w : World) (A : Around) (en : Env) (R : Result → Shared → Prop) (t : Expr) (cs : List Expr) (z : Value) (fin yes no : Shared → Prop) (s : Shared) : Prop :=
  wpAny (model P w) A (pyNext z) (fun r y => match r with
    | none => fin y
    | some v => wpAny (model P w) A (letOwnedTupleGo t z v) (fun _ y1 => wpAny (model P w) A (assign t en v) (fun _ y2 =>
        wpAny (model P w) A (forIn cs true fun c r => if r = true then do let ok ← isTrue c en (eval c en); pure (ForInStep.yield ok) else pure (ForInStep.yield r)) (fun ok y3 => if ok = true then yes y3 else no y3) (rsd P w A en R) y2) (rsd P w A en R) y1) (rsd P w A en R) y) (rsd P w A en R) s
end

section
variable {X : Cx}
/-- {k: v for tg in iter if .. for tg1 in iter1 if ..}: D the new dict -/
def tDc2 (wi : TI) (g : TG) (tt : TT) (wi1 : TI) (g1 : TG) (tt1 : TT) (tk tv : TE) (vs vs1 : List Nat) : TE := fun σ H Q => wi σ H fun J Ha => ∀ D, Ha D = none → ∃ W : Nat → Nat → Hp → Prop, (∃ m, W 0 m (upd Ha D (.dK []))) ∧ ∀ i m H, W i m H →
  (J.stop i H ∧ Q (.ref D) H) ∨ (J.go i H ∧ ∃ N : Hp → Prop, (∀ H', N H' → ∃ m', m' < m ∧ W (i + 1) m' H') ∧ ∀ x H', J.yld i H x H' → g x (wipe σ vs) H' fun σ2 Hb => wipe σ2 vs = wipe σ vs ∧ tt σ2 Hb fun b Hc =>
    if b = true then wi1 σ2 Hc fun J1 Hd => ∃ W1 : Nat → Nat → Hp → Prop, (∃ m, W1 0 m Hd) ∧ ∀ j k H, W1 j k H →
      (J1.stop j H ∧ N H) ∨ (J1.go j H ∧ ∃ N1 : Hp → Prop, (∀ H', N1 H' → ∃ k', k' < k ∧ W1 (j + 1) k' H') ∧ ∀ x H', J1.yld j H x H' → g1 x (wipe σ2 vs1) H' fun σ3 He => wipe σ3 vs1 = wipe σ2 vs1 ∧ tt1 σ3 He fun b Hf =>
        if b = true then tk σ3 Hf fun y Hg => tv σ3 Hg fun z Hh => ∃ kvs k, y = kV k ∧ Hh D = some (.dK kvs) ∧ kvs.length < sizeLine ∧ N1 (upd Hh D (.dK (putK kvs k z))) else N1 Hf)
    else N Hc)
abbrev BPG (X : Cx) (scope : Scope) (tg : Expr) (g : TG) : Prop := ∀ (s : Shared) (H : Hp) (C : Addr) (cl : List (Str × Addr)) (fp : List Addr), PG (X.blk s H scope (compEnvC scope cl C X.env) fp) tg g
abbrev BPT (X : Cx) (scope : Scope) (cs : List Expr) (t : TT) : Prop := ∀ (s : Shared) (H : Hp) (C : Addr) (cl : List (Str × Addr)) (fp : List Addr), PTs (X.blk s H scope (compEnvC scope cl C X.env) fp) cs t
abbrev BPE (X : Cx) (scope : Scope) (e : Expr) (t : TE) : Prop := ∀ (s : Shared) (H : Hp) (C : Addr) (cl : List (Str × Addr)) (fp : List Addr), PE (X.blk s H scope (compEnvC scope cl C X.env) fp) e t
abbrev BPI (X : Cx) (scope : Scope) (tg e : Expr) (t : TI) : Prop := ∀ (s : Shared) (H : Hp) (C : Addr) (cl : List (Str × Addr)) (fp : List Addr), PI (X.blk s H scope (compEnvC scope cl C X.env) fp) tg e t
end
end Gx
end T_GxX4
section T_GxX5
set_option Elab.async false
set_option linter.all false
set_option maxRecDepth 100000
set_option maxHeartbeats 4000000
namespace Gx
open PySem PySem.Spec PyProof.Rows L2

/-! ## dict comprehensions of two clauses, as data -/
def dc2L (tg : GM) (t : TM) (src1 : IM) (vs1 : List Nat) (tg1 : GM) (t1 : TM) (fk fv : EM) (sd0 : Sl) : List D → List D × List D → Own → Option ((List D × List D) × Own)
  | [], a, own => some (a, own)
  | x :: xs, a, own => match tg x sd0 with
    | none => none
    | some sd1 => match t sd1 own with
      | some (.ok true, o1) => (match src1 sd1 o1 with
        | some (.ok ys, o2) => (if a.1.length + ys.length < sizeLine then (match dcL tg1 t1 fk fv (wipeD sd1 vs1) ys a o2 with
          | some (a', o3) => dc2L tg t src1 vs1 tg1 t1 fk fv sd0 xs a' o3
          | none => none) else none)
        | _ => none)
      | some (.ok false, o1) => dc2L tg t src1 vs1 tg1 t1 fk fv sd0 xs a o1
      | _ => none
def eDC2 (src : IM) (vs : List Nat) (tg : GM) (t : TM) (src1 : IM) (vs1 : List Nat) (tg1 : GM) (t1 : TM) (fk fv : EM) : EM := src.bind fun xs => fun sd own => match dc2L tg t src1 vs1 tg1 t1 fk fv (wipeD sd vs) xs ([], []) own with
  | some (a, o) => some (.ok (.d (.dic a.1 a.2)), o)
  | none => none
section
variable {X : Cx} {Y : Cy} {tgx iter kx vx tgx1 iter1 : Expr} {ifs ifs1 : List Expr} {scope : Scope} {own : List (Str × Nat)} {pos : Pos} {src src1 : IM} {tg tg1 : GM} {gg gg1 : TG} {is is1 vs1 : List Nat} {t t1 : TM} {fk fv : EM}
end
end Gx
end T_GxX5
section T_GxX6
set_option Elab.async false
set_option linter.all false
set_option maxRecDepth 100000
set_option maxHeartbeats 4000000
namespace Gx
open PySem PySem.Spec PyProof.Rows L2

/-! ## list(range(a, b, c)); sorted of a dict's keys -/
def stepI (i c : Int) (n : Nat) : List Int := (List.range n).map fun k => i + (k : Nat) * c
def stepN (i j c : Int) : Nat := (Builtin.Range.rangeSize i j c).toNat
def stepOk (i j c : Int) : Bool := decide (c ≠ 0 ∧ c.natAbs < 1073741824 ∧ Builtin.Range.small i j c = true ∧ Builtin.Range.rangeSize i j c = (stepN i j c : Int) ∧ stepN i j c ≤ 2 ^ 24)
def eLstR3 (f : AM) : EM := f.bind fun l => M.ask fun _ => match l with
  | [.d (.int i), .d (.int j), .d (.int c)] => if stepOk i j c = true then some (.d (.lst ((stepI i c (stepN i j c)).map D.int))) else none
  | _ => none
/-- the keys of a dict, all ints, ascending -/
def mSortK : Own → SV → Option D := fun own x => match x with
  | .d (.dic ks _) => (intsD ks).map fun is => .lst ((isort is).map D.int)
  | _ => none
def rSortK : List V → Hp → VK → Prop := fun vs H Q => ∃ (a : Addr) (kvs : List (Key × V)) (ks : List Int), vs = [.ref a] ∧ Rd H a (.dK kvs) ∧ kvs.map (·.1) = ks.map Sum.inl ∧
  ∀ (ys : List Int) (p : Addr), ys.Perm ks → ys.Pairwise (· ≤ ·) → H p = none → Q (.ref p) (upd H p (.lst (ys.map V.int)))
section
variable {X : Cx} {Y : Cy} {a b c : Expr} {f : AM} {p p2 pos pos2 : Pos}
theorem cr_sortK (hc : X.calm = true) : CallR X (.builtin "sorted") rSortK := by
  intro pins s σ H xs us Q I r q
  obtain ⟨a, kvs, ks, rfl, hd, hks, q⟩ := q
  rw [Vals.ref1 r]
  obtain ⟨z, lo, vs, rel, dd⟩ := dk_rd I.hok hd
  obtain ⟨ep, hat⟩ := dd.dictAt
  have keys : vs.map (·.1) = ks.map Sum.inl := rel.keys.symm.trans hks
  have len : vs.length = ks.length := by have e := congrArg List.length keys; simpa using e
  have small : vs.length ≤ sizeLine := by rw [← rel.length]; exact z
  refine Calls.call_function_entry PyProof.Rows.kind_sorted PyProof.Rows.plain_sorted PyProof.Rows.entry_sorted (PyProof.Rows.args_sorted1 _) ?_
  unfold Builtin.«sorted»
  refine wpAny_bind (m := checkCount "sorted" 1 1 _) (wpAny_pure ?_)
  refine wpAny_bind (PySem.W.kdu_collect (A := X.A.in1) (PySem.W.kdl_dict (knd := mixKind X.prog X.w) (kvs := vs) (ep := ep) lo) (I.ok.hd hc) hat small fun h' tk acc hk hacc => ?_)
  have la : acc.toList.length = ks.length := by rw [Array.length_toList, hacc.1, len]
  have hI : IntsAre acc.toList ks := ints_each la fun j v e => by
    obtain ⟨k, x, e1, e2⟩ := hacc.2 j v (by rw [← Array.getElem?_toList]; exact e)
    have e3 : (ks.map Sum.inl : List Key)[j]? = some k := by rw [← keys, List.getElem?_map, e1]; rfl
    rw [List.getElem?_map] at e3
    obtain ⟨y, e4, e5⟩ := Option.map_eq_some_iff.mp e3
    subst e5
    rcases keyIs_shape (show keyIs (Sum.inl y) v = true from e2) with ⟨i, t, ek, ev⟩ | ⟨z, t, ek, ev⟩
    · cases ek
      exact ⟨y, t, e4, ev⟩
    · cases ek
  have I1 : Inv X pins σ H { s with heap := h', toks := tk } := I.kept hk
  refine wpAny_bind (wpAny_newList ?_ (by rw [la, ← len]; exact small))
  have ho : (h'.push (seqObj "list" acc.toList.toArray 0)).get? h'.objs.size = some (seqObj "list" acc.toList.toArray 0) := Heap.get?_push_size _ rfl
  show wpAny _ _ _ _ _ { s with heap := h'.push (seqObj "list" acc.toList.toArray 0), toks := tk }
  refine wpAny_bind (wpAny_holding (wpAny_call_entry PyProof.Rows.slot_list_sort ⟨_, ho, rfl⟩ PyProof.Rows.entry_list_sort
    (SrtO.list_sort_ord (s := { s with heap := h'.push (seqObj "list" acc.toList.toArray 0), toks := tk }) SrtO.swo_int ho (by rw [la, ← len]; exact small) (fun h2 => SrtO.ints_sortable hI h2) fun out g1 g2 => ⟨.none, rfl, ?_⟩) (PyProof.Rows.args_list_sort _)))
  obtain ⟨k1, k2, k3⟩ := SrtO.ints_out hI g1 g2
  obtain ⟨ep2, he⟩ := PyProof.Rows.sortedHeap_at (vs := acc.toList) (out := out.toArray) ho
  have lz : ((out.map SrtO.iv).map V.int).length ≤ sizeLine := by rw [List.length_map, k2.length_eq, ← len]; exact small
  refine wpAny_pure ⟨_, rfl, .ref h'.objs.size, upd H h'.objs.size (.lst ((out.map SrtO.iv).map V.int)), I1.laid (t' := tk) (fun b u e => ?_) (Nat.le_refl _) ⟨lz, out, ep2, vals_of_ints k1, he⟩, rfl, q _ _ k2 k3 (I1.hok.fresh (Nat.le_refl _))⟩
  have hb : b < h'.objs.size := Heap.lt_size e
  rw [PyProof.Rows.sortedHeap_old (Nat.ne_of_lt hb) (by rw [size_push']; exact Nat.lt_succ_of_lt hb)]
  exact Heap.get?_push_of_some _ e
theorem keysI : ∀ {ks : List D} {is : List Int} {l : List Key}, intsD ks = some is → ks = l.map keyD → l = is.map Sum.inl
  | _, _, [], e, h => by subst h; cases e; rfl
  | _, _, .inl i :: l, e, h => by
    subst h
    obtain ⟨js, e1, e2⟩ := Option.map_eq_some_iff.mp (show (intsD (l.map keyD)).map (i :: ·) = some _ from e)
    subst e2
    rw [keysI e1 rfl]; rfl
  | _, _, .inr x :: l, e, h => by subst h; cases e
theorem ob_sortK : OB Y rSortK (m1 mSortK) := by
  refine ob_1 (r := fun v H Q => rSortK [v] H Q) (fun gh own H x v z Q R rx h k => ?_) fun _ _ _ h => h
  match x, rx, h with
  | .d (.dic ks xs), rx, h =>
    have h : (intsD ks).map (fun is => D.lst ((isort is).map D.int)) = some z := h
    obtain ⟨is, e2, e3⟩ := Option.map_eq_some_iff.mp h
    subst e3
    have rx : Rep Y.T gh.F (.dic ks xs) v := rx
    cases rx with
    | @dic _ kvs _ _ hr ek rs =>
      refine ⟨_, kvs, is, rfl, Rd.le R.f hr, keysI (l := kvs.map (·.1)) e2 (by rw [ek, List.map_map]; rfl), fun ns p hp hs hn => ?_⟩
      have e : ns = isort is := rise_uniq (hp.trans (isort_perm is).symm) hs (isort_le is)
      subst e
      obtain ⟨R2, e2⟩ := R.new hn (.lst ((isort is).map V.int))
      exact k _ _ _ R2 e2 (.lst upd_same (reps_int _))
    | ldic => cases e2
    | ndic => cases e2
end
end Gx
end T_GxX6
section T_GxX7
set_option Elab.async false
set_option linter.all false
set_option maxRecDepth 100000
set_option maxHeartbeats 4000000
namespace Gx
open PySem PySem.Spec PyProof.Rows L2

/-! ## t[::-1], t a tuple -/
section
variable {prog : Program} {w : World} {A : Around} {E : Value → Shared → Prop} {s : Shared}
end
def tRevT (K : PySem.W.Frag) (te : TE) : TE := fun σ H Q => te σ H fun x H1 => ∃ a xs, x = .ref a ∧ SqT K H1 a xs ∧ ∀ p, H1 p = none → Q (.ref p) (upd H1 p (.tup xs.reverse))
def eRevT (f : EM) : EM := f.bind fun x => M.ask fun _ => match x with
  | .d (.tup xs) => some (.d (.tup xs.reverse))
  | _ => none
def rEqT : R2 := fun x y H Q => ∃ a b ks ls, x = .ref a ∧ y = .ref b ∧ Rd H a (.dK ks) ∧ Rd H b (.dK ls) ∧ (∀ p ∈ ks, p.2 = .bl true) ∧ (∀ p ∈ ls, p.2 = .bl true) ∧ Q (.bl (ks.length == ls.length && ks.all fun p => ls.any fun q => decide (q.1 = p.1))) H
def truesD (xs : List D) : Bool := xs.all fun d => match d with
  | .bl true => true
  | _ => false
/-- == of two dicts of ints to truths -/
def mEqT : Own → SV → SV → Option D := fun _ x y => match x, y with
  | .d (.dic ks xs), .d (.dic ls ys) => if (truesD xs && truesD ys) = true then (intsD ks).bind fun is => (intsD ls).map fun js => .bl (is.length == js.length && is.all fun i => decide (i ∈ js)) else none
  | _, _ => none
end Gx
end T_GxX7
section T_GxX8
set_option Elab.async false
set_option linter.all false
set_option maxRecDepth 100000
set_option maxHeartbeats 4000000
namespace Gx
open PySem PySem.Spec PyProof.Rows L2

/-! ## a comprehension's list as one of one's own -/
def eLCO (src : IM) (vs : List Nat) (tg : GM) (t : TM) (f : EM) : EM := src.bind fun xs => fun sd own => if xs.length < sizeLine then (match lcL tg t f (wipeD sd vs) xs own with
  | some (ds, o) => some (.ok (.h o.length), o ++ [.lst ds])
  | none => none) else none
section
variable {X : Cx} {Y : Cy} {tgx iter elt : Expr} {ifs : List Expr} {scope : Scope} {own : List (Str × Nat)} {pos : Pos} {src : IM} {tg : GM} {gg : TG} {is : List Nat} {t : TM} {f : EM}
end

/-! ## range with a step, walked -/
def iRg3 (a : AM) : IM := a.bind fun xs => match xs with
  | [.d (.int i), .d (.int j), .d (.int c)] => if stepOk i j c = true then M.ret ((stepI i c (stepN i j c)).map D.int) else M.fail
  | _ => M.fail
section
variable {X : Cx} {Y : Cy} {tg a b c : Expr}
end

/-! ## sorted(set(t)), t a tuple of ints -/
def nubI : List Int → List Int
  | [] => []
  | x :: l => if x ∈ nubI l then nubI l else x :: nubI l
def ssetI (l : List Int) : List Int := isort (nubI l)
def eSortSet (f : EM) : EM := f.bind fun x => M.ask fun _ => match x with
  | .d (.tup xs) => (intsD xs).bind fun is => if is.length < 63 then some (.d (.lst ((ssetI is).map D.int))) else none
  | _ => none
def rSetTup (K : PySem.W.Frag) (w : World) : List V → Hp → VK → Prop := fun vs H Q => ∃ (a : Addr) (ns : List Int), vs = [.ref a] ∧ SqT K H a (ns.map V.int) ∧ ns.length < 63 ∧
  ∀ (p : Addr) (c : Nat), H p = none → c ≤ ns.length → Q (.ref p) (upd H p (SetO w p (fun j => decide (j ∈ ns)) c))
section
variable {X : Cx} {Y : Cy} {e : Expr} {f : EM} {p1 p2 p3 p4 : Pos}
end
end Gx
end T_GxX8
section T_GxX9
set_option Elab.async false
set_option linter.all false
set_option maxRecDepth 100000
set_option maxHeartbeats 4000000
namespace Gx
open PySem PySem.Spec PyProof.Rows L2
open AutoSeq1 (wpAny_loadPart')
/-! ## a starred item of a display -/
def tStar (K : PySem.W.Frag) (ta : TE) (tr : TA) : TA := fun σ H Q => ta σ H fun x H1 => ∃ p ys, x = .ref p ∧ (SqL K H1 p ys ∨ SqT K H1 p ys) ∧ tr σ H1 fun xs H2 => Q (ys ++ xs) H2
section
variable {X : Cx} {e : Expr} {es : List Expr} {te : TE} {t : TA} {p : Pos}
end
def aStar (f : EM) (a : AM) : AM := f.bind fun x => (M.ask fun own => seqV own x).bind fun ds => a.bind fun xs => M.ret (ds.map SV.d ++ xs)
section
variable {X : Cx} {Y : Cy} {a o e : Expr} {es : List Expr} {f fo fe : EM} {al : AM} {p apos pos : Pos}
/-! ## a text's strip -/
def eStrip (fo fe : EM) : EM := fo.bind fun x => (M.ask fun _ => strV x).bind fun a => fe.bind fun y => M.ask fun _ => (strV y).bind fun b => if a.length ≤ sizeLine then some (.d (.str (Txt.stripChars a b))) else none
end
/-! ## a text times an int -/
def mulTx (a : Str) (n : Nat) : Str := ⟨(List.replicate n a.cps.toList).flatten.toArray⟩
def mMulS : Own → SV → SV → Option D := fun _ x y => match x, y with
  | .d (.str a), .d (.int i) => if 0 ≤ i ∧ i ≤ 1000 ∧ a.length ≤ 1000 then some (.str (mulTx a i.toNat)) else none
  | _, _ => none
def rMulS : R2 := fun x y H Q => ∃ a i, x = .str a ∧ y = .int i ∧ 0 ≤ i ∧ i ≤ 1000 ∧ a.length ≤ 1000 ∧ Q (.str (mulTx a i.toNat)) H
end Gx
end T_GxX9
section T_GxX10
set_option Elab.async false
set_option linter.all false
set_option maxRecDepth 100000
set_option maxHeartbeats 4000000
namespace Gx
open PySem PySem.Spec PyProof.Rows L2
/-! ## != of two tuples of two own objects -/
def inX (X : Cx) : Cx := { X with A := X.A.in1 }
section
variable {X : Cx} {pins : List (Addr × Obj)} {σ : L2.St} {H : Hp} {s : Shared}
def rNeT2 (K : PySem.W.Frag) (r : R2) : R2 := fun x y H Q => ∃ (l b a1 a2 c1 c2 : Addr) (K1 K2 : VK), x = .ref l ∧ y = .ref b ∧ SqT K H l [.ref a1, .ref a2] ∧ SqT K H b [.ref c1, .ref c2] ∧
  r (.ref a1) (.ref c1) H K1 ∧ K1 (.bl true) H ∧ (∀ v H1, K1 v H1 → v = .bl true ∧ r (.ref a2) (.ref c2) H1 K2 ∧ K2 (.bl true) H1) ∧ ∀ v H2, K2 v H2 → v = .bl true ∧ Q (.bl false) H2
end
def isObj : D → Bool
  | .obj _ _ => true
  | _ => false
def twoL : List D → Option (D × D)
  | [a, b] => if (isObj a && isObj b) = true then some (a, b) else none
  | _ => none
def two : SV → Option (D × D)
  | .d (.tup xs) => twoL xs
  | _ => none
def isT : Option D → Bool
  | some (.bl b) => b
  | _ => false
def mNeT2 (L : List Nat) (FE : Nat → Option FM) : Own → SV → SV → Option D := fun own x y => match two x, two y with
  | some (a, b), some (c, d) => if (isT (mEqO L FE false own (.d a) (.d c)) && isT (mEqO L FE false own (.d b) (.d d))) = true then some (.bl false) else none
  | _, _ => mNe own x y
section
variable {X : Cx} {Y : Cy} {k j : Nat} {L : List Nat} {FE FL : Nat → Option FM}
abbrev rEqB (X : Cx) (T : Tb) (k : Nat) (FE : Nat → Option FM) : R2 := fun x y H Q => rEqD T.K x y H Q ∨ rEqO X T k FE x y H Q
end
end Gx
end T_GxX10
section T_GxX11
set_option Elab.async false
set_option linter.all false
set_option maxRecDepth 100000
set_option maxHeartbeats 4000000
namespace Gx
open PySem PySem.Spec PyProof.Rows L2
/-! ## a law whose row is captured -/
section
variable {P : Program} {w : World} {K : PySem.W.Frag} {mg : Str → Option Value} {base : Heap}
end
end Gx
end T_GxX11
section T_GxX12
set_option Elab.async false
set_option linter.all false
set_option maxRecDepth 100000
set_option maxHeartbeats 4000000
namespace Gx
open PySem PySem.Spec PyProof.Rows L2
/-! ## two lists put together, as an own list -/
def eAddLH (f g : EM) : EM := f.bind fun x => g.bind fun y => fun _ own => match lstV own x, lstV own y with
  | some xs, some ys => if xs.length + ys.length ≤ sizeLine then some (.ok (.h own.length), own ++ [.lst (xs ++ ys)]) else none
  | _, _ => none
section
variable {X : Cx} {Y : Cy} {a b : Expr} {pos : Pos} {f g : EM}
end
def mRepL : Own → SV → SV → Option D := fun own x y => match y with
  | .d (.int k) => (lstV own x).bind fun xs => if 0 ≤ k ∧ k ≤ 1000 ∧ xs.length ≤ 1000 then some (.lst (List.replicate k.toNat xs).flatten) else none
  | _ => none
end Gx
end T_GxX12
section T_GxY1
set_option Elab.async false
set_option linter.all false
set_option maxRecDepth 100000
set_option maxHeartbeats 4000000
namespace Gx
open PySem PySem.Spec PyProof.Rows L2

/-! ## dicts whose keys are nested tuples, over the hand layer -/
/-- at b stands the key k, in every state -/
def KeyAt (X : Cx) (H : Hp) (k : NK) (b : Addr) : Prop := ∀ (pins : List (Addr × Obj)) (σ : L2.St) (s : Shared), Inv X pins σ H s → (nestedKind X.prog X.w).is s.heap k b
abbrev Kvs := List (NK × Addr × V)
def KeysAt (X : Cx) (H : Hp) (kvs : Kvs) : Prop := ∀ p ∈ kvs, KeyAt X H p.1 p.2.1
abbrev Nkv : Kvs → List (NK × Addr × Value) → Prop := Paired fun p q => p.1 = q.1 ∧ p.2.1 = q.2.1 ∧ RelV p.2.2 q.2.2
def valN (k : NK) : Kvs → Option V
  | [] => none
  | p :: r => if p.1 = k then some p.2.2 else valN k r
def putN (k : NK) (b : Addr) (v : V) : Kvs → Kvs
  | [] => [(k, b, v)]
  | p :: r => if p.1 = k then (p.1, p.2.1, v) :: r else p :: putN k b v r
theorem valN_pos {k : NK} {p : NK × Addr × V} {r : Kvs} (e : p.1 = k) : valN k (p :: r) = some p.2.2 := if_pos e
theorem valN_neg {k : NK} {p : NK × Addr × V} {r : Kvs} (e : ¬ p.1 = k) : valN k (p :: r) = valN k r := if_neg e
theorem atN_pos {k : NK} {q : NK × Addr × Value} {r : List (NK × Addr × Value)} (e : q.1 = k) : atKey (q :: r) k = some q.2 := by simp [atKey, e]
theorem atN_neg {k : NK} {q : NK × Addr × Value} {r : List (NK × Addr × Value)} (e : ¬ q.1 = k) : atKey (q :: r) k = atKey r k := by simp [atKey, e]
theorem Nkv.val {kvs : Kvs} {xs : List (NK × Addr × Value)} (r : Nkv kvs xs) (k : NK) : RelO (valN k kvs) ((atKey xs k).map (·.2)) := by
  induction r with
  | nil => exact True.intro
  | @cons p q ps qs hd tl ih =>
    by_cases e : p.1 = k
    · rw [valN_pos e, atN_pos (hd.1.symm.trans e)]
      exact hd.2.2
    · rw [valN_neg e, atN_neg fun z => e (hd.1.trans z)]
      exact ih
theorem putN_len (k : NK) (b : Addr) (v : V) : ∀ kvs : Kvs, (putN k b v kvs).length ≤ kvs.length + 1
  | [] => Nat.le_refl _
  | p :: r => by
    unfold putN
    by_cases e : p.1 = k
    · rw [if_pos e, List.length_cons, List.length_cons]; omega
    · rw [if_neg e, List.length_cons, List.length_cons]
      exact Nat.succ_le_succ (putN_len k b v r)
theorem stored_hit {k : NK} {b : Addr} {v : Value} {q : NK × Addr × Value} {r : List (NK × Addr × Value)} (nd : ((q :: r).map (·.1)).Nodup) (e : q.1 = k) : storedH (q :: r) k b v = (q.1, q.2.1, v) :: r := by
  have hn : k ∉ r.map (·.1) := by
    rw [List.map_cons, List.nodup_cons] at nd
    rw [← e]; exact nd.1
  rw [storedH_old (atN_pos e), List.map_cons, map_putAt_of_not_mem r k v hn]
  unfold putAt
  rw [if_pos e]
theorem stored_miss {k : NK} {b : Addr} {v : Value} {q : NK × Addr × Value} {r : List (NK × Addr × Value)} (e : ¬ q.1 = k) : storedH (q :: r) k b v = q :: storedH r k b v := by
  unfold storedH
  rw [atN_neg e]
  by_cases c : (atKey r k).isSome = true
  · rw [if_pos c, if_pos c, List.map_cons]
    unfold putAt
    rw [if_neg e]
  · rw [if_neg c, if_neg c]; rfl
theorem Nkv.put {kvs : Kvs} {xs : List (NK × Addr × Value)} (r : Nkv kvs xs) (k : NK) {b : Addr} {y : V} {u : Value} (ry : RelV y u) (nd : (xs.map (·.1)).Nodup) : Nkv (putN k b y kvs) (storedH xs k b u) := by
  induction r with
  | nil => exact .cons ⟨rfl, rfl, ry⟩ .nil
  | @cons p q ps qs hd tl ih =>
    unfold putN
    by_cases e : p.1 = k
    · rw [if_pos e, stored_hit nd (hd.1.symm.trans e)]
      exact .cons ⟨hd.1, hd.2.1, ry⟩ tl
    · rw [if_neg e, stored_miss fun z => e (hd.1.trans z)]
      exact .cons hd (ih (by rw [List.map_cons, List.nodup_cons] at nd; exact nd.2))
theorem stored_free {xs : List (NK × Addr × Value)} {k : NK} {b : Addr} {u : Value} (hf : ∀ x ∈ xs, HFree x.1) (hk : HFree k) : ∀ x ∈ storedH xs k b u, HFree x.1 := by
  intro x hx
  unfold storedH at hx
  by_cases c : (atKey xs k).isSome = true
  · rw [if_pos c] at hx
    obtain ⟨y, hy, e⟩ := List.mem_map.mp hx
    have e1 : x.1 = y.1 := by rw [← e]; unfold putAt; split <;> rfl
    rw [e1]; exact hf y hy
  · rw [if_neg c] at hx
    rcases List.mem_append.mp hx with z | z
    · exact hf x z
    · have z : x = (k, b, u) := by simpa using z
      rw [z]; exact hk
theorem paired_mem {α β : Type} {G : α → β → Prop} {l : List α} {m : List β} (r : Paired G l m) : ∀ y ∈ m, ∃ x ∈ l, G x y := by
  induction r with
  | nil => intro y hy; cases hy
  | cons hd tl ih =>
    intro y hy
    rcases List.mem_cons.mp hy with e | h
    · subst e; exact ⟨_, List.mem_cons_self, hd⟩
    · obtain ⟨x, hx, g⟩ := ih y h
      exact ⟨x, List.mem_cons_of_mem _ hx, g⟩
theorem NkP.at {a : Addr} {kvs : Kvs} {h h' : Heap} (x : NkP a kvs h) (k : ∀ o, h.get? a = some o → h'.get? a = some o) : NkP a kvs h' := by
  obtain ⟨hl, hs, xs, r, hf, nd, o, es, ep, h1, h2⟩ := x
  exact ⟨hl, hs, xs, r, hf, nd, o, es, ep, k o h1, h2⟩
theorem nk_ok {P : Program} {w : World} {H : Hp} {h : Heap} {a : Addr} {kvs : Kvs} (x : NkP a kvs h) : ObjOk P w H h a (NkO a kvs) := by
  have ⟨_, _, _, _, _, _, o, _, _, ho, _⟩ := x
  exact ⟨x, ⟨o, ho⟩, fun h1 h2 p k => p.at k⟩
theorem nk_of {P : Program} {w : World} {h : Heap} {a : Addr} {kvs : Kvs} {xs : List (NK × Addr × Value)} (hl : kvs.length ≤ sizeLine) (hs : (a == sysModules) = false) (r : Nkv kvs xs) (hf : ∀ x ∈ xs, HFree x.1) (dd : h.DictOfH (nestedKind P w) a xs) : NkP a kvs h := by
  obtain ⟨o, es, ep, h1, h2, h3, h4, _, nd⟩ := dd
  refine ⟨hl, hs, xs, r, hf, nd, o, es, ep, h1, h2, h3, fun P' w' => h4.trans (List.map_congr_left fun x hx => ?_)⟩
  show (⟨NestedKey.hash w x.1, _, _⟩ : DictEntry) = ⟨NestedKey.hash w' x.1, _, _⟩
  rw [hf x hx w w']
section
variable {X : Cx} {pins : List (Addr × Obj)} {σ : L2.St} {H : Hp} {s : Shared} {a : Addr} {kvs : Kvs} {k : NK} {y v d : V} {u r : Value} {o : Option V} {A : Around} {E : Value → Shared → Prop}
theorem nk_rd (I : Inv X pins σ H s) (e : Rd H a (NkO a kvs)) : NkP a kvs s.heap := (show ObjOk X.prog X.w H s.heap a (NkO a kvs) from e.ok I.hok).1
theorem nk_at (I : Inv X pins σ H s) (e : Rd H a (NkO a kvs)) (hk : KeysAt X H kvs) : kvs.length ≤ sizeLine ∧ (a == sysModules) = false ∧ ∃ xs, Nkv kvs xs ∧ (∀ x ∈ xs, HFree x.1) ∧ s.heap.DictOfH (nestedKind X.prog X.w) a xs := by
  obtain ⟨hl, hs, xs, r, hf, nd, o, es, ep, h1, h2, h3, h4⟩ := nk_rd I e
  refine ⟨hl, hs, xs, r, hf, o, es, ep, h1, h2, h3, h4 _ _, fun x hx => ?_, nd⟩
  obtain ⟨p, hp, e1, e2, _⟩ := paired_mem r x hx
  rw [← e1, ← e2]
  exact hk p hp pins σ s I
theorem nk_ty (I : Inv X pins σ H s) (e : Rd H a (NkO a kvs)) : s.TypeIs (.ref a) "dict" ∧ (∀ b, Value.ref a = .ref b → ∃ ob, s.heap.get? b = some ob ∧ ob.dict = none) ∧ (a == sysModules) = false := by
  obtain ⟨_, hs, _, _, _, _, o, _, _, h1, h2, _⟩ := nk_rd I e
  exact ⟨⟨o, h1, h2.1⟩, fun b q => by cases q; exact ⟨o, h1, h2.2.1⟩, hs⟩
theorem nk_room (hu : A.units + 9 < cLine) : (nestedKind X.prog X.w).room A.in1 := by
  show A.in1.units + 8 < cLine
  rw [Around.in1_units]; omega
/-- what the dict at a holds at y -/
def NGet (X : Cx) (H : Hp) (a : Addr) (y : V) (r : Option V) : Prop := ∃ kvs k b, Rd H a (NkO a kvs) ∧ KeysAt X H kvs ∧ y = .ref b ∧ KeyAt X H k b ∧ r = valN k kvs
theorem n_getItem {Q : Value → Shared → Prop} (hu : A.units + 9 < cLine) (I : Inv X pins σ H s) (g : NGet X H a y (some v)) (ry : RelV y u) (h : ∀ w' s', Inv X pins σ H s' → RelV v w' → Q w' s') :
    wpAny (model X.prog X.w) A (getItem (.ref a) u) Q E s := by
  obtain ⟨kvs, k, b, e, hk, ey, eb, l⟩ := g
  subst ey
  obtain rfl : u = Value.ref b := ry
  obtain ⟨_, _, xs, rel, _, dd⟩ := nk_at I e hk
  have q := rel.val k
  rw [← l] at q
  cases hp : atKey xs k with
  | none => rw [hp] at q; exact (show False from q).elim
  | some p =>
    rw [hp] at q
    exact wpAny_getItem_heap (nk_room (X := X) hu) (eb pins σ s I) dd hp (h p.2 _ (I.tok _) q)
theorem n_isSome {xs : List (NK × Addr × Value)} (rel : Nkv kvs xs) (k : NK) : (atKey xs k).isSome = (valN k kvs).isSome := by
  have q := rel.val k
  cases h1 : atKey xs k with
  | none => cases h2 : valN k kvs with
    | none => rfl
    | some v => rw [h1, h2] at q; exact (show False from q).elim
  | some p => cases h2 : valN k kvs with
    | none => rw [h1, h2] at q; exact (show False from q).elim
    | some v => rfl
theorem n_notIn {Q : Value → Shared → Prop} (hu : A.units + 9 < cLine) (I : Inv X pins σ H s) (g : NGet X H a y o) (ry : RelV y u) (h : ∀ s', Inv X pins σ H s' → Q (.bool (!o.isSome)) s') :
    wpAny (model X.prog X.w) A (compareOp .NotIn u (.ref a)) Q E s := by
  obtain ⟨kvs, k, b, e, hk, ey, eb, l⟩ := g
  subst ey l
  obtain rfl : u = Value.ref b := ry
  obtain ⟨_, hs, xs, rel, _, dd⟩ := nk_at I e hk
  refine wpAny_notIn_heap (nk_room (X := X) hu) (eb pins σ s I) hs dd ?_
  rw [n_isSome rel k]
  exact h _ (I.tok _)
/-- the heap behind a[y] = v -/
def NPut (X : Cx) (H : Hp) (a : Addr) (y v : V) (H' : Hp) : Prop := ∃ kvs k b, H a = some (NkO a kvs) ∧ KeysAt X H kvs ∧ y = .ref b ∧ KeyAt X H k b ∧ HFree k ∧ kvs.length < sizeLine ∧ H' = upd H a (NkO a (putN k b v kvs))
theorem n_new {h' : Heap} {xs : List (NK × Addr × Value)} {b : Addr} (I : Inv X pins σ H s) (e : H a = some (NkO a kvs)) (hl : kvs.length < sizeLine) (hs : (a == sysModules) = false) (rel : Nkv kvs xs) (hf : ∀ x ∈ xs, HFree x.1) (hk : HFree k) (nd : (xs.map (·.1)).Nodup) (rv : RelV v r)
    (dd : h'.DictOfH (nestedKind X.prog X.w) a (storedH xs k b r)) (sb : Heap.SameBut a s.heap h') (t' : Nat) : Inv X pins σ (upd H a (NkO a (putN k b v kvs))) { s with heap := h', toks := t' } := by
  have he : ∃ q, h'.get? a = some q := let ⟨q, _, _, hq, _⟩ := dd; ⟨q, hq⟩
  have hz : (putN k b v kvs).length ≤ sizeLine := by have := putN_len k b v kvs; omega
  exact d_write I (by rw [e]; exact True.intro) sb he (nk_ok (nk_of hz hs (rel.put k rv nd) (stored_free hf hk) dd))
theorem n_setItem {H' : Hp} {Q : Unit → Shared → Prop} (hu : A.units + 9 < cLine) (I : Inv X pins σ H s) (g : NPut X H a y v H') (ry : RelV y u) (rv : RelV v r) (h : ∀ s', Inv X pins σ H' s' → Q () s') :
    wpAny (model X.prog X.w) A (setItem (.ref a) u r) Q E s := by
  obtain ⟨kvs, k, b, e, hk, ey, eb, hfk, hl, eH⟩ := g
  subst ey eH
  obtain rfl : u = Value.ref b := ry
  obtain ⟨_, hs, xs, rel, hf, dd⟩ := nk_at I (.inl e) hk
  have nd : (xs.map (·.1)).Nodup := let ⟨_, _, _, _, _, _, _, _, q⟩ := dd; q
  refine wpAny_setItem_heap (hsz := by rw [← Paired.length rel]; omega) (nk_room (X := X) hu) (eb pins σ s I) dd fun h' dd' sb => h _ ?_
  exact n_new I e hl hs rel hf hfk nd rv dd' sb _
end

/-! ### rules -/
abbrev rInN (X : Cx) (neg : Bool) : R2 := fun y x H Q => ∃ a o, x = .ref a ∧ NGet X H a y o ∧ Q (.bl (o.isSome != neg)) H
abbrev rIxN (X : Cx) : R2 := fun x y H Q => ∃ a v, x = .ref a ∧ NGet X H a y (some v) ∧ Q v H
section
variable {X : Cx} {pos pos' apos cpos : Pos} {o i e f value : Expr} {td ty tv tx : TE}
theorem op_ninN (hu : X.A.units + 9 < cLine) : OpR X (compareOp .NotIn) (rInN X true) := by
  intro pins s σ H y x u v Q I ry rx h
  obtain ⟨a, o, ex, g, q⟩ := h
  subst ex
  obtain rfl : v = Value.ref a := rx
  exact n_notIn hu I g ry fun s3 I3 => ⟨.bl (o.isSome != true), H, I3, by cases o <;> rfl, q⟩
theorem ix_N (hu : X.A.units + 9 < cLine) : IxR X (rIxN X) := by
  intro value slice pins s σ H x y v u Q I rx ry h hs
  obtain ⟨a, z, rfl, g, q⟩ := h
  obtain rfl : v = Value.ref a := rx
  have ⟨_, _, _, e, _⟩ := g
  exact tail_any (nk_ty I e).1 PySem.F.slot_dict_getitem.lookup (n_getItem hu I g ry fun w' s3 I3 rw' => ⟨z, H, I3, rw', q⟩) hs
def sNPut (X : Cx) (td ty tv : TE) : TS := fun D σ H => tv σ H fun v H1 => td σ H1 fun x H2 => ty σ H2 fun y H3 => ∃ a H4, x = .ref a ∧ NPut X H3 a y v H4 ∧ D.nx σ H4
theorem ps_nput (hu : X.A.units + 9 < cLine) (ho : PE X o td) (hi : PE X i ty) (hv : PE X value tv) (hs : swapsWith value (some (.Subscript o i pos')) pos.line X.env = pure false) : PS X (.Assign [.Subscript o i pos'] value pos) (sNPut X td ty tv) := by
  refine ⟨fun pins s σ H D I h => ?_⟩
  refine wpAny_Assign_Subscript (thn (hv.run pins s σ H _ I h) fun r s1 z1 => ?_) hs
  obtain ⟨v, H1, I1, rv, q1⟩ := z1
  refine thn (ho.run pins s1 σ H1 _ I1 q1) fun u s2 z2 => ?_
  obtain ⟨x, H2, I2, rx, q2⟩ := z2
  refine thn (hi.run pins s2 σ H2 _ I2 q2) fun iv s3 z3 => ?_
  obtain ⟨y, H3, I3, ry, a, H4, ex, g, q3⟩ := z3
  subst ex
  obtain rfl : u = Value.ref a := rx
  exact n_setItem hu I3 g ry rv fun s4 I4 => ⟨σ, H4, I4, q3⟩
def tNGet2 (X : Cx) (td ty tx : TE) : TE := fun σ H Q => td σ H fun x H1 => ∃ a, x = .ref a ∧ (∃ kvs, Rd H1 a (NkO a kvs)) ∧ ty σ H1 fun y H2 => tx σ H2 fun z H3 => ∃ o, NGet X H3 a y o ∧ Q (o.getD z) H3
theorem nk_empty (h : Heap) (hb : sysModules < h.objs.size) : NkP h.objs.size [] (h.push { cls := .type "dict", data := .dict #[] }) :=
  ⟨Nat.zero_le _, beq_eq_false_iff_ne.mpr (Ne.symm (Nat.ne_of_lt hb)), [], .nil, (fun _ z => nomatch z), List.nodup_nil, _, #[], 0, Heap.get?_push_size _ rfl, ⟨rfl, rfl, rfl⟩, rfl, fun _ _ => rfl⟩
/-- {}, to be such a dict -/
def tNNew : TE := fun _ H Q => ∀ p, H p = none → Q (.ref p) (upd H p (NkO p []))
theorem pe_nnew : PE X (.Dict [] [] pos) tNNew := ⟨fun pins s σ H Q I h =>
  wpAny_Dict_empty ⟨.ref s.heap.objs.size, _, I.laid (a := s.heap.objs.size) (o := NkO s.heap.objs.size []) (t' := s.toks) (fun _ _ q => Heap.get?_push_of_some _ q) (Nat.le_refl _) (nk_ok (nk_empty s.heap I.big)), rfl, h _ (I.hok.fresh (Nat.le_refl _))⟩⟩
/-- {k: v} -/
def tNDisp (X : Cx) (tk tv : TE) : TE := fun σ H Q => ∀ p, H p = none → tk σ (upd H p (NkO p [])) fun y H1 => tv σ H1 fun v H2 => H2 p = some (NkO p []) ∧ ∃ H3, NPut X H2 p y v H3 ∧ Q (.ref p) H3
end
end Gx
end T_GxY1
section T_GxY2
set_option Elab.async false
set_option linter.all false
set_option maxRecDepth 100000
set_option maxHeartbeats 4000000
namespace Gx
open PySem PySem.Spec PyProof.Rows L2

section
variable {X : Cx} {pins : List (Addr × Obj)} {σ : L2.St} {H : Hp} {s : Shared} {d : Addr} {o : Obj} {kvs : Kvs}
end
def ItNk (d : Addr) (o : Obj) (kvs : Kvs) : It :=
  ⟨fun i H => H d = some (.frz o (NkO d kvs)) ∧ i < kvs.length, fun i H x H' => H' = H ∧ ∃ k b v, kvs[i]? = some (k, b, v) ∧ x = .ref b, fun i H => H d = some (.frz o (NkO d kvs)) ∧ kvs.length ≤ i⟩
def ItNv (d : Addr) (o : Obj) (kvs : Kvs) : It :=
  ⟨fun i H => H d = some (.frz o (NkO d kvs)) ∧ i < kvs.length, fun i H x H' => H' = H ∧ ∃ k b, kvs[i]? = some (k, b, x), fun i H => H d = some (.frz o (NkO d kvs)) ∧ kvs.length ≤ i⟩
def ItNi (d : Addr) (o : Obj) (kvs : Kvs) : It :=
  ⟨fun i H => H d = some (.frz o (NkO d kvs)) ∧ i < kvs.length, fun i H x H' => ∃ T k b v, kvs[i]? = some (k, b, v) ∧ x = .ref T ∧ H T = none ∧ H' = upd H T (.tup [.ref b, v]), fun i H => H d = some (.frz o (NkO d kvs)) ∧ kvs.length ≤ i⟩
section
variable {P : Program} {w : World} {K : PySem.W.Frag} {tg : Expr} {d : Addr} {o : Obj} {es : Array DictEntry} {ep : Nat} {kvs : Kvs}
end
def iNKeys (td : TE) : TI := fun σ H R => td σ H fun x H1 => ∃ d o kvs, x = .ref d ∧ H1 d = some (.frz o (NkO d kvs)) ∧ R (ItNk d o kvs) H1
def iNVals (td : TE) : TI := fun σ H R => td σ H fun x H1 => ∃ d o kvs, x = .ref d ∧ H1 d = some (.frz o (NkO d kvs)) ∧ R (ItNv d o kvs) H1
def iNItems (td : TE) : TI := fun σ H R => td σ H fun x H1 => ∃ d o kvs, x = .ref d ∧ H1 d = some (.frz o (NkO d kvs)) ∧ R (ItNi d o kvs) H1
section
variable {X : Cx} {tg e : Expr} {td : TE} {apos cpos : Pos}
/-- the view of the values, for the moment -/
def viewN (p d : Addr) : HO := .ext fun h => h.IsValuesView p d
def tNVals (td : TE) : TE := fun σ H Q => td σ H fun x H1 => ∃ d o kvs, x = .ref d ∧ H1 d = some (.frz o (NkO d kvs)) ∧ ∀ p, H1 p = none → Q (.ref p) (upd H1 p (viewN p d))
/-- list(d.values()) -/
abbrev rListN : List V → Hp → VK → Prop := fun xs H Q => ∃ p d o kvs, xs = [V.ref p] ∧ H p = some (viewN p d) ∧ H d = some (.frz o (NkO d kvs)) ∧ ∀ l, H l = none → Q (.ref l) (upd H l (.lst (kvs.map (·.2.2))))
end
end Gx
end T_GxY2
section T_GxY3
set_option Elab.async false
set_option linter.all false
set_option maxRecDepth 100000
set_option maxHeartbeats 4000000
namespace Gx
open PySem PySem.Spec PyProof.Rows L2

/-! ## a dict comprehension whose keys are nested tuples -/
abbrev dc1 (kx vx t0 i0 : Expr) (c0 : List Expr) (sc : Scope) (p : Pos) : Expr := .DictComp kx vx [⟨t0, i0, c0, 0⟩] sc p
section
variable {P : Program} {w : World} {A : Around} {R : Result → Shared → Prop} {kx vx t0 i0 : Expr} {c0 : List Expr} {sc : Scope} {p : Pos} {z : Value} {D : Addr} {en : Env}
end
/-- {k: v for tg in iter if ..}: D the new dict -/
def tNDc (K : PySem.W.Frag) (wi : TI) (g : TG) (tt : TT) (tk tv : TE) (vs : List Nat) : TE := fun σ H Q => wi σ H fun J Ha => ∀ D, Ha D = none → ∃ W : Nat → Nat → Hp → Prop, (∃ m, W 0 m (upd Ha D (NkO D []))) ∧ ∀ i m H, W i m H →
  (J.stop i H ∧ Q (.ref D) H) ∨ (J.go i H ∧ ∃ N : Hp → Prop, (∀ H', N H' → ∃ m', m' < m ∧ W (i + 1) m' H') ∧ ∀ x H', J.yld i H x H' → g x (wipe σ vs) H' fun σ2 Hb => wipe σ2 vs = wipe σ vs ∧ tt σ2 Hb fun b Hc =>
    if b = true then tk σ2 Hc fun y Hd => tv σ2 Hd fun z He => ∃ Hf, (∀ X : Cx, X.K = K → NPut X He D y z Hf) ∧ N Hf else N Hc)
end Gx
end T_GxY3
section T_GxY4
set_option Elab.async false
set_option linter.all false
set_option maxRecDepth 100000
set_option maxHeartbeats 4000000
namespace Gx
open PySem PySem.Spec PyProof.Rows L2

/-! ## dicts keyed by nested tuples: keys as data -/
theorem allN_hash {f : D → Option NK} (hf : ∀ d k, f d = some k → HFree k ∧ True) : ∀ {xs : List D} {ks : List NK}, allN f xs = some ks → ∀ w w' : World, NestedKey.hashes w ks = NestedKey.hashes w' ks
  | [], ks, h, w, w' => by cases h; rfl
  | x :: xs, ks, h, w, w' => by
    obtain ⟨k, h1, h2⟩ := Option.bind_eq_some_iff.mp h
    obtain ⟨js, h3, h4⟩ := Option.map_eq_some_iff.mp h2
    subst h4
    show NestedKey.hash w k :: NestedKey.hashes w js = NestedKey.hash w' k :: NestedKey.hashes w' js
    rw [(hf x k h1).1 w w', allN_hash hf h3 w w']
theorem nkN_free : ∀ (n : Nat) (d : D) (k : NK), nkN n d = some k → HFree k
  | n, .int i, k, h => by
    have h : some (NestedKey.num i) = some k := by cases n <;> exact h
    cases h; exact fun _ _ => rfl
  | n, .non, k, h => by
    have h : some NestedKey.none = some k := by cases n <;> exact h
    cases h; exact fun _ _ => rfl
  | n + 1, .tup xs, k, h => by
    obtain ⟨js, h3, h4⟩ := Option.map_eq_some_iff.mp (show (allN (nkN n) xs).map NestedKey.tup = some k from h)
    subst h4
    intro w w'
    have e := allN_hash (fun d k hd => ⟨nkN_free n d k hd, trivial⟩) h3 w w'
    show reduceHash _ = reduceHash _
    rw [e]
  | 0, .tup _, _, h => by cases h
  | 0, .bl _, _, h => by cases h
  | 0, .str _, _, h => by cases h
  | 0, .ty _, _, h => by cases h
  | 0, .cls _, _, h => by cases h
  | 0, .lst _, _, h => by cases h
  | 0, .dic _ _, _, h => by cases h
  | 0, .obj _ _, _, h => by cases h
  | _ + 1, .bl _, _, h => by cases h
  | _ + 1, .str _, _, h => by cases h
  | _ + 1, .ty _, _, h => by cases h
  | _ + 1, .cls _, _, h => by cases h
  | _ + 1, .lst _, _, h => by cases h
  | _ + 1, .dic _ _, _, h => by cases h
  | _ + 1, .obj _ _, _, h => by cases h
theorem allN_depth {n : Nat} {f : D → Option NK} (hf : ∀ d k, f d = some k → k.depth ≤ n) : ∀ {xs : List D} {ks : List NK}, allN f xs = some ks → NestedKey.depthAll ks ≤ n
  | [], ks, h => by cases h; exact Nat.zero_le _
  | x :: xs, ks, h => by
    obtain ⟨k, h1, h2⟩ := Option.bind_eq_some_iff.mp h
    obtain ⟨js, h3, h4⟩ := Option.map_eq_some_iff.mp h2
    subst h4
    show max k.depth (NestedKey.depthAll js) ≤ n
    exact Nat.max_le.mpr ⟨hf x k h1, allN_depth hf h3⟩
theorem nkN_depth : ∀ (n : Nat) (d : D) (k : NK), nkN n d = some k → k.depth ≤ n := by
  intro n
  induction n with
  | zero =>
    intro d k h
    cases d <;> cases h <;> exact Nat.zero_le _
  | succ n ih =>
    intro d k h
    cases d with
    | tup xs =>
      obtain ⟨js, h3, h4⟩ := Option.map_eq_some_iff.mp (show (allN (nkN n) xs).map NestedKey.tup = some k from h)
      subst h4
      exact Nat.succ_le_succ (allN_depth ih h3)
    | _ => first | (cases h; exact Nat.zero_le _) | cases h
theorem nested_of {X : Cx} {T : Tb} {F H : Hp} (hK : X.K = T.K) (l : Le F H) {pins : List (Addr × Obj)} {σ : L2.St} {s : Shared} (I : Inv X pins σ H s) : ∀ (n : Nat) (d : D) (k : NK) (v : V) (u : Value), nkN n d = some k → Rep T F d v → RelV v u → NestedIs s.heap k u := by
  intro n
  induction n with
  | zero =>
    intro d k v u h r ru
    cases d with
    | int i => cases h; cases r; obtain ⟨t, rfl⟩ := ru; exact .int i t
    | non => cases h; cases r; obtain rfl : u = Value.none := ru; exact .none
    | _ => cases h
  | succ n ih =>
    intro d k v u h r ru
    cases d with
    | int i => cases h; cases r; obtain ⟨t, rfl⟩ := ru; exact .int i t
    | non => cases h; cases r; obtain rfl : u = Value.none := ru; exact .none
    | tup xs =>
      obtain ⟨js, h3, h4⟩ := Option.map_eq_some_iff.mp (show (allN (nkN n) xs).map NestedKey.tup = some k from h)
      subst h4
      have all : ∀ (xs : List D) (js : List NK) (vs : List V) (us : List Value), allN (nkN n) xs = some js → Reps T F xs vs → Vals vs us → NestedAll s.heap js us := by
        intro xs
        induction xs with
        | nil => intro js vs us h r q; cases h; cases r; cases q; exact .nil
        | cons x xs ih2 =>
          intro js vs us h r q
          obtain ⟨j, h1, h2⟩ := Option.bind_eq_some_iff.mp h
          obtain ⟨is, h5, h6⟩ := Option.map_eq_some_iff.mp h2
          subst h6
          cases r with
          | cons r1 r2 =>
            cases q with
            | cons q1 q2 => exact .cons (ih _ _ _ _ h1 r1 q1) (ih2 _ _ _ h5 r2 q2)
      cases r with
      | @tup a vs _ hs hr =>
        obtain rfl : u = Value.ref a := ru
        have hs2 : SqT X.K H a vs := by rw [hK]; exact SqT.le l hs
        obtain ⟨its, q, ⟨o, e1, e2, m, e3⟩, _⟩ := I.tuple hs2
        exact .tup e1 e2 e3 (by simpa using all xs js vs its h3 hr q)
    | _ => cases h
/-- a key among our data stands somewhere -/
theorem key_at {X : Cx} {T : Tb} {F H : Hp} (hK : X.K = T.K) (l : Le F H) {d : D} {k : NK} {v : V} (h : nkT d = some k) (r : Rep T F d v) : ∃ b, v = .ref b ∧ KeyAt X H k b ∧ HFree k := by
  cases d with
  | tup xs =>
    have h : nkN 8 (.tup xs) = some k := h
    have r2 := r
    cases r2 with
    | @tup a vs _ hs hr => exact ⟨a, rfl, fun pins σ s I => ⟨nested_of hK l I 8 _ _ _ _ h r rfl, nkN_depth 8 _ _ h⟩, nkN_free 8 _ _ h⟩
  | _ => cases h
theorem keys_at {X : Cx} {T : Tb} {F H : Hp} (hK : X.K = T.K) (l : Le F H) : ∀ {ks : List D} {kvs : Kvs}, ks.map nkT = kvs.map (fun p => some p.1) → Reps T F ks (kvs.map fun p => V.ref p.2.1) → KeysAt X H kvs
  | [], [], _, _ => fun p hp => nomatch hp
  | [], _ :: _, e, _ => by cases e
  | _ :: _, [], e, _ => by cases e
  | c :: ks, p :: kvs, e, .cons r rs => by
    have e : nkT c :: ks.map nkT = some p.1 :: kvs.map (fun p => some p.1) := e
    obtain ⟨e1, e2⟩ := List.cons.inj e
    intro q hq
    rcases List.mem_cons.mp hq with z | z
    · subst z
      obtain ⟨b, eb, kb, _⟩ := key_at hK l e1 r
      cases eb
      exact kb
    · exact keys_at hK l e2 rs q z
/-! ## the plain functions -/
def eqK (k : NK) (c : D) : Bool := match nkT c with
  | some j => NestedKey.beq j k
  | none => false
def getN (k : NK) : List D → List D → Option D
  | c :: ks, x :: xs => if eqK k c = true then some x else getN k ks xs
  | _, _ => none
def putND (c : D) (k : NK) (d : D) : List D → List D → List D × List D
  | c0 :: ks, x :: xs => if eqK k c0 = true then (c0 :: ks, d :: xs) else (c0 :: (putND c k d ks xs).1, x :: (putND c k d ks xs).2)
  | _, _ => ([c], [d])
theorem eqK_some {k j : NK} {c : D} (h : nkT c = some j) : eqK k c = true ↔ j = k := by
  unfold eqK
  rw [h]
  constructor
  · exact fun z => NestedKey.eq_of_beq _ _ z
  · intro z; subst z; exact NestedKey.beq_self _
section
variable {T : Tb} {F : Hp}
theorem getN_rel {k : NK} : ∀ {ks xs : List D} {kvs : Kvs}, ks.map nkT = kvs.map (fun p => some p.1) → Reps T F xs (kvs.map (·.2.2)) → (∀ d, getN k ks xs = some d → ∃ v, valN k kvs = some v ∧ Rep T F d v) ∧ (getN k ks xs = none → valN k kvs = none)
  | [], _, [], _, r => by cases r; exact ⟨fun d h => (nomatch h), fun _ => rfl⟩
  | [], _, _ :: _, e, _ => by cases e
  | _ :: _, _, [], e, _ => by cases e
  | c :: ks, _, p :: kvs, e, .cons (d := x) (ds := xs) r rs => by
    have e : nkT c :: ks.map nkT = some p.1 :: kvs.map (fun p => some p.1) := e
    obtain ⟨e1, e2⟩ := List.cons.inj e
    have q := eqK_some (k := k) e1
    have hg : getN k (c :: ks) (x :: xs) = if eqK k c = true then some x else getN k ks xs := rfl
    rw [hg]
    by_cases z : p.1 = k
    · rw [if_pos (q.mpr z), valN_pos z]
      exact ⟨fun d h => ⟨_, rfl, by cases h; exact r⟩, fun h => nomatch h⟩
    · rw [if_neg fun y => z (q.mp y), valN_neg z]
      exact getN_rel e2 rs
theorem putND_rel {c : D} {k : NK} {d : D} {b : Addr} {v : V} (hc : nkT c = some k) (rc : Rep T F c (.ref b)) (rd : Rep T F d v) : ∀ {ks xs : List D} {kvs : Kvs}, ks.map nkT = kvs.map (fun p => some p.1) → Reps T F ks (kvs.map fun p => V.ref p.2.1) → Reps T F xs (kvs.map (·.2.2)) →
    (putND c k d ks xs).1.map nkT = (putN k b v kvs).map (fun p => some p.1) ∧ Reps T F (putND c k d ks xs).1 ((putN k b v kvs).map fun p => V.ref p.2.1) ∧ Reps T F (putND c k d ks xs).2 ((putN k b v kvs).map (·.2.2))
  | [], _, [], _, _, r => by
    cases r
    exact ⟨by show [nkT c] = [some k]; rw [hc], .cons rc .nil, .cons rd .nil⟩
  | [], _, _ :: _, e, _, _ => by cases e
  | _ :: _, _, [], e, _, _ => by cases e
  | c0 :: ks, _, p :: kvs, e, .cons r0 rs0, .cons (d := x) (ds := xs) r rs => by
    have e : nkT c0 :: ks.map nkT = some p.1 :: kvs.map (fun p => some p.1) := e
    obtain ⟨e1, e2⟩ := List.cons.inj e
    have q := eqK_some (k := k) e1
    have hg : putND c k d (c0 :: ks) (x :: xs) = if eqK k c0 = true then (c0 :: ks, d :: xs) else (c0 :: (putND c k d ks xs).1, x :: (putND c k d ks xs).2) := rfl
    have hp : putN k b v (p :: kvs) = if p.1 = k then (p.1, p.2.1, v) :: kvs else p :: putN k b v kvs := rfl
    rw [hg, hp]
    by_cases z : p.1 = k
    · rw [if_pos (q.mpr z), if_pos z]
      exact ⟨by show nkT c0 :: ks.map nkT = some p.1 :: kvs.map (fun p => some p.1); rw [e1, e2], .cons r0 rs0, .cons rd rs⟩
    · rw [if_neg fun y => z (q.mp y), if_neg z]
      obtain ⟨i1, i2, i3⟩ := putND_rel hc rc rd e2 rs0 rs
      exact ⟨by show nkT c0 :: (putND c k d ks xs).1.map nkT = some p.1 :: (putN k b v kvs).map (fun p => some p.1); rw [e1, i1], .cons r0 i2, .cons r i3⟩
end
/-- our own, or locked data -/
def digV (own : Own) : SV → Option (List D × List D)
  | .d (.dic (.ty 6 :: ks) xs) => some (ks, xs)
  | .h k => match own[k]? with
    | some (.dig ks xs) => some (ks, xs)
    | _ => none
  | _ => none
theorem ndic_of {T : Tb} {F : Hp} {ks xs : List D} {v : V} (r : Rep T F (.dic (.ty 6 :: ks) xs) v) : ∃ (a : Addr) (od : Obj) (kvs : Kvs), v = .ref a ∧ F a = some (.frz od (NkO a kvs)) ∧ ks.map nkT = kvs.map (fun p => some p.1) ∧ Reps T F ks (kvs.map fun p => V.ref p.2.1) ∧ Reps T F xs (kvs.map (·.2.2)) := by
  cases r with
  | @dic a kvs _ _ h1 h2 h3 =>
    cases kvs with
    | nil => cases h2
    | cons p t =>
      obtain ⟨k, v⟩ := p
      cases k <;> cases h2
  | ndic h1 h2 h3 h4 => exact ⟨_, _, _, rfl, h1, h2, h3, h4⟩
theorem dig_of {T : Tb} {B : Hp} {g : Gh} {own : Own} {H : Hp} {s : SV} {v : V} (R : HRel T B g own H) (r : RS T g own.length s v) {ks xs : List D} (h : digV own s = some (ks, xs)) :
    ∃ a, ∃ kvs : Kvs, v = .ref a ∧ Rd H a (NkO a kvs) ∧ ks.map nkT = kvs.map (fun p => some p.1) ∧ Reps T g.F ks (kvs.map fun p => V.ref p.2.1) ∧ Reps T g.F xs (kvs.map (·.2.2)) := by
  match s, r, h with
  | .d (.dic (.ty 6 :: k1) x1), r, h =>
    cases h
    obtain ⟨a, od, kvs, rfl, h1, h2, h3, h4⟩ := ndic_of (show Rep T g.F (.dic (.ty 6 :: ks) xs) v from r)
    exact ⟨a, kvs, rfl, .inr ⟨od, R.f _ _ h1⟩, h2, h3, h4⟩
  | .h k, r, h =>
    have h : (match own[k]? with | some (.dig ks xs) => some (ks, xs) | _ => none) = some (ks, xs) := h
    cases e : own[k]? with
    | none => rw [e] at h; cases h
    | some o =>
      rw [e] at h
      cases o with
      | dig k1 x1 =>
        cases h
        obtain ⟨kvs, h1, h2, h3, h4⟩ := R.o k _ e
        exact ⟨_, kvs, r.2, .inl h1, h2, h3, h4⟩
      | _ => cases h
/-- what it holds at a key of ours -/
theorem nget_of {X : Cx} {T : Tb} {B : Hp} {g : Gh} {own : Own} {H : Hp} {s : SV} {v w : V} {c : D} {k : NK} (hK : X.K = T.K) (R : HRel T B g own H) (r : RS T g own.length s v) (rc : Rep T g.F c w) (hc : nkT c = some k) {ks xs : List D} (h : digV own s = some (ks, xs)) :
    ∃ a o, v = .ref a ∧ NGet X H a w o ∧ (∀ d, getN k ks xs = some d → ∃ v, o = some v ∧ Rep T g.F d v) ∧ (getN k ks xs = none → o = none) := by
  obtain ⟨a, kvs, rfl, hd, e1, e2, e3⟩ := dig_of R r h
  obtain ⟨b, rfl, kb, _⟩ := key_at hK R.f hc rc
  obtain ⟨g1, g2⟩ := getN_rel (k := k) e1 e3
  exact ⟨a, valN k kvs, rfl, ⟨kvs, k, b, hd, keys_at hK R.f e1 e2, rfl, kb, rfl⟩, g1, g2⟩
def mInN (neg : Bool) : Own → SV → SV → Option D := fun own x y => (digV own y).bind fun p => match x with
  | .d c => (nkT c).map fun k => .bl ((getN k p.1 p.2).isSome != neg)
  | _ => none
def mIxN : Own → SV → SV → Option D := fun own x y => (digV own x).bind fun p => match y with
  | .d c => (nkT c).bind fun k => getN k p.1 p.2
  | _ => none
section
variable {X : Cx} {Y : Cy}
theorem o2_ixN (hK : X.K = Y.T.K := by rfl) : O2 Y (rIxN X) mIxN := by
  intro gh own H x y v w z Q R rx ry h k
  obtain ⟨⟨ks, xs⟩, e1, e2⟩ := Option.bind_eq_some_iff.mp h
  cases y with
  | h j => cases e2
  | d c =>
    obtain ⟨kk, e3, e4⟩ := Option.bind_eq_some_iff.mp e2
    obtain ⟨a, o, rfl, g, g1, _⟩ := nget_of hK R rx (show Rep Y.T gh.F c w from ry) e3 e1
    obtain ⟨v', rfl, rv⟩ := g1 z e4
    exact ⟨a, v', rfl, g, k gh v' H R .rfl' rv⟩
theorem in_coreN (hK : X.K = Y.T.K) {neg : Bool} : O2 Y (rInN X neg) (mInN neg) := by
  intro gh own H x y v w z Q R rx ry h k
  obtain ⟨⟨ks, xs⟩, e1, e2⟩ := Option.bind_eq_some_iff.mp h
  cases x with
  | h j => cases e2
  | d c =>
    obtain ⟨kk, e3, e4⟩ := Option.map_eq_some_iff.mp e2
    obtain ⟨a, o, rfl, g, g1, g2⟩ := nget_of hK R ry (show Rep Y.T gh.F c v from rx) e3 e1
    refine ⟨a, o, rfl, g, ?_⟩
    have eo : o.isSome = (getN kk ks xs).isSome := by
      cases q : getN kk ks xs with
      | none => rw [g2 q]; rfl
      | some d => obtain ⟨v', rfl, _⟩ := g1 d q; rfl
    rw [eo]
    subst e4
    exact k gh _ H R .rfl' (.bl _)
theorem o2_ninN (hK : X.K = Y.T.K := by rfl) : O2 Y (rInN X true) (mInN true) := in_coreN hK
end

/-! ## stores -/
def putGK (own : Own) (o i : SV) (v : D) : Option Own := match o, i with
  | .h k, .d c => match own[k]? with
    | some (.dig ks xs) => (nkT c).bind fun kk => if ks.length < sizeLine then some (own.set k (.dig (putND c kk v ks xs).1 (putND c kk v ks xs).2)) else none
    | _ => none
  | _, _ => none
def sPutN (o i v : EM) : SM := SM.bind v fun x => SM.bind o fun a => SM.bind i fun b => fun sd own => match x with
  | .d d => (putGK own a b d).map fun own' => .nx sd own'
  | _ => none
section
variable {X : Cx} {Y : Cy} {pos po apos cpos : Pos} {o i a e : Expr} {fo fi f fk fz : EM}
theorem putGK_inv {own own' : Own} {o i : SV} {v : D} (h : putGK own o i v = some own') : ∃ k c kk ks xs, o = .h k ∧ i = .d c ∧ own[k]? = some (.dig ks xs) ∧ nkT c = some kk ∧ ks.length < sizeLine ∧ own' = own.set k (.dig (putND c kk v ks xs).1 (putND c kk v ks xs).2) := by
  cases o with
  | d d => cases h
  | h k =>
    cases i with
    | h j => cases h
    | d c =>
      have h : (match own[k]? with | some (.dig ks xs) => (nkT c).bind fun kk => if ks.length < sizeLine then some (own.set k (.dig (putND c kk v ks xs).1 (putND c kk v ks xs).2)) else none | _ => none) = some own' := h
      cases eo : own[k]? with
      | none => rw [eo] at h; cases h
      | some ob =>
        rw [eo] at h
        cases ob with
        | dig ks xs =>
          obtain ⟨kk, e1, e2⟩ := Option.bind_eq_some_iff.mp h
          by_cases c2 : ks.length < sizeLine
          · rw [if_pos c2] at e2
            cases e2
            exact ⟨k, c, kk, ks, xs, rfl, rfl, eo, e1, c2, rfl⟩
          · rw [if_neg c2] at e2; cases e2
        | _ => cases h
theorem map_len_eq {α β γ : Type} {f : α → γ} {g : β → γ} {l : List α} {m : List β} (h : l.map f = m.map g) : l.length = m.length := by
  have := congrArg List.length h
  simpa using this
theorem putGK_at {gh : Gh} {own own' : Own} {H : Hp} {o i : SV} {v : D} {vo vi vv : V} (hK : X.K = Y.T.K) (R : HRel Y.T Y.B gh own H) (ro : RS Y.T gh own.length o vo) (ri : RS Y.T gh own.length i vi) (rv : Rep Y.T gh.F v vv) (h : putGK own o i v = some own') :
    ∃ a H', vo = .ref a ∧ NPut X H a vi vv H' ∧ HRel Y.T Y.B gh own' H' ∧ own'.length = own.length := by
  obtain ⟨k, c, kk, ks, xs, rfl, rfl, eo, ek, hl, rfl⟩ := putGK_inv h
  obtain ⟨kvs, h1, h2, h3, h4⟩ := R.o k _ eo
  have ho := ro.2
  subst ho
  have ri : Rep Y.T gh.F c vi := ri
  obtain ⟨b, rfl, kb, kf⟩ := key_at hK R.f ek ri
  obtain ⟨p1, p2, p3⟩ := putND_rel ek ri rv h2 h3 h4
  exact ⟨_, _, rfl, ⟨kvs, kk, b, h1, keys_at hK R.f h2 h3, rfl, kb, kf, by rw [← map_len_eq h2]; exact hl, rfl⟩, R.put (ho := NkO _ (putN kk b vv kvs)) eo rfl ⟨_, upd_same, p1, p2, p3⟩, by simp⟩
theorem rs_putN (hu : X.A.units + 9 < cLine) (ho : PE X o (trE Y fo)) (hi : PE X i (trE Y fi)) (hv : PE X a (trE Y f)) (hs : swapsWith a (some (.Subscript o i po)) pos.line X.env = pure false := by rfl) (hK : X.K = Y.T.K := by rfl) : PS X (.Assign [.Subscript o i po] a pos) (trS Y (sPutN fo fi f)) := PS.imp (ps_nput hu ho hi hv hs) fun D σ H q => by
  obtain ⟨gh, sd, own, R, S, q⟩ := q
  refine s_bind R S q fun g1 o1 x v H1 R1 S1 e1 rx q1 => ?_
  refine s_bind R1 S1 q1 fun g2 o2 y w H2 R2 S2 e2 ry q2 => ?_
  refine s_bind R2 S2 q2 fun g3 o3 z u H3 R3 S3 e3 rz q3 => ?_
  have rx3 := (rx.ext e2).ext e3
  have ry3 := ry.ext e3
  obtain ⟨r, e, k⟩ := q3
  cases x with
  | h kk => cases e
  | d d =>
    obtain ⟨own', e4, e5⟩ := Option.map_eq_some_iff.mp e
    subst e5
    obtain ⟨p, H4, rfl, dp, R4, l4⟩ := putGK_at hK R3 ry3 rz rx3 e4
    exact ⟨p, H4, rfl, dp, k g3 σ H4 R4 (by rw [l4]; exact S3) (by rw [l4]; exact .rfl')⟩
/-- d.get(k, x) -/
def eGetN (fo fk fz : EM) : EM := fo.bind fun x => (M.ask fun own => digV own x).bind fun _ => fk.bind fun y => fz.bind fun z => M.ask fun own => match y with
  | .d c => (digV own x).bind fun p => (nkT c).bind fun kk => some (match getN kk p.1 p.2 with
    | some d => SV.d d
    | none => z)
  | _ => none
/-- {} -/
def eDigH : EM := fun _ own => some (.ok (.h own.length), own ++ [.dig [] []])
theorem r_digH : PE X (.Dict [] [] pos) (trE Y eDigH) := by
  refine PE.imp pe_nnew fun σ H Q q => ?_
  obtain ⟨gh, sd, own, R, S, r, own', e, k⟩ := q
  cases e
  intro p hp
  obtain ⟨R2, e2⟩ := R.made (ho := NkO p []) (o := .dig [] []) hp ⟨[], upd_same, rfl, .nil, .nil⟩
  exact k _ _ _ R2 e2 ⟨by simp, by simp⟩
end
/-- {k: v}, locked for good -/
def eDispN (f g : EM) : EM := f.bind fun x => g.bind fun y => M.ask fun _ => match x, y with
  | .d c, .d d => (nkT c).map fun _ => .d (.dic [.ty 6, c] [d])
  | _, _ => none
section
variable {X : Cx} {Y : Cy} {pos : Pos}
end

/-! ## locking, walking -/
def sFrzN (i : Nat) (p : SM) : SM := fun sd own => match sd[i]? with
  | some (some (.h k)) => match own[k]? with
    | some (.dig ks xs) => p (sd.set i (some (.d (.dic (.ty 6 :: ks) xs)))) (own.set k .dead)
    | _ => none
  | _ => none
section
variable {X : Cx} {Y : Cy} {l : List Stmt} {p : SM}
end
def iKeyN (f : EM) : IM := f.bind fun x => match x with
  | .d (.dic (.ty 6 :: ks) _) => M.ret ks
  | _ => M.fail
def iValN (f : EM) : IM := f.bind fun x => match x with
  | .d (.dic (.ty 6 :: _) xs) => M.ret xs
  | _ => M.fail
def iItmN (f : EM) : IM := f.bind fun x => match x with
  | .d (.dic (.ty 6 :: ks) xs) => M.ret (pairD ks xs)
  | _ => M.fail
section
variable {X : Cx} {Y : Cy} {apos cpos tpos pos p : Pos} {tg e : Expr} {f : EM} {elts : List Expr} {kk : Nat}
/-- list(d.values()) -/
def eLstVal (f : EM) : EM := f.bind fun x => match x with
  | .d (.dic (.ty 6 :: _) xs) => M.ret (.d (.lst xs))
  | _ => M.fail
end
end Gx
end T_GxY4
section T_GxY5
set_option Elab.async false
set_option linter.all false
set_option maxRecDepth 100000
set_option maxHeartbeats 4000000
namespace Gx
open PySem PySem.Spec PyProof.Rows L2

/-! ## dict comprehensions keyed by nested tuples -/
def dnL (tg : GM) (t : TM) (fk fv : EM) (sd0 : Sl) : List D → List D × List D → Own → Option ((List D × List D) × Own)
  | [], a, own => some (a, own)
  | x :: xs, a, own => match tg x sd0 with
    | none => none
    | some sd1 => match t sd1 own with
      | some (.ok true, o1) => (match fk sd1 o1 with
        | some (.ok (.d c), o2) => (match nkT c with
          | some k => (match fv sd1 o2 with
            | some (.ok (.d d), o3) => dnL tg t fk fv sd0 xs (putND c k d a.1 a.2) o3
            | _ => none)
          | none => none)
        | _ => none)
      | some (.ok false, o1) => dnL tg t fk fv sd0 xs a o1
      | _ => none
def dnM (src : IM) (vs : List Nat) (tg : GM) (t : TM) (fk fv : EM) : M (List D × List D) := src.bind fun xs => fun sd own => if xs.length < sizeLine then (match dnL tg t fk fv (wipeD sd vs) xs ([], []) own with
  | some (a, o) => some (.ok a, o)
  | none => none) else none
/-- locked data -/
def eDCN (src : IM) (vs : List Nat) (tg : GM) (t : TM) (fk fv : EM) : EM := (dnM src vs tg t fk fv).bind fun a => M.ret (.d (.dic (.ty 6 :: a.1) a.2))
section
variable {X : Cx} {Y : Cy} {tgx iter kx vx : Expr} {ifs : List Expr} {scope : Scope} {own : List (Str × Nat)} {pos : Pos} {src : IM} {tg : GM} {gg : TG} {is : List Nat} {t : TM} {fk fv : EM}
end
end Gx
namespace Gx
theorem _root_.L2.Room.u9 {k : Nat} {A : PySem.Around} (r : L2.Room k A) : A.units + 9 < PySem.cLine := by have := r.un; omega
end Gx
end T_GxY5
section T_GxY6
set_option Elab.async false
set_option linter.all false
set_option maxRecDepth 100000
set_option maxHeartbeats 4000000
namespace Gx
open PySem PySem.Spec PyProof.Rows L2

def rOnce (K : PySem.W.Frag) : R2 := fun x y H Q => ∃ l xs, x = .ref l ∧ y = .int 1 ∧ SqT K H l xs ∧ Q (.ref l) H
section
variable {X : Cx}
abbrev rRepA (K : PySem.W.Frag) : R2 := fun x y H Q => rOnce K x y H Q ∨ rRepT K x y H Q
end
def mRepT : Own → SV → SV → Option D := fun _ x y => match x, y with
  | .d (.tup xs), .d (.int k) => if k = 1 then some (.tup xs) else if xs ≠ [] ∧ 2 ≤ k ∧ k ≤ 1000 ∧ xs.length ≤ 1000 then some (.tup (List.replicate k.toNat xs).flatten) else none
  | _, _ => none
end Gx
end T_GxY6
section T_GxZ1
set_option Elab.async false
set_option linter.all false
set_option maxRecDepth 100000
set_option maxHeartbeats 4000000
namespace Gx
open PySem PySem.Spec PyProof.Rows L2

/-! ## {**d, k: v}: a mapping's pairs into a dict of ours -/
section
variable {prog : Program} {w : World} {K : Type} [DecidableEq K] {knd : KeyKind prog w K} {A : Around} {E : Value → Shared → Prop} {s : Shared}
theorem put_pairs {d : Addr} {kvs : List (K × Value)} {k : K} {key v : Value} {Q : Unit → Shared → Prop} (hkey : knd.is k key = true) (hm : s.heap.DictOf knd d kvs) (hsz : kvs.length ≤ sizeLine)
    (hQ : ∀ h', h'.DictOf knd d (stored kvs k v) → Heap.SameBut d s.heap h' → Q () { s with heap := h' }) :
    wpAny (model prog w) A (dictPut d (knd.hash k) key v) Q E s := by
  obtain ⟨o, es, ep, ho, hc, hd, hk, hp, hn⟩ := hm
  have le : es.size ≤ sizeLine := by
    have := hp.length
    rw [Array.length_toList] at this
    omega
  have at_ : (es.findIdx? fun e => knd.is k e.key) = kvs.findIdx? fun kv => decide (kv.1 = k) := by
    have := hp.findIdx k
    rw [← this]
    cases es
    simp
  unfold dictPut
  refine wpAny_bind (wpAny_dictFind_of hkey ho hd hk ?_)
  cases hi : es.findIdx? fun e => knd.is k e.key with
  | some i =>
    have hs : stored kvs k v = kvs.map fun kv => if kv.1 = k then (kv.1, v) else kv := by
      rw [stored, if_pos (any_of_findIdx_some (at_ ▸ hi))]
    refine wpAny_updateDict ho hd (hQ _ ?_ (Heap.SameBut.update ..))
    have hl : (es.toList.findIdx? fun e => knd.is k e.key) = some i := by
      rw [← hi]
      cases es
      simp
    have md := hp.modify hn hl v
    refine ⟨_, _, ep, Heap.get?_update_self _ ho (Obj.isFreed_of_dict (Obj.data_mapDict hd _)), hc.mapDict _, Obj.data_mapDict hd _, hk.modify _ _, ?_, ?_⟩
    · rw [stored, if_pos (any_of_findIdx_some (at_ ▸ hi))]
      cases es
      simpa using md
    · rw [stored, if_pos (any_of_findIdx_some (at_ ▸ hi)), keys_map_store]
      exact hn
  | none =>
    have out : k ∉ kvs.map (·.1) := not_mem_of_findIdx_none (at_ ▸ hi)
    have none_ : ¬ (kvs.any fun kv => decide (kv.1 = k)) = true := fun z => by
      obtain ⟨kv, hkv, he⟩ := List.any_eq_true.mp z
      exact out (List.mem_map.mpr ⟨kv, hkv, of_decide_eq_true he⟩)
    have ap := hp.append hkey (knd.hash k) v
    refine wpAny_updateDictKeys (hz := le) ho hd (hQ _ ?_ (Heap.SameBut.update ..))
    refine ⟨_, _, ep + 1, Heap.get?_update_self _ ho (Obj.isFreed_of_dict (Obj.data_mapDictKeys hd _)), hc.mapDictKeys _, Obj.data_mapDictKeys hd _, hk.push hkey _, ?_, ?_⟩
    · rw [stored, if_neg none_]
      cases es
      simpa using ap
    · rw [stored, if_neg none_, List.map_append, List.nodup_append]
      refine ⟨hn, by simp, fun a ha b hb z => ?_⟩
      simp only [List.map_cons, List.map_nil, List.mem_singleton] at hb
      exact out (hb ▸ z ▸ ha)
theorem merge_map {d o : Addr} {kvs more : List (K × Value)} {Q : Unit → Shared → Prop} (hdo : d ≠ o) (hoS : (o == sysModules) = false) (hb : ∀ k u, knd.is k u = true → ∀ a, u ≠ .ref a)
    (hd : s.heap.DictOf knd d kvs) (ho : s.heap.DictOf knd o more) (hsz : kvs.length + more.length ≤ sizeLine)
    (hQ : ∀ h', h'.DictOf knd d (merged kvs more) → h'.DictOf knd o more → Heap.SameBut d s.heap h' → Q () { s with heap := h' }) :
    wpAny (model prog w) A (mergeMapping d (.ref o) false) Q E s := by
  have ty := ho.typeIs
  have tyd := hd.typeIs
  obtain ⟨od, esd, epd, god, cod, dod, kod, pod, nod⟩ := id hd
  obtain ⟨oo, eso, epo, goo, coo, doo, koo, poo, noo⟩ := id ho
  have len : more.length = eso.size := by
    have := poo.length
    rw [Array.length_toList] at this
    exact this.symm
  unfold mergeMapping
  refine wpAny_bind (wpAny_isInstance ty isSubtype_dict_dict ?_)
  simp only [if_true]
  refine wpAny_bind (wpAny_specialOf ty F.slot_dict_iter.lookup (wpAny_bind (wpAny_pure ?_)))
  simp only [beq_self_eq_true, hoS, Bool.false_eq_true, if_false]
  have loop : wpAny (model prog w) A (do
      let l ← dictEntries o
      let epoch ← dictEpoch o
      let _ ← forIn (List.range l.size) PUnit.unit fun i (_ : PUnit) => (do
        let l' ← dictEntries o
        match l'[i]? with
        | some e => do
          holding [e.key, e.val] (dictPut d e.hash e.key e.val)
          let ep' ← dictEpoch o
          if (ep' != epoch) = true then do
              (unsupported "dict.changed-during-merge" : Sem PUnit)
              pure (ForInStep.yield PUnit.unit)
            else pure (ForInStep.yield PUnit.unit)
        | _ => do
          (unsupported "dict.changed-during-merge" : Sem PUnit)
          pure (ForInStep.yield PUnit.unit) : Sem (ForInStep PUnit))
      pure ()) Q E s := by
    refine wpAny_bind (wpAny_dictEntries goo doo ?_)
    refine wpAny_bind (wpAny_dictEpoch goo doo ?_)
    refine wpAny_bind ?_
    refine wpAny_forIn_list _
      (fun rest _ s' => ∃ h' i, s' = { s with heap := h' } ∧ rest = (List.range eso.size).drop i ∧ i ≤ eso.size ∧ h'.DictOf knd d (merged kvs (more.take i)) ∧ h'.get? o = some oo ∧ Heap.SameBut d s.heap h')
      _ ?_ ?_ _ _ ⟨s.heap, 0, rfl, rfl, Nat.zero_le _, by simpa [merged] using hd, goo, Heap.SameBut.refl _ _⟩
    · rintro x rest b s' ⟨h', i, rfl, hr, hi, hd', goo', hs'⟩
      have lt : i < eso.size := by
        rcases Nat.lt_or_ge i eso.size with h | h
        · exact h
        · rw [List.drop_eq_nil_of_le (by simpa using h)] at hr
          cases hr
      rw [List.drop_eq_getElem_cons (by simpa using lt)] at hr
      obtain ⟨hx, hrest⟩ := List.cons.inj hr
      have hx : x = i := by simpa using hx
      subst hx
      refine wpAny_bind (wpAny_dictEntries goo' doo ?_)
      rw [Array.getElem?_eq_getElem lt]
      have hkv := List.getElem?_eq_getElem (l := more) (i := x) (by rw [len]; exact lt)
      generalize more[x]'(by rw [len]; exact lt) = kv at hkv
      obtain ⟨k, v⟩ := kv
      obtain ⟨hkey, hval⟩ := poo.get? (e := eso[x]) (by simp [lt]) hkv
      obtain ⟨k', hkey', hhash⟩ := koo eso[x] (Array.getElem_mem lt)
      obtain rfl : k' = k := knd.inj _ _ _ hkey' hkey
      show wpAny _ _ (holding [eso[x].key, eso[x].val] (dictPut d eso[x].hash eso[x].key eso[x].val) >>= _) _ _ _
      rw [hhash, hval]
      have room : (merged kvs (more.take x)).length ≤ sizeLine := by
        have e1 := merged_length_le kvs (more.take x)
        have e2 : (more.take x).length ≤ more.length := by rw [List.length_take]; omega
        omega
      refine wpAny_bind (wpAny_holding (put_pairs hkey hd' room fun h2 hd2 hs2 => ?_))
      have goo2 : h2.get? o = some oo := (hs2.2 o (Ne.symm hdo)).trans goo'
      refine wpAny_bind (wpAny_dictEpoch goo2 doo ?_)
      rw [if_neg (by simp)]
      exact wpAny_pure ⟨h2, x + 1, rfl, hrest, lt, by rw [merged_take_succ kvs more x (k', v) hkv]; exact hd2, goo2, hs'.trans hs2⟩
    · rintro b s' ⟨h', i, rfl, hr, hi, hd', goo', hs'⟩
      have ii : i = eso.size := by
        rcases Nat.lt_or_ge i eso.size with h | h
        · rw [List.drop_eq_getElem_cons (by simpa using h)] at hr
          cases hr
        · exact Nat.le_antisymm hi h
      refine wpAny_pure (hQ h' ?_ ⟨oo, eso, epo, goo', coo, doo, koo, poo, noo⟩ hs')
      rw [ii, ← len, List.take_length] at hd'
      exact hd'
  refine wpAny_bind (wpAny_dictEntries god dod ?_)
  split
  · refine wpAny_bind (wpAny_dictEntries goo doo ?_)
    refine wpAny_bind (wpAny_of_eq (?_ : _ = pure PUnit.unit) ?_)
    · rw [← Array.forIn_toList]
      refine forIn_yield_id _ fun e he c => ?_
      obtain ⟨k, hkey, _⟩ := koo e (Array.mem_toList_iff.mp he)
      have nr := hb k _ hkey
      cases e with
      | mk hh kk vv =>
        cases kk with
        | ref a => exact absurd rfl (nr a)
        | _ => rfl
    · exact loop
  · exact loop
end
end Gx
end T_GxZ1
section T_GxZ2
set_option Elab.async false
set_option linter.all false
set_option maxRecDepth 100000
set_option maxHeartbeats 4000000
namespace Gx
open PySem PySem.Spec PyProof.Rows L2
section
variable {prog : Program} {w : World} {A : Around} {E : Value → Shared → Prop} {s : Shared}
def dcNever : Value → Shared → Prop := fun _ _ => False
theorem disp_copy {v0 k v1 : Sem Value} {Q : Value → Shared → Prop}
    (h : wpAny (model prog w) A v0 (fun m s1 => wpAny (model prog w) A (mergeMapping s.heap.objs.size m false) (fun _ s2 => wpAny (model prog w) A (subDict [(k, v1)]) (fun sub s3 =>
      wpAny (model prog w) A (mergeMapping s.heap.objs.size (.ref sub) false) (fun _ s4 => Q (.ref s.heap.objs.size) s4) dcNever s3) E s2) dcNever s1) E { s with heap := s.heap.push { cls := .type "dict", data := .dict #[] } }) :
    wpAny (model prog w) A (dictDisplay [(none, v0), (some k, v1)]) Q E s := by
  unfold dictDisplay
  simp only [List.forIn_cons, List.forIn_nil, List.isEmpty_nil, if_true, pure_bind, bind_assoc, List.nil_append]
  refine wpAny_bind (wpAny_alloc ?_)
  refine wpAny_bind (wpAny_holding (wpAny_mono h (fun m s1 h1 => ?_) fun _ _ e => e))
  refine wpAny_bind (wpAny_onRaise (wpAny_tryCatch (wpAny_onRaise (wpAny_holding (wpAny_mono h1 (fun _ s2 h2 => ?_) fun _ _ e => e.elim)))))
  refine wpAny_bind (wpAny_pure (wpAny_bind (wpAny_pure (wpAny_bind (wpAny_bind (wpAny_holding (wpAny_mono h2 (fun sub s3 h3 => ?_) fun _ _ e => e)))))))
  refine wpAny_bind (wpAny_onRaise (wpAny_holding (wpAny_mono h3 (fun _ s4 h4 => ?_) fun _ _ e => e.elim)))
  exact wpAny_pure (wpAny_pure h4)
end
end Gx
end T_GxZ2
section T_GxZ3
set_option Elab.async false
set_option linter.all false
set_option maxRecDepth 100000
set_option maxHeartbeats 4000000
namespace Gx
open PySem PySem.Spec PyProof.Rows L2
theorem mix_no {P : Program} {w : World} : ∀ (k : Key) (u : Value), (mixKind P w).is k u = true → ∀ a, u ≠ .ref a := by
  intro k u h a e
  subst e
  cases k <;> cases h
/-- {**o, k: v} -/
def tCpy (to tk tv : TE) : TE := fun σ H Q => ∀ p, H p = none → to σ (upd H p (.dK [])) fun x H1 => ∃ a kvs, x = .ref a ∧ H1 p = some (.dK []) ∧ p ≠ a ∧ Rd H1 a (.dK kvs) ∧ kvs.length ≤ 1000 ∧
  ∀ q, upd H1 p (.dK (mergeK [] kvs)) q = none → tPairs [(tk, tv)] σ (upd (upd H1 p (.dK (mergeK [] kvs))) q (.dK [])) fun ps H3 => ∃ key z, ps = [(kV key, z)] ∧ H3 p = some (.dK (mergeK [] kvs)) ∧ H3 q = some (.dK []) ∧ p ≠ q ∧
    Q (.ref p) (upd (upd H3 q (.dK (mergeK [] [(key, z)]))) p (.dK (mergeK (mergeK [] kvs) [(key, z)])))
theorem pe_dcpy {X : Cx} {pos : Pos} {a0 k0 v0 : Expr} {to tk tv : TE} (ho : PE X a0 to) (hk : PE X k0 tk) (hv : PE X v0 tv) : PE X (.Dict [none, some k0] [a0, v0] pos) (tCpy to tk tv) := by
  refine ⟨fun pins s σ H Q I q => ?_⟩
  rw [arm_eval_Dict]
  refine wpAny_bind (wpAny_standAt ?_)
  have hn := I.hok.fresh (Nat.le_refl s.heap.objs.size)
  have I1 := I.laid (a := s.heap.objs.size) (o := .dK []) (h' := s.heap.push { cls := .type "dict", data := .dict #[] }) (t' := s.toks) (fun _ _ q => Heap.get?_push_of_some _ q) (Nat.le_refl _) (dk_empty s.heap I.big)
  generalize hp : s.heap.objs.size = p at hn I1
  refine disp_copy ?_
  rw [hp]
  refine wpAny_bind (thn (ho.run pins _ σ _ _ I1 (q _ hn)) fun u s1 ⟨x, H1, I2, rx, a, kvs, ex, e1, ne, rd, lk, q1⟩ => ?_)
  subst ex
  obtain rfl : u = Value.ref a := rx
  refine wpAny_bind (wpAny_standAt (wpAny_pure ?_))
  obtain ⟨_, hd, vs0, r0, dp⟩ := dk_of I2.hok e1
  cases r0
  obtain ⟨_, ha, vs, r1, da⟩ := dk_rd I2.hok rd
  have hl : vs.length = kvs.length := r1.length.symm
  refine merge_map ne ha mix_no dp da (by rw [sizeLine_eq, hl, List.length_nil]; omega) fun h' dp' da' hs => ?_
  have hz : (mergeK [] kvs).length ≤ 1000 := by
    have := length_mergeK kvs []
    rw [List.length_nil] at this
    omega
  have he : ∃ o, h'.get? p = some o := let ⟨o, _, _, ho, _⟩ := dp'; ⟨o, ho⟩
  have I3 := d_write (t' := s1.toks) (ob := .dK (mergeK [] kvs)) I2 (by rw [e1]; exact True.intro) hs he (dk_new (by rw [sizeLine_eq]; omega) hd (r1.merge .nil) dp')
  generalize hs3 : ({ s1 with heap := h', toks := s1.toks } : Shared) = s3 at I3 ⊢
  have hn4 := I3.hok.fresh (Nat.le_refl s3.heap.objs.size)
  have I4 := I3.laid (a := s3.heap.objs.size) (o := .dK []) (h' := s3.heap.push { cls := .type "dict", data := .dict #[] }) (t' := s3.toks) (fun _ _ q => Heap.get?_push_of_some _ q) (Nat.le_refl _) (dk_empty s3.heap I3.big)
  have q2 := q1 _ hn4
  generalize hq : s3.heap.objs.size = b at hn4 I4 q2
  refine wpAny_subDict (knd := mixKind X.prog X.w) (Nat.succ_le_succ (Nat.zero_le 14)) ?_
  rw [hq]
  have PP : PPs X pos [some k0] [v0] [(tk, tv)] := pps_cons hk hv pps_nil
  refine thn (PP.run pins _ σ _ _ I4 q2) fun ws s5 ⟨ps, H3, I5, rel, key, z, ep, g1, g2, npb, q3⟩ => ?_
  subst ep
  obtain ⟨rs, c, rk⟩ := carries_of (P := X.prog) (w := X.w) (kvs := [(key, z)]) rel
  obtain ⟨_, hdq, vsq, rq, dq⟩ := dk_of I5.hok g2
  cases rq
  refine ⟨rs, c, dq, fun h6 dq6 hs6 => ?_⟩
  have he6 : ∃ o, h6.get? b = some o := let ⟨o, _, _, ho, _⟩ := dq6; ⟨o, ho⟩
  have I6 := d_write (t' := s5.toks + ws.length) (ob := .dK (mergeK [] [(key, z)])) I5 (by rw [g2]; exact True.intro) hs6 he6 (dk_new (by rw [sizeLine_eq]; have := length_mergeK [(key, z)] []; simp at this; omega) hdq (rk.merge .nil) dq6)
  generalize hs7 : ({ s5 with heap := h6, toks := s5.toks + ws.length } : Shared) = s7 at I6 ⊢
  have gp : upd H3 b (.dK (mergeK [] [(key, z)])) p = some (.dK (mergeK [] kvs)) := by rw [upd_ne npb]; exact g1
  have gb : upd H3 b (.dK (mergeK [] [(key, z)])) b = some (.dK (mergeK [] [(key, z)])) := upd_same
  obtain ⟨_, hdp, vp, rp, dp7⟩ := dk_of I6.hok gp
  obtain ⟨_, hdb, vb, rb, db7⟩ := dk_of I6.hok gb
  have e1l := rp.length
  have e2l := rb.length
  have e3l := length_mergeK [(key, z)] []
  rw [List.length_nil, List.length_singleton] at e3l
  refine merge_map npb hdb mix_no dp7 db7 (by rw [sizeLine_eq]; omega) fun h8 dp8 db8 hs8 => ?_
  have he8 : ∃ o, h8.get? p = some o := let ⟨o, _, _, ho, _⟩ := dp8; ⟨o, ho⟩
  have hm : mergeK [] [(key, z)] = [(key, z)] := rfl
  rw [hm] at rb gb
  have hz8 := length_mergeK [(key, z)] (mergeK [] kvs)
  rw [List.length_singleton] at hz8
  have I8 := d_write (t' := s7.toks) (ob := .dK (mergeK (mergeK [] kvs) [(key, z)])) I6 (by rw [gp]; exact True.intro) hs8 he8 (dk_new (by rw [sizeLine_eq]; omega) hdp (rb.merge rp) dp8)
  exact ⟨.ref p, _, I8, rfl, q3⟩
end Gx
end T_GxZ3
section T_GxZ4
set_option Elab.async false
set_option linter.all false
set_option maxRecDepth 100000
set_option maxHeartbeats 4000000
namespace Gx
open PySem PySem.Spec PyProof.Rows L2
def keysOf : List D → Option (List Key)
  | [] => some []
  | d :: r => (keyOf d).bind fun k => (keysOf r).map (k :: ·)
theorem keysOf_map : ∀ (kvs : List (Key × V)), keysOf (kvs.map fun p => keyD p.1) = some (kvs.map (·.1))
  | [] => rfl
  | p :: r => by
    show (keyOf (keyD p.1)).bind (fun k => (keysOf (r.map fun p => keyD p.1)).map (k :: ·)) = _
    rw [keyOf_keyD, keysOf_map r]
    rfl
/-- a data dict, its pairs one after the other -/
def cpyD : D → Option (List D × List D)
  | .dic ks xs => if six ks = true then none else (keysOf (unM ks)).bind fun js => if js.length ≤ 1000 ∧ js.length = xs.length then some (mergeD (js.zip xs) ([], [])) else none
  | _ => none
def eCpyK (fo fk fv : EM) : EM := fo.bind fun x => (M.ask fun _ => match x with
  | .d d => cpyD d
  | _ => none).bind fun kx => fk.bind fun y => fv.bind fun z => M.ask fun _ => match y, z with
  | .d a, .d b => (keyOf a).map fun k => .d (.dic (mergeD [(k, b)] kx).1 (mergeD [(k, b)] kx).2)
  | _, _ => none
theorem zip_fst {α β : Type} : ∀ (a : List α) (b : List β), a.length = b.length → (a.zip b).map (·.1) = a ∧ (a.zip b).map (·.2) = b
  | [], [], _ => ⟨rfl, rfl⟩
  | x :: a, y :: b, h => by
    obtain ⟨h1, h2⟩ := zip_fst a b (Nat.succ.inj h)
    exact ⟨by rw [List.zip_cons_cons, List.map_cons, h1], by rw [List.zip_cons_cons, List.map_cons, h2]⟩
theorem Reps.len {T : Tb} {F : Hp} : ∀ {xs : List D} {vs : List V}, Reps T F xs vs → xs.length = vs.length
  | _, _, .nil => rfl
  | _, _, .cons _ t => by rw [List.length_cons, List.length_cons, Reps.len t]
theorem cpy_of {T : Tb} {F : Hp} {d : D} {v : V} {kx : List D × List D} (r : Rep T F d v) (h : cpyD d = some kx) : ∃ a kvs, v = .ref a ∧ Rd F a (.dK kvs) ∧ kvs.length ≤ 1000 ∧ kx.1 = (mergeK [] kvs).map (fun p => keyD p.1) ∧ Reps T F kx.2 ((mergeK [] kvs).map (·.2)) := by
  have key : ∀ {a : Addr} {kvs : List (Key × V)} {ks xs : List D}, Rd F a (.dK kvs) → ks = kvs.map (fun p => keyD p.1) → Reps T F xs (kvs.map (·.2)) →
      ((keysOf ks).bind fun js => if js.length ≤ 1000 ∧ js.length = xs.length then some (mergeD (js.zip xs) ([], [])) else none) = some kx → ∃ a' kvs', V.ref a = .ref a' ∧ Rd F a' (.dK kvs') ∧ kvs'.length ≤ 1000 ∧ kx.1 = (mergeK [] kvs').map (fun p => keyD p.1) ∧ Reps T F kx.2 ((mergeK [] kvs').map (·.2)) := by
    intro a kvs ks xs rd e rs h
    subst e
    rw [keysOf_map] at h
    have h : (if (kvs.map (·.1)).length ≤ 1000 ∧ (kvs.map (·.1)).length = xs.length then some (mergeD ((kvs.map (·.1)).zip xs) ([], [])) else none) = some kx := h
    split at h
    case isFalse => cases h
    rename_i c
    cases h
    obtain ⟨z1, z2⟩ := zip_fst _ _ c.2
    have := mergeD_rel (T := T) (F := F) (ps := (kvs.map (·.1)).zip xs) (qs := kvs) (kvs := []) (xs := []) (by rw [z1]) (by rw [z2]; exact rs) .nil
    exact ⟨a, kvs, rfl, rd, by rw [← List.length_map (f := (·.1))]; exact c.1, this.1, this.2⟩
  cases r with
  | dic rd e rs =>
    rename_i a kvs ks xs
    have h : (if six ks = true then none else (keysOf (unM ks)).bind fun js => if js.length ≤ 1000 ∧ js.length = xs.length then some (mergeD (js.zip xs) ([], [])) else none) = some kx := h
    split at h
    · cases h
    · refine key rd ?_ rs h
      subst e
      cases kvs with
      | nil => rfl
      | cons p r => obtain ⟨k, _⟩ := p; cases k <;> rfl
  | ldic rd e rs =>
    rename_i a od kvs ks xs
    have h : (if six (.ty 5 :: ks) = true then none else (keysOf (unM (.ty 5 :: ks))).bind fun js => if js.length ≤ 1000 ∧ js.length = xs.length then some (mergeD (js.zip xs) ([], [])) else none) = some kx := h
    split at h
    · cases h
    · exact key (.inr ⟨_, rd⟩) (show unM (.ty 5 :: ks) = _ by exact e) rs h
  | ndic _ _ _ _ =>
    cases h
  | _ => cases h
/-- a step while objects that are not yet ours stand by -/
theorem guards_bind {α β γ δ : Type} {Y : Cy} {relA : Gh → Nat → α → β → Prop} {relC : Gh → Nat → γ → δ → Prop} {g : Gh} {σ : L2.St} {own : Own} {sd : Sl} {H B2 : Hp} {f : M α} {k : α → M γ} {Q : δ → Hp → Prop} {Q1 : β → Hp → Prop} (l : Le Y.B B2) (R1 : HRel Y.T B2 g own H) (S1 : SRel Y.T g own.length sd σ) (h : At Y relC g sd own σ Q (f.bind k))
    (c : ∀ g1 o1 x v H1, HRel Y.T B2 g1 o1 H1 → SRel Y.T g1 o1.length sd σ → GExt B2 g own.length g1 o1.length → relA g1 o1.length x v → At Y relC g1 sd o1 σ Q (k x) → Q1 v H1) : trM ⟨Y.T, B2, Y.Ek⟩ relA f σ H Q1 := by
  obtain ⟨r, own', e, q⟩ := h
  refine ⟨g, sd, own, R1, S1, ?_⟩
  unfold M.bind at e
  cases ef : f sd own with
  | none => rw [ef] at e; cases e
  | some pr =>
    obtain ⟨r0, o1⟩ := pr
    rw [ef] at e
    cases r0 with
    | ok x => exact ⟨.ok x, o1, ef, fun g' v H' R' x' rx => c g' o1 x v H' R' (S1.ext (x'.less l)) x' rx ⟨r, own', e, q.shift (x'.less l)⟩⟩
    | ex k fs =>
      cases e
      exact ⟨.ex k fs, _, ef, fun g' d H' R' e' x => q g' d H' (R'.less l) (e'.less l) x⟩
theorem guards_none {B2 : Hp} {g g' : Gh} {n n' : Nat} {p : Addr} {u : HO} (e : GExt B2 g n g' n') (hp : B2 p = some u) (h : g.F p = none) : g'.F p = none := by
  cases q : g'.F p with
  | none => rfl
  | some w =>
    rcases e.fb _ _ q with z | z
    · rw [h] at z; cases z
    · rw [hp] at z; cases z
section
variable {X : Cx} {Y : Cy} {pos : Pos} {a0 k0 v0 : Expr} {fo fk fv : EM}
theorem r_cpyK (ho : ∀ B, PE X a0 (trE ⟨Y.T, B, Y.Ek⟩ fo)) (hk : ∀ B, PE X k0 (trE ⟨Y.T, B, Y.Ek⟩ fk)) (hv : ∀ B, PE X v0 (trE ⟨Y.T, B, Y.Ek⟩ fv)) : PE X (.Dict [none, some k0] [a0, v0] pos) (trE Y (eCpyK fo fk fv)) := by
  refine PE.imp (pe_dcpy (pe_anyP ho) (pe_anyP hk) (pe_anyP hv)) fun σ H Q q => ?_
  obtain ⟨gh, sd, own, R, S, q⟩ := q
  intro p hp
  obtain ⟨hB, hF⟩ := R.free hp
  refine ⟨_, guard_bind hB hF (R.guard hp) S q fun g1 o1 x v H1 R1 S1 e1 F1 rx q1 => ?_⟩
  obtain ⟨kx, ek, q2⟩ := ask_at q1
  cases x with
  | h k => cases ek
  | d d =>
    obtain ⟨a, kvs, rfl, rd, lk, m1, m2⟩ := cpy_of (show Rep Y.T g1.F d v from rx) ek
    have rdH : Rd H1 a (.dK kvs) := Rd.le R1.f rd
    have ne : p ≠ a := fun z => by
      subst z
      rcases rd with rd | ⟨_, rd⟩ <;> rw [F1] at rd <;> cases rd
    refine ⟨a, kvs, rfl, R1.b _ _ upd_same, ne, rdH, lk, fun b hb => ?_⟩
    have R2 : HRel Y.T (upd Y.B p (.dK (mergeK [] kvs))) g1 o1 (upd H1 p (.dK (mergeK [] kvs))) := R1.reb (u' := .dK (mergeK [] kvs)) F1
    have hB2 := R2.free hb
    have pb : p ≠ b := fun z => by subst z; rw [upd_same] at hb; cases hb
    have R3 := R2.guard (u := .dK []) hb
    have l2 : Le Y.B (upd (upd Y.B p (.dK (mergeK [] kvs))) b (.dK [])) := (Le.upd hB).trans (Le.upd hB2.1)
    have Bp : (upd (upd Y.B p (.dK (mergeK [] kvs))) b (.dK [])) p = some (.dK (mergeK [] kvs)) := by rw [upd_ne pb]; exact upd_same
    have Bb : (upd (upd Y.B p (.dK (mergeK [] kvs))) b (.dK [])) b = some (.dK []) := upd_same
    refine ⟨_, guards_bind l2 R3 S1 q2 fun g2 o2 y vy H2 R4 S4 e2 ry q3 => ?_⟩
    refine ⟨_, guards_bind l2 R4 S4 q3 fun g3 o3 z vz H3 R5 S5 e3 rz q4 => ?_⟩
    obtain ⟨s, es, q5⟩ := at_ask q4
    have F3p : g3.F p = none := guards_none e3 Bp (guards_none e2 Bp F1)
    have F3b : g3.F b = none := guards_none e3 Bb (guards_none e2 Bb hB2.2)
    cases y with
    | h kk => cases z <;> cases es
    | d da =>
      cases z with
      | h kk => cases es
      | d db =>
        obtain ⟨key, ek2, rfl⟩ := Option.map_eq_some_iff.mp (show (keyOf da).map _ = some s from es)
        have ev := keyOf_rel ek2 (show Rep Y.T g3.F da vy from (ry.ext e3))
        subst ev
        have R6 := R5.reb (u' := .dK (mergeK [] [(key, vz)])) F3b
        obtain ⟨R7, e7⟩ := R6.unguard F3b hB2.1
        have F7p : (upd g3.F b (.dK (mergeK [] [(key, vz)]))) p = none := by rw [upd_ne pb]; exact F3p
        have R8 := R7.reb (u' := .dK (mergeK (mergeK [] kvs) [(key, vz)])) F7p
        obtain ⟨R9, e9⟩ := R8.unguard F7p hB
        have m3 := mergeD_rel (T := Y.T) (F := g3.F) (ps := [(key, db)]) (qs := [(key, vz)]) (kvs := mergeK [] kvs) (xs := kx.2) rfl (.cons rz .nil) ((m2.le e2.F).le e3.F)
        rw [← m1] at m3
        refine ⟨key, vz, rfl, R5.b _ _ Bp, R5.b _ _ Bb, pb, ?_⟩
        refine q5 _ _ _ R9 ((e7.less (Le.upd hB)).trans e9) ?_
        exact Rep.dic (.inl upd_same) m3.1 ((m3.2.le e7.F).le e9.F)
end
end Gx
end T_GxZ4
section T_GxZ5
set_option Elab.async false
set_option linter.all false
set_option maxRecDepth 100000
set_option maxHeartbeats 4000000
namespace Gx
open PySem PySem.Spec PyProof.Rows L2
/-! ## the last argument is an object of ours -/
def lastH : List SV → Option (List SV × Nat)
  | [] => none
  | [.h k] => some ([], k)
  | x :: r => (lastH r).map fun p => (x :: p.1, p.2)
theorem lastH_rss {T : Tb} {g : Gh} {n : Nat} : ∀ {xs : List SV} {vs : List V} {pre : List SV} {k : Nat} {ds : List D}, lastH xs = some (pre, k) → RSs T g n xs vs → dats pre = some ds → RSs T ⟨g.F, fun _ => g.ρ k⟩ 1 (pre ++ [.h 0]) vs := by
  intro xs
  induction xs with
  | nil => intro vs pre k ds h; cases h
  | cons x r ih =>
    intro vs pre k ds h rs hd
    have go : ∀ {p : List SV × Nat}, lastH r = some p → (x :: p.1, p.2) = (pre, k) → RSs T ⟨g.F, fun _ => g.ρ k⟩ 1 (pre ++ [.h 0]) vs := by
      intro p hp e
      cases e
      cases rs with
      | @cons _ v _ vs' hv hr =>
        cases x with
        | h j => cases hd
        | d z =>
          obtain ⟨ds', hd', _⟩ := Option.map_eq_some_iff.mp (show (dats p.1).map (z :: ·) = some ds from hd)
          exact .cons (show Rep T g.F z v from hv) (ih hp hr hd')
    cases r with
    | nil =>
      cases x with
      | d z => cases h
      | h j =>
        cases h
        cases rs with
        | cons hv hr =>
          cases hr
          exact .cons ⟨by simp, hv.2⟩ .nil
    | cons y r' =>
      cases x with
      | d z =>
        obtain ⟨p, hp, e⟩ := Option.map_eq_some_iff.mp (show (lastH (y :: r')).map (fun p => (SV.d z :: p.1, p.2)) = some (pre, k) from h)
        exact go hp e
      | h j =>
        obtain ⟨p, hp, e⟩ := Option.map_eq_some_iff.mp (show (lastH (y :: r')).map (fun p => (SV.h j :: p.1, p.2)) = some (pre, k) from h)
        exact go hp e
def callY (n : Nat) (Ff : FM) (xs : List SV) : EM := fun _ own => match lastH xs with
  | some (pre, k) => if xs.length ≠ n then none else match dats pre, own[k]? with
    | some _, some o => if flatO o = true then (match Ff (pre ++ [.h 0]) [o] with
      | some (.ok (.d z), own') => (match own'[0]? with
        | some o' => if flatO o' = true then some (.ok (.d z), own.set k o') else none
        | none => none)
      | _ => none) else none
    | _, _ => none
  | none => none
theorem lastH_len : ∀ {xs pre : List SV} {k : Nat}, lastH xs = some (pre, k) → (pre ++ [SV.h 0]).length = xs.length
  | [], _, _, h => by cases h
  | [.h j], _, _, h => by cases h; rfl
  | [.d z], _, _, h => by cases h
  | x :: y :: r, pre, k, h => by
    obtain ⟨p, hp, e⟩ := Option.map_eq_some_iff.mp (show (lastH (y :: r)).map (fun p => (x :: p.1, p.2)) = some (pre, k) by cases x <;> exact h)
    cases e
    have := lastH_len hp
    rw [List.cons_append, List.length_cons, this]
    rfl
theorem call_Y {T : Tb} {B : Hp} {Ek : L2.St → XK} {Ff : FM} {n : Nat} {g1 : Gh} {sd : Sl} {own : Own} {σ : L2.St} {H : Hp} {Q : VK} {xs : List SV} {vs : List V} (R : HRel T B g1 own H) (rs : RSs T g1 own.length xs vs)
    (q : At ⟨T, B, Ek⟩ (RS T) g1 sd own σ Q (callY n Ff xs)) : spF T n Ff vs H Q (Ek σ) := by
  obtain ⟨r, own2, e, kq⟩ := q
  unfold callY at e
  cases el : lastH xs with
  | none => simp only [el] at e; cases e
  | some pk =>
    obtain ⟨pre, k⟩ := pk
    simp only [el] at e
    by_cases hl : xs.length = n
    case neg => rw [if_pos hl] at e; cases e
    rw [if_neg (fun z => z hl)] at e
    cases ed : dats pre with
    | none => simp only [ed] at e; cases e
    | some ds =>
      cases eo : own[k]? with
      | none => simp only [ed, eo] at e; cases e
      | some o =>
        simp only [ed, eo] at e
        by_cases fo : flatO o = true
        case neg => rw [if_neg fo] at e; cases e
        rw [if_pos fo] at e
        cases ef : Ff (pre ++ [.h 0]) [o] with
        | none => simp only [ef] at e; cases e
        | some p =>
          obtain ⟨rf, of⟩ := p
          simp only [ef] at e
          refine ⟨wo H (g1.ρ k), ⟨g1.F, fun _ => g1.ρ k⟩, [o], pre ++ [.h 0], hrel_one R eo fo, lastH_rss el rs ed, (lastH_len el).trans hl, rf, of, ef, ?_⟩
          cases rf with
          | ok s =>
            cases s with
            | d z =>
              simp only at e
              cases e0 : of[0]? with
              | none => simp only [e0] at e; cases e
              | some o' =>
                simp only [e0] at e
                by_cases f' : flatO o' = true
                case neg => rw [if_neg f'] at e; cases e
                rw [if_pos f'] at e
                cases e
                intro g' v H' R' e' rv
                obtain ⟨R2, e2⟩ := R.afterZ eo (flat_live fo) R' e' e0 f'
                exact kq _ v H' R2 e2 rv
            | h j => simp only at e; cases e
          | ex c fs => simp only at e; cases e
def eCallY (n : Nat) (Ff : FM) (a : AM) : EM := a.bind fun xs => callY n Ff xs
/-- the keys of a locked dict -/
def iKey (f : EM) : IM := f.bind fun x => match x with
  | .d (.dic (.ty 5 :: ks) _) => M.ret ks
  | _ => M.fail
section
variable {X : Cx} {Y : Cy} {k j n : Nat} {x : Str} {Ff : FM} {p pos : Pos} {tg e a : Expr} {f : EM} {es : List Expr} {al : AM}
theorem r_callY (c : Cal X.prog X.w X.K X.mg X.base Y.T k x n Ff) (hr : Room j X.A) (hk : k ≤ j) (cx : CxOk X Y) (ha : PA X (a :: es) (trA Y al)) (hg : Gl X x := by rfl) (hdb : (x == ("__debug__" : Str)) = false := by decide)
    (he : starEach (a :: es) X.env = (false, eval a X.env) :: starEach es X.env := by rfl) (hpl : (backTo pos (starEach es X.env)).any (·.1) = false := by rfl) : PE X (.Call (.Name x p) (a :: es) [] pos) (trE Y (eCallY n Ff al)) := by
  obtain ⟨f, fd, ps, hm, hkp, hb, F⟩ := c.ex
  refine PE.imp (pe_callSD (E := Y.Ek) F (hr.mono hk) hg hm hkp hb .nil cx.pass ha hdb he hpl) fun σ H Q q => ?_
  obtain ⟨gh, sd, own, R, S, q⟩ := q
  refine at_bind R S q fun g1 o1 xs vs H1 R1 S1 e1 rs q1 => ?_
  rw [List.append_nil]
  exact call_Y R1 rs q1
theorem ri_key (h : PE X e (trE Y f)) : PI X tg e (trI Y (iKey f)) := by
  refine PI.imp (pi_keys h) fun σ H Q q => ?_
  obtain ⟨gh, sd, own, R, S, q⟩ := q
  refine at_bind R S q fun g1 o1 x v H1 R1 S1 e1 rx q1 => ?_
  match x, rx, q1 with
  | .d (.dic (.ty 5 :: ks) xs), rx, q1 =>
    have rx : Rep Y.T g1.F (.dic (.ty 5 :: ks) xs) v := rx
    have k := at_ret q1
    obtain ⟨a, od, kvs, rfl, h1, h2, h3⟩ := ldic_of rx
    have hl : ks.length = kvs.length := by rw [h2, List.length_map]
    refine ⟨a, od, rfl, .inl ⟨kvs, R1.f _ _ h1, k g1 _ H1 R1 .rfl' ⟨fun _ i g own H R l hi => ⟨R.f _ _ (l _ _ h1), by omega⟩, fun _ i g own H R l hi => ⟨R.f _ _ (l _ _ h1), by omega⟩, fun _ i g own H x H2 d R l y hd => ?_⟩⟩⟩
    obtain ⟨rfl, kk, v, hx, rfl⟩ := y
    subst h2
    rw [List.getElem?_map, hx] at hd
    cases hd
    exact ⟨g, R, .rfl', rep_key kk⟩
end
/-! ## what recurs: the call that is never come to -/
def noF : FM := fun _ _ => none
theorem fn_no {P : Program} {w : World} {K : PySem.W.Frag} {mg : Str → Option Value} {base : Heap} {k n : Nat} {f : Addr} {fd : FuncData} {ps : List Str} {T : Tb} : FnOk P w K mg base (L2.CX P w) k f fd ps (spF T n noF) := by
  have no : ∀ vs H Q E, spF T n noF vs H Q E → False := fun vs H Q E q => by
    obtain ⟨_, _, _, _, _, _, _, r, o, e, _⟩ := q
    cases e
  exact ⟨fun vs H Q E q => (no vs H Q E q).elim, fun A outer s H args us vs Q E _ _ _ _ q => (no vs H Q E q).elim⟩
/-! ## max of three -/
def mMax3 : Own → List SV → Option D := fun _ xs => match xs with
  | [.d (.int i), .d (.int j), .d (.int k)] => some (.int (if (if i < j then j else i) < k then k else (if i < j then j else i)))
  | _ => none
end Gx
end T_GxZ5
section T_GxZ6
set_option Elab.async false
set_option linter.all false
set_option maxRecDepth 100000
set_option maxHeartbeats 4000000
namespace Gx
open PySem PySem.Spec PyProof.Rows L2
def mMax3S : Own → List SV → Option SV := fun own xs => (mMax3 own xs).map SV.d
end Gx
end T_GxZ6
section T_Pg1
set_option Elab.async false
set_option linter.all false
set_option maxRecDepth 100000
set_option maxHeartbeats 8000000
set_option pp.maxSteps 300
namespace Pg
open PySem Gx
def F_is_integer : FM := runDef 1
  ((sRet (eAnd (eCB (m2 mIsi) (aCons (eV 0) (aCons (eK (.ty 0)) aNil))) (eNot (eCB (m2 mIsi) (aCons (eV 0) (aCons (eK (.ty 1)) aNil)))))))
def F_is_from : FM := runDef 3
  ((sRet (eAnd (eCallD 1 F_is_integer (aCons (eV 0) aNil)) (eCh mLe mLe (eV 1) (eV 0) (eV 2)))))
def F_is_one_of : FM := runDef 2
  ((sRet (eAnd (eCB (m2 mIsi) (aCons (eV 0) (aCons (eK (.ty 2)) aNil))) (eB (mIn false) (eV 0) (eV 1)))))
def F_Fleet_init : FM := runDef 5
  ((sSeq (sIf (tNot (tE (eCallD 2 F_is_one_of (aCons (eV 1) (aCons (eK (.tup [.str "ring", .str "row"])) aNil)))))
    (sRaise 10 aNil)
    sNil)
    (sSeq (sIf (tOr (tNot (tE (eCB (m2 mIsi) (aCons (eV 2) (aCons (eK (.ty 3)) aNil))))) (tNot (tE (eCh mLe mLe (eK (.int 1)) (eCB (m1 mLen) (aCons (eV 2) aNil)) (eK (.int 2))))))
    (sRaise 11 aNil)
    sNil)
    (sSeq (sIf (tOr (tNot (tE (eCB (m1 mAll) (aCons (eLC (iSeq (eV 2)) [4] (tgN 4) tTrue (eCallD 3 F_is_from (aCons (eV 4) (aCons (eK (.int 1)) (aCons (eK (.int 4)) aNil))))) aNil)))) (tE (eB mGt (eB mIx (eV 2) (eK (.int 0))) (eB mIx (eV 2) (eU mNeg (eK (.int 1)))))))
    (sRaise 11 aNil)
    sNil)
    (sSeq (sIf (tNot (tE (eCallD 3 F_is_from (aCons (eV 3) (aCons (eK (.int 0)) (aCons (eK (.int 1)) aNil))))))
    (sRaise 12 aNil)
    sNil)
    (sSeq (sFldS 0 0 (eV 0) (eV 1))
    (sSeq (sFldS 0 1 (eV 0) (eV 2))
    (sFldS 0 2 (eV 0) (eV 3)))))))))
def F_check_number : FM := runDef 2
  ((sIf (tNot (tE (eCallD 3 F_is_from (aCons (eV 0) (aCons (eK (.int 0)) (aCons (eV 1) aNil))))))
    (sRaise 13 aNil)
    sNil))
def F_spans : FM := runDef 10
  ((sSeq (sIf (tE (eB mEq (eFld 0 0 (eV 0)) (eK (.str "row"))))
    (sSet 4 (eLC (iRg1 (aCons (eB mAdd (eB mSub (eV 1) (eV 2)) (eK (.int 1))) aNil)) [6] (tgN 6) tTrue (eTupR (rg2 (eV 6) (eB mAdd (eV 6) (eV 2))))))
    (sSeq (sSet 5 (eIf (tE (eB mGt (eV 2) (eV 1))) (eK (.int 0)) (eIf (tE (eB mEq (eV 2) (eV 1))) (eK (.int 1)) (eV 1))))
    (sSet 4 (eCB (m1 (mSortT (.U .I))) (aCons (eLC (iRg1 (aCons (eV 5) aNil)) [6] (tgN 6) tTrue (eCB (m1 mTupC) (aCons (eCB (m1 mSortI) (aCons (eLC (iRg1 (aCons (eV 2) aNil)) [7] (tgN 7) tTrue (eB mMod (eB mAdd (eV 6) (eV 7)) (eV 1))) aNil)) aNil))) aNil)))))
    (sRet (eLC (iSeq (eV 4)) [8] (tgN 8) (tNot (tE (eCB (m1 mAny) (aCons (eLC (iSeq (eV 8)) [9] (tgN 9) tTrue (eB (mIn false) (eV 9) (eV 3))) aNil)))) (eV 8)))))
def F_are_next : FM := runDef 4
  ((sRet (eOr (eB mEq (eCB (m1 mAbs) (aCons (eB mSub (eV 2) (eV 3)) aNil)) (eK (.int 1))) (eAnd (eB mEq (eFld 0 0 (eV 0)) (eK (.str "ring"))) (eB mEq (eCB (m1 mAbs) (aCons (eB mSub (eV 2) (eV 3)) aNil)) (eB mSub (eV 1) (eK (.int 1))))))))
def F_can_both : FM := runDef 6
  ((sSeq (sIf (tE (eCB (m1 mAny) (aCons (eLC (iSeq (eV 2)) [4] (tgN 4) tTrue (eB (mIn false) (eV 4) (eV 3))) aNil)))
    (sRet (eK (.bl false)))
    sNil)
    (sRet (eOr (eB mEq (eFld 0 2 (eV 0)) (eK (.int 0))) (eNot (eCB (m1 mAny) (aCons (eLC2 (iSeq (eV 2)) [4, 5] (tgN 4) tTrue (iSeq (eV 3)) [5] (tgN 5) tTrue (eCallD 4 F_are_next (aCons (eV 0) (aCons (eV 1) (aCons (eV 4) (aCons (eV 5) aNil)))))) aNil)))))))
def F_all_places : FM := runDef 10
  ((sSeq (sSet 3 (eCallD 4 F_spans (aCons (eV 0) (aCons (eV 1) (aCons (eB mIx (eFld 0 1 (eV 0)) (eK (.int 0))) (aCons (eV 2) aNil))))))
    (sSeq (sIf (tE (eB mEq (eCB (m1 mLen) (aCons (eFld 0 1 (eV 0)) aNil)) (eK (.int 1))))
    (sRet (eLC (iSeq (eV 3)) [7] (tgN 7) tTrue (eTup (aCons (eV 7) aNil))))
    sNil)
    (sSeq (sSet 4 (eCallD 4 F_spans (aCons (eV 0) (aCons (eV 1) (aCons (eB mIx (eFld 0 1 (eV 0)) (eK (.int 1))) (aCons (eV 2) aNil))))))
    (sSeq (sSet 5 (eB mEq (eB mIx (eFld 0 1 (eV 0)) (eK (.int 0))) (eB mIx (eFld 0 1 (eV 0)) (eK (.int 1)))))
    (sSeq (sSet 6 (eLstH aNil))
    (sSeq (sFor (iSeq (eV 3)) (tgN 7) (sSeq (sSet 8 (eLC (iSeq (eV 4)) [9] (tgN 9) (tOr (tNot (tE (eV 5))) (tE (eB (mLtT (.U .I)) (eV 7) (eV 9)))) (eV 9)))
    (sExpr (eMut mmExt (eV 6) (aCons (eLC (iSeq (eV 8)) [9] (tgN 9) (tE (eCallD 4 F_can_both (aCons (eV 0) (aCons (eV 1) (aCons (eV 7) (aCons (eV 9) aNil)))))) (eTup (aCons (eV 7) (aCons (eV 9) aNil)))) aNil)))))
    (sRet (eV 6)))))))))
def F_divisor : FM := runDef 2
  ((sSeq (whL (tE (eB mNe (eV 1) (eK (.int 0)))) (sPar [0, 1] (aCons (eV 1) (aCons (eB mMod (eV 0) (eV 1)) aNil))) 1000)
    (sRet (eV 0))))
def F_check_order : FM := runDef 5
  ((sSeq (sSet 2 eDicH)
    (sFor (iEnum (eV 1)) (tgU [3, 4]) (sSeq (sIf (tOr (tNot (tE (eCallD 3 F_is_from (aCons (eV 4) (aCons (eK (.int 0)) (aCons (eB mSub (eV 0) (eK (.int 1))) aNil)))))) (tE (eB (mIn false) (eV 4) (eV 2))))
    (sRaise 16 (aCons (eV 3) aNil))
    sNil)
    (sPutD (eV 2) (eV 4) (eK (.bl true)))))))
def F_misses_of : FM := runDef 5
  ((sSeq (sFor (iEnum (eV 1)) (tgU [2, 3]) (sIf (tE (eCB (m1 mAny) (aCons (eLC (iSeq (eV 0)) [4] (tgN 4) tTrue (eB (mIn false) (eV 3) (eV 4))) aNil)))
    (sRet (eV 2))
    sNil))
    (sRet (eCB (m1 mLen) (aCons (eV 1) aNil)))))
def F_longest : FM := runDef 6
  ((sSeq (sExpr (eCallD 2 F_check_number (aCons (eV 1) (aCons (eK (.int 40)) aNil))))
    (sSeq (sExpr (eCallD 2 F_check_order (aCons (eV 1) (aCons (eV 2) aNil))))
    (sSeq (sSet 3 (eK .non))
    (sSeq (sFor (iSeq (eCallD 3 F_all_places (aCons (eV 0) (aCons (eV 1) (aCons eDic0 aNil))))) (tgN 4) (sSeq (sSet 5 (eCallD 2 F_misses_of (aCons (eV 4) (aCons (eV 2) aNil))))
    (sIf (tOr (tE (eB mIsN (eV 3) (eK .non))) (tE (eB mGt (eV 5) (eB mIx (eV 3) (eK (.int 0))))))
    (sSet 3 (eTup (aCons (eV 5) (aCons (eV 4) aNil))))
    sNil)))
    (sRet (eV 3)))))))
def F_mean : FM := runDef 8
  ((sSeq (sExpr (eCallD 2 F_check_number (aCons (eV 1) (aCons (eK (.int 40)) aNil))))
    (sSeq (sExpr (eCallD 2 F_check_order (aCons (eV 1) (aCons (eV 2) aNil))))
    (sSeq (sSet 3 (eLC (iSeq (eCallD 3 F_all_places (aCons (eV 0) (aCons (eV 1) (aCons eDic0 aNil))))) [7] (tgN 7) tTrue (eCallD 2 F_misses_of (aCons (eV 7) (aCons (eV 2) aNil)))))
    (sSeq (sIf (tOr (tE (eB mEq (eV 3) (eLst aNil))) (tE (eB mEq (eCB (m1 mMaxL) (aCons (eV 3) aNil)) (eCB (m1 mLen) (aCons (eV 2) aNil)))))
    (sRet (eK .non))
    sNil)
    (sSeq (sPar [4, 5] (aCons (eB mAdd (eCB (m1 mSum) (aCons (eV 3) aNil)) (eCB (m1 mLen) (aCons (eV 3) aNil))) (aCons (eCB (m1 mLen) (aCons (eV 3) aNil)) aNil)))
    (sSeq (sSet 6 (eCallD 2 F_divisor (aCons (eV 4) (aCons (eV 5) aNil))))
    (sRet (eTup (aCons (eB mFdiv (eV 4) (eV 6)) (aCons (eB mFdiv (eV 5) (eV 6)) aNil)))))))))))
def F__law_pick : FM := runDef 4
  ((sSeq (sIf (tE (eB mEq (eB mIx (eV 0) (eK (.int 2))) (eK (.int 0))))
    (sIf (tE (eB mLt (eB mIx (eV 0) (eK (.int 1))) (eCB (m1 mLen) (aCons (eB mIx (eV 0) (eK (.int 0))) aNil))))
    (sSeq (sSet 2 (eB mIx (eB mIx (eV 0) (eK (.int 0))) (eB mIx (eV 0) (eK (.int 1)))))
    (sSeq (sPutL (eV 0) (eK (.int 1)) (eB mAdd (eB mIx (eV 0) (eK (.int 1))) (eK (.int 1))))
    (sIf (tE (eB mGe (eV 2) (eB mPow (eK (.int 10)) (eK (.int 18)))))
    (sPutL (eV 0) (eK (.int 2)) (eV 2))
    (sPutL (eV 0) (eK (.int 3)) (eB mMod (eCB (m1 mInt) (aCons (eB mAdd (eB mAdd (eB mMul (eB mIx (eV 0) (eK (.int 3))) (eK (.int 48271))) (eB mMul (eV 2) (eK (.int 69621)))) (eK (.int 11))) aNil)) (eK (.int 2147483647)))))))
    (sPutL (eV 0) (eK (.int 3)) (eB mMod (eCB (m1 mInt) (aCons (eB mAdd (eB mMul (eB mIx (eV 0) (eK (.int 3))) (eK (.int 48271))) (eK (.int 7))) aNil)) (eK (.int 2147483647)))))
    sNil)
    (sSeq (sIf (tE (eB mGt (eB mIx (eV 0) (eK (.int 2))) (eK (.int 0))))
    (sSeq (sSet 3 (eB mMod (eCB (m1 mInt) (aCons (eB mIx (eV 0) (eK (.int 2))) aNil)) (eV 1)))
    (sSeq (sPutL (eV 0) (eK (.int 2)) (eB mFdiv (eB mIx (eV 0) (eK (.int 2))) (eV 1)))
    (sRet (eV 3))))
    sNil)
    (sRet (eB mMod (eB mMod (eCB (m1 mInt) (aCons (eB mMul (eB mIx (eV 0) (eK (.int 3))) (eK (.int 16807))) aNil)) (eK (.int 2147483629))) (eV 1))))))
def F__law_fleet : FM := runDef 4
  ((sSeq (sPar [1, 2] (aCons (eB mAdd (eK (.int 1)) (eCallZ 2 F__law_pick (aCons (eV 0) (aCons (eK (.int 4)) aNil)))) (aCons (eB mAdd (eK (.int 1)) (eCallZ 2 F__law_pick (aCons (eV 0) (aCons (eK (.int 4)) aNil)))) aNil)))
    (sSeq (sSet 3 (eB mIx (eLst (aCons (eTup (aCons (eV 1) aNil)) (aCons (eTup (aCons (eCB (m2 mMin2) (aCons (eV 1) (aCons (eV 2) aNil))) (aCons (eCB (m2 mMax2) (aCons (eV 1) (aCons (eV 2) aNil))) aNil))) (aCons (eTup (aCons (eV 1) (aCons (eV 1) aNil))) aNil)))) (eCallZ 2 F__law_pick (aCons (eV 0) (aCons (eK (.int 3)) aNil)))))
    (sRet (eDisp [((eK (.str "shape")), (eB mIx (eLst (aCons (eK (.str "row")) (aCons (eK (.str "ring")) aNil))) (eCallZ 2 F__law_pick (aCons (eV 0) (aCons (eK (.int 2)) aNil))))), ((eK (.str "ships")), (eV 3)), ((eK (.str "gap")), (eCallZ 2 F__law_pick (aCons (eV 0) (aCons (eK (.int 2)) aNil))))])))))
def F__law_made : FM := runDef 1
  ((sRet (eMakeD 0 3 F_Fleet_init (aCons (eB mIx (eV 0) (eK (.str "shape"))) (aCons (eB mIx (eV 0) (eK (.str "ships"))) (aCons (eB mIx (eV 0) (eK (.str "gap"))) aNil))))))
def F__law_spans : FM := runDef 7
  ((sSeq (sSet 3 (eLstH aNil))
    (sSeq (sFor (iRg1 (aCons (eV 1) aNil)) (tgN 4) (sIf (tOr (tE (eB mLe (eB mAdd (eV 4) (eV 2)) (eV 1))) (tAnd (tE (eB mEq (eB mIx (eV 0) (eK (.str "shape"))) (eK (.str "ring")))) (tE (eB mLe (eV 2) (eV 1)))))
    (sSeq (sSet 5 (eCB (m1 mTupC) (aCons (eCB (m1 mSortI) (aCons (eLC (iRg1 (aCons (eV 2) aNil)) [6] (tgN 6) tTrue (eB mMod (eB mAdd (eV 4) (eV 6)) (eV 1))) aNil)) aNil)))
    (sIf (tE (eB (mIn true) (eV 5) (eV 3)))
    (sExpr (eMut mmApp (eV 3) (aCons (eV 5) aNil)))
    sNil))
    sNil))
    (sRet (eCB (m1 (mSortT (.U .I))) (aCons (eV 3) aNil))))))
def F__law_apart : FM := runDef 7
  ((sSeq (sFor (iSeq (eV 2)) (tgN 4) (sSeq (sIf (tE (eB (mIn false) (eV 4) (eV 3)))
    (sRet (eK (.bl false)))
    sNil)
    (sIf (tE (eB mEq (eB mIx (eV 0) (eK (.str "gap"))) (eK (.int 1))))
    (sSeq (sSet 5 (eLst (aCons (eB mSub (eV 4) (eK (.int 1))) (aCons (eB mAdd (eV 4) (eK (.int 1))) aNil))))
    (sSeq (sIf (tE (eB mEq (eB mIx (eV 0) (eK (.str "shape"))) (eK (.str "ring"))))
    (sSet 5 (eLst (aCons (eB mMod (eB mSub (eV 4) (eK (.int 1))) (eV 1)) (aCons (eB mMod (eB mAdd (eV 4) (eK (.int 1))) (eV 1)) aNil))))
    sNil)
    (sIf (tE (eB mNe (eLC (iSeq (eV 5)) [6] (tgN 6) (tE (eB (mIn false) (eV 6) (eV 3))) (eV 6)) (eLst aNil)))
    (sRet (eK (.bl false)))
    sNil)))
    sNil)))
    (sRet (eK (.bl true)))))
def F__law_places : FM := runDef 8
  ((sSeq (sSet 2 (eLC (iSeq (eB mIx (eV 0) (eK (.str "ships")))) [6] (tgN 6) tTrue (eCallD 3 F__law_spans (aCons (eV 0) (aCons (eV 1) (aCons (eV 6) aNil))))))
    (sSeq (sIf (tE (eB mEq (eCB (m1 mLen) (aCons (eV 2) aNil)) (eK (.int 1))))
    (sRet (eLC (iSeq (eB mIx (eV 2) (eK (.int 0)))) [7] (tgN 7) tTrue (eTup (aCons (eV 7) aNil))))
    sNil)
    (sSeq (sSet 3 (eLstH aNil))
    (sSeq (sFor (iSeq (eB mIx (eV 2) (eK (.int 0)))) (tgN 4) (sFor (iSeq (eB mIx (eV 2) (eK (.int 1)))) (tgN 5) (sIf (tAnd (tE (eCallD 4 F__law_apart (aCons (eV 0) (aCons (eV 1) (aCons (eV 4) (aCons (eV 5) aNil)))))) (tOr (tE (eB mLt (eB mIx (eB mIx (eV 0) (eK (.str "ships"))) (eK (.int 0))) (eB mIx (eB mIx (eV 0) (eK (.str "ships"))) (eK (.int 1))))) (tE (eB (mLtT (.U .I)) (eV 4) (eV 5)))))
    (sExpr (eMut mmApp (eV 3) (aCons (eTup (aCons (eV 4) (aCons (eV 5) aNil))) aNil)))
    sNil)))
    (sRet (eCB (m1 (mSortT (.U (.U .I)))) (aCons (eV 3) aNil))))))))
def F__law_common : FM := runDef 2
  ((sSeq (whL (tE (eB mGt (eV 1) (eK (.int 0)))) (sPar [0, 1] (aCons (eV 1) (aCons (eB mMod (eV 0) (eV 1)) aNil))) 1000)
    (sRet (eV 0))))
def F__law_word : FM := runDef 6
  ((sSeq (sFor (iSeq (eV 0)) (tgN 3) (sIf (tE (eB (mIn false) (eV 1) (eV 3)))
    (sSeq (sSet 4 (eLC (iSeq (eV 3)) [5] (tgN 5) (tAnd (tE (eB mNe (eV 5) (eV 1))) (tE (eB (mIn true) (eV 5) (eV 2)))) (eV 5)))
    (sRet (eIf (tE (eB mNe (eV 4) (eLst aNil))) (eK (.str "hit")) (eK (.str "sunk")))))
    sNil))
    (sRet (eK (.str "miss")))))
end Pg
end T_Pg1
section T_Mx1
set_option Elab.async false
set_option linter.all false
set_option maxRecDepth 100000
set_option maxHeartbeats 4000000
namespace Mx
open PySem Gx Pg
theorem any_bl {α : Type} {own : Own} (p : α → Bool) (l : List α) : mAny own (.d (.lst (l.map fun x => D.bl (p x)))) = some (.bl (l.any p)) := by
  have e : (l.map fun x => D.bl (p x)) = (l.map p).map D.bl := by rw [List.map_map]; rfl
  rw [e]
  show ((some ((l.map p).map D.bl)).bind fun ds => (blsD ds).map fun bs => D.bl (bs.any id)) = _
  rw [Option.bind_some, blsD_of, Option.map_some, List.any_map]
  rfl
theorem all_bl {α : Type} {own : Own} (p : α → Bool) (l : List α) : mAll own (.d (.lst (l.map fun x => D.bl (p x)))) = some (.bl (l.all p)) := by
  have e : (l.map fun x => D.bl (p x)) = (l.map p).map D.bl := by rw [List.map_map]; rfl
  rw [e]
  show ((some ((l.map p).map D.bl)).bind fun ds => (blsD ds).map fun bs => D.bl (bs.all id)) = _
  rw [Option.bind_some, blsD_of, Option.map_some, List.all_map]
  rfl
/-- keys, with some values -/
theorem getK_ints {c : Int} : ∀ (l : List Int) (xs : List D), xs.length = l.length → (getK (.inl c) (l.map D.int) xs).isSome = decide (c ∈ l)
  | [], [], _ => rfl
  | i :: l, x :: xs, h => by
    have ih := getK_ints (c := c) l xs (by simpa using h)
    show (if (Sum.inl c : L2.Key) = .inl i then some x else getK (.inl c) (l.map D.int) xs).isSome = _
    by_cases e : c = i
    · subst e; simp
    · rw [if_neg (fun z => e (Sum.inl.inj z)), ih]
      simp [e]
theorem in_dI {own : Own} {c : Int} {l : List Int} {xs : List D} {neg : Bool} (h : xs.length = l.length) : mIn neg own (.d (.int c)) (.d (.dic (l.map D.int) xs)) = some (.bl (decide (c ∈ l) != neg)) := by
  have hu : unM (l.map D.int) = l.map D.int := by cases l <;> rfl
  have h6 : dicV own (.d (.dic (l.map D.int) xs)) = some (unM (l.map D.int), xs) := by cases l <;> rfl
  unfold mIn
  rw [h6]
  show ((keyOf (.int c)).map fun k => D.bl ((getK k (unM (l.map D.int)) xs).isSome != neg)) = _
  rw [hu]
  show some (D.bl ((getK (.inl c) (l.map D.int) xs).isSome != neg)) = _
  rw [getK_ints l xs h]
/-! ## fleets -/
structure Fd where
  ring : Bool
  a : Nat
  b : Option Nat
  gap : Bool
  deriving DecidableEq
def Fd.ships (d : Fd) : List Nat := d.a :: d.b.toList
def Fd.ok (d : Fd) : Prop := 1 ≤ d.a ∧ d.a ≤ 4 ∧ ∀ b, d.b = some b → d.a ≤ b ∧ b ≤ 4
def shapeS (ring : Bool) : Str := if ring then "ring" else "row"
def Fd.shape (d : Fd) : Str := shapeS d.ring
def nI (n : Nat) : D := .int n
def Fd.shipsD (d : Fd) : D := .tup (d.ships.map nI)
def Fd.gapI (d : Fd) : Int := if d.gap then 1 else 0
def Fd.obj (d : Fd) : D := .obj 0 [.str d.shape, d.shipsD, .int d.gapI]
def Fd.dic (d : Fd) : D := .dic [.str "shape", .str "ships", .str "gap"] [.str d.shape, d.shipsD, .int d.gapI]
/-! ## spans -/
def spanAt (n L f : Nat) : List Int := isort ((List.range L).map fun k => ((f : Int) + (k : Nat)) % (n : Int))
def many (n L : Nat) : Nat := if n < L then 0 else if L = n then 1 else n
def rowSpan (L f : Nat) : List Int := (List.range L).map fun k => (f : Int) + (k : Nat)
def spansM (ring : Bool) (n L : Nat) : List (List Int) := if ring then srt lexI ((List.range (many n L)).map (spanAt n L)) else (List.range (n + 1 - L)).map (rowSpan L)
def free (shot : List Int) (c : List Int) : Bool := !(c.any fun x => decide (x ∈ shot))
theorem e_iRg1 {f : EM} {sd : Sl} {own : Own} {j : Int} (h : f sd own = some (.ok (.d (.int j)), own)) (h1 : 0 ≤ j) (h2 : j < 2 ^ 62) : iRg1 (aCons f aNil) sd own = some (.ok ((List.range j.toNat).map fun i : Nat => D.int (0 + (i : Int))), own) := by
  have ha := a_1 h
  unfold iRg1
  rw [s_bind_ok ha]
  show (if rgOk 0 j = true then M.ret (rgD 0 j.toNat) else M.fail) sd own = _
  rw [if_pos (rg_ok h1 h2)]
  rfl
theorem e_iRg1neg {f : EM} {sd : Sl} {own : Own} {j : Int} (h : f sd own = some (.ok (.d (.int j)), own)) (h1 : -(2 ^ 62) ≤ j) (h2 : j < 2 ^ 62) : iRg1 (aCons f aNil) sd own = some (.ok ((List.range j.toNat).map fun i : Nat => D.int (0 + (i : Int))), own) := by
  have ha := a_1 h
  unfold iRg1
  rw [s_bind_ok ha]
  show (if rgOk 0 j = true then M.ret (rgD 0 j.toNat) else M.fail) sd own = _
  have : rgOk 0 j = true := by unfold rgOk; simp; omega
  rw [if_pos this]
  rfl
theorem e_iSeqL {f : EM} {sd : Sl} {own : Own} {xs : List D} (h : f sd own = some (.ok (.d (.lst xs)), own)) : iSeq f sd own = some (.ok xs, own) := by
  unfold iSeq
  rw [s_bind_ok h]
  rfl
theorem e_iSeqT {f : EM} {sd : Sl} {own : Own} {xs : List D} (h : f sd own = some (.ok (.d (.tup xs)), own)) : iSeq f sd own = some (.ok xs, own) := by
  unfold iSeq
  rw [s_bind_ok h]
  rfl
theorem e_TupR {f : RM} {sd : Sl} {own : Own} {a b : Int} (h : f sd own = some (.ok (a, b), own)) (hz : rgS a b = true) : eTupR f sd own = some (.ok (.d (.tup (rgD a (b - a).toNat))), own) := by
  unfold eTupR
  rw [s_bind_ok h, s_ask, if_pos hz]
theorem rgS_of {a b : Int} (h1 : -1000000 ≤ a) (h2 : a ≤ 1000000) (h3 : -1000000 ≤ b) (h4 : b ≤ 1000000) : rgS a b = true := by
  unfold rgS
  exact decide_eq_true (by omega)
theorem e_Mod {f g : EM} {sd : Sl} {own : Own} {x y : Int} (hf : f sd own = some (.ok (.d (.int x)), own)) (hg : g sd own = some (.ok (.d (.int y)), own)) (h : 0 < y) : eB mMod f g sd own = some (.ok (.d (.int (x % y))), own) := e_B hf hg (o_mod h)
theorem small {n : Nat} (h : n ≤ 100000) : n < sizeLine := by rw [sizeL]; omega
section
variable {d : Fd} {n L : Nat} {shot : List Int} {vs : List D}
/-- the second statement: those without a shot cell -/
theorem spans_end {own : Own} {l : List (List Int)} {s0 s1 s2 s5 : Option SV} (hs : vs.length = shot.length) (hl : l.length ≤ 100000) (hc : ∀ c ∈ l, c.length ≤ 100000) :
    eLC (iSeq (eV 4)) [8] (tgN 8) (tNot (tE (eCB (m1 mAny) (aCons (eLC (iSeq (eV 8)) [9] (tgN 9) tTrue (eB (mIn false) (eV 9) (eV 3))) aNil)))) (eV 8)
      [s0, s1, s2, some (.d (.dic (shot.map D.int) vs)), some (.d (.lst (l.map tI))), s5, none, none, none, none] own = some (.ok (.d (.lst ((l.filter (free shot)).map tI))), own) := by
  refine e_LC (enc := tI) (free shot) tI (e_iSeqL rfl) (small hl) fun c hc' => ⟨_, rfl, ?_, fun _ => rfl⟩
  refine t_Not (t_E (e_C1 (e_LC0 (enc := D.int) (fun x => D.bl (decide (x ∈ shot))) (e_iSeqT rfl) (small (hc c hc')) fun x hx => ⟨_, rfl, ?_⟩) (any_bl _ _)))
  refine e_B rfl rfl ?_
  rw [in_dI hs]
  simp
end
theorem isRow {own : Own} (ring : Bool) : mEq own (.d (.str (shapeS ring))) (.d (.str "row")) = some (.bl (!ring)) := by cases ring <;> kernel_rfl
theorem isRing {own : Own} (ring : Bool) : mEq own (.d (.str (shapeS ring))) (.d (.str "ring")) = some (.bl ring) := by cases ring <;> kernel_rfl
theorem rgD_row {L f : Nat} {j : Int} (h : j = (L : Int)) : D.tup (rgD (0 + (f : Int)) j.toNat) = tI (rowSpan L f) := by
  subst h
  unfold tI rowSpan rgD
  rw [List.map_map]
  congr 1
  simp only [Int.toNat_natCast]
  apply List.map_congr_left
  intro k _
  show D.int (0 + (f : Int) + (k : Int)) = D.int ((f : Int) + (k : Nat))
  congr 1
  omega
theorem spanAt_len {n L f : Nat} : (spanAt n L f).length = L := by
  unfold spanAt
  rw [(isort_perm _).length_eq, List.length_map, List.length_range]
theorem rowSpan_len {L f : Nat} : (rowSpan L f).length = L := by
  unfold rowSpan
  rw [List.length_map, List.length_range]
theorem lex_len {l : List (List Int)} : (srt lexI l).length = l.length := (srt_stb swo_lex l).perm.length_eq
theorem spansM_len {ring : Bool} {n L : Nat} : (spansM ring n L).length ≤ n + 1 := by
  unfold spansM many
  cases ring with
  | true => 
    simp only [if_true, lex_len, List.length_map, List.length_range]
    repeat' split
    all_goals omega
  | false => simp
theorem spansM_mem {ring : Bool} {n L : Nat} {c : List Int} (h : c ∈ spansM ring n L) : c.length = L := by
  unfold spansM at h
  cases ring with
  | true =>
    rw [if_pos rfl] at h
    have h := (srt_stb swo_lex _).perm.mem_iff.mp h
    obtain ⟨f, _, rfl⟩ := List.mem_map.mp h
    exact spanAt_len
  | false =>
    rw [if_neg Bool.false_ne_true] at h
    obtain ⟨f, _, rfl⟩ := List.mem_map.mp h
    exact rowSpan_len
section
variable {d : Fd} {n L : Nat} {shot : List Int} {vs : List D}
theorem spans_run (hn : n ≤ 10000) (h1 : 1 ≤ L) (hL : L ≤ 4) (hs : vs.length = shot.length) : F_spans [.d d.obj, .d (.int n), .d (.int L), .d (.dic (shot.map D.int) vs)] [] = some (.ok (.d (.lst (((spansM d.ring n L).filter (free shot)).map tI))), []) := by
  unfold F_spans
  refine run_rt ?_
  show sSeq _ _ [some (.d d.obj), some (.d (.int n)), some (.d (.int L)), some (.d (.dic (shot.map D.int) vs)), none, none, none, none, none, none] [] = _
  have fin : ∀ s5 l, l = spansM d.ring n L → sRet (eLC (iSeq (eV 4)) [8] (tgN 8) (tNot (tE (eCB (m1 mAny) (aCons (eLC (iSeq (eV 8)) [9] (tgN 9) tTrue (eB (mIn false) (eV 9) (eV 3))) aNil)))) (eV 8))
      [some (.d d.obj), some (.d (.int n)), some (.d (.int L)), some (.d (.dic (shot.map D.int) vs)), some (.d (.lst (l.map tI))), s5, none, none, none, none] [] = some (.rt (.d (.lst (((spansM d.ring n L).filter (free shot)).map tI))) []) := by
    intro s5 l e
    subst e
    have := spansM_len (ring := d.ring) (n := n) (L := L)
    exact st_Ret (spans_end hs (by omega) fun c hc => by rw [spansM_mem hc]; omega)
  cases hr : d.ring with
  | false =>
    have c1 : tE (eB mEq (eFld 0 0 (eV 0)) (eK (.str "row"))) [some (.d d.obj), some (.d (.int n)), some (.d (.int L)), some (.d (.dic (shot.map D.int) vs)), none, none, none, none, none, none] [] = some (.ok true, []) := by
      have e := isRow (own := []) d.ring
      rw [hr] at e
      exact t_E (e_B (x := .d (.str d.shape)) rfl rfl (by unfold Fd.shape; rw [hr]; exact e))
    rw [st_Seq ((st_IfT c1).trans (st_Set (e_LCm (enc := fun i : Nat => D.int (0 + (i : Int))) (enc1 := tI) (rowSpan L) (e_iRg1neg (j := (n : Int) - L + 1) rfl (by omega) (by omega)) (by rw [List.length_range]; exact small (by omega)) fun f hf => ⟨_, rfl, ?_⟩)))]
    · refine (fin none _ ?_).trans (by rw [hr])
      rw [hr]
      unfold spansM
      have : ((n : Int) - L + 1).toNat = n + 1 - L := by omega
      rw [this]
      rfl
    · have hf := List.mem_range.mp hf
      refine (e_TupR (a := 0 + (f : Int)) (b := 0 + (f : Int) + L) rfl (rgS_of (by omega) (by omega) (by omega) (by omega))).trans ?_
      rw [rgD_row (L := L) (j := 0 + (f : Int) + L - (0 + (f : Int))) (by omega)]
  | true =>
    have c1 : tE (eB mEq (eFld 0 0 (eV 0)) (eK (.str "row"))) [some (.d d.obj), some (.d (.int n)), some (.d (.int L)), some (.d (.dic (shot.map D.int) vs)), none, none, none, none, none, none] [] = some (.ok false, []) := by
      have e := isRow (own := []) d.ring
      rw [hr] at e
      exact t_E (e_B (x := .d (.str d.shape)) rfl rfl (by unfold Fd.shape; rw [hr]; exact e))
    have c2 : eIf (tE (eB mGt (eV 2) (eV 1))) (eK (.int 0)) (eIf (tE (eB mEq (eV 2) (eV 1))) (eK (.int 1)) (eV 1)) [some (.d d.obj), some (.d (.int n)), some (.d (.int L)), some (.d (.dic (shot.map D.int) vs)), none, none, none, none, none, none] [] = some (.ok (.d (.int (many n L : Nat))), []) := by
      have e1 : tE (eB mGt (eV 2) (eV 1)) [some (.d d.obj), some (.d (.int n)), some (.d (.int L)), some (.d (.dic (shot.map D.int) vs)), none, none, none, none, none, none] [] = some (.ok (decide ((n : Int) < L)), []) := rfl
      have e2 : tE (eB mEq (eV 2) (eV 1)) [some (.d d.obj), some (.d (.int n)), some (.d (.int L)), some (.d (.dic (shot.map D.int) vs)), none, none, none, none, none, none] [] = some (.ok ((L : Int) == n), []) := rfl
      unfold many
      rw [s_eIf, s_bind_ok e1]
      by_cases h1 : n < L
      · rw [if_pos h1, decide_eq_true (by omega)]; rfl
      · rw [if_neg h1, decide_eq_false (by omega)]
        show eIf _ _ _ _ _ = _
        rw [s_eIf, s_bind_ok e2]
        by_cases h2 : L = n
        · rw [if_pos h2]
          have : ((L : Int) == n) = true := by simp [h2]
          rw [this]; rfl
        · rw [if_neg h2]
          have : ((L : Int) == n) = false := by simp; omega
          rw [this]; rfl
    have hm : many n L ≤ n + 1 := by
      unfold many
      repeat' split
      all_goals omega
    rw [st_Seq ((st_IfF c1).trans ((st_Seq (st_Set c2)).trans (st_Set (e_C1 (e_LCm (enc := fun i : Nat => D.int (0 + (i : Int))) (enc1 := tI) (spanAt n L) (e_iRg1 (j := (many n L : Nat)) rfl (by omega) (by omega)) (by rw [List.length_range]; exact small (by omega)) fun f hf => ⟨_, rfl, ?_⟩) (d := .lst ((srt lexI ((List.range (many n L)).map (spanAt n L))).map tI)) ?_))))]
    · refine (fin _ _ ?_).trans (by rw [hr])
      rw [hr]
      rfl
    · refine o_sortUI (own := []) (l := (List.range (many n L)).map (spanAt n L)) fun x hx z => ?_
      obtain ⟨f, _, rfl⟩ := List.mem_map.mp hx
      have := congrArg List.length z
      rw [spanAt_len] at this
      simp at this
      omega
    · have hf := List.mem_range.mp hf
      have hn0 : 0 < n := by
        unfold many at hf
        split at hf
        · omega
        · split at hf <;> omega
      refine e_C1 (x := .d (lI (spanAt n L f))) ?_ rfl
      refine e_C1 (x := .d (lI ((List.range L).map fun k => ((f : Int) + (k : Nat)) % (n : Int)))) ?_ (o_sortI _)
      have e := e_LC0 (own := ([] : Own)) (sd := [some (.d d.obj), some (.d (.int n)), some (.d (.int L)), some (.d (.dic (shot.map D.int) vs)), none, some (.d (.int (many n L : Nat))), some (.d (.int (0 + (f : Int)))), none, none, none]) (src := iRg1 (aCons (eV 2) aNil)) (vs := [7]) (tg := tgN 7) (f := eB mMod (eB mAdd (eV 6) (eV 7)) (eV 1))
        (enc := fun i : Nat => D.int (0 + (i : Int))) (fun k => D.int (((f : Int) + (k : Nat)) % (n : Int))) (e_iRg1 (j := (L : Int)) rfl (by omega) (by omega)) (by rw [List.length_range]; exact small (by omega)) fun k hk => ⟨_, rfl, by
          have := e_Mod (f := eB mAdd (eV 6) (eV 7)) (g := eV 1) (own := ([] : Own)) (sd := [some (.d d.obj), some (.d (.int n)), some (.d (.int L)), some (.d (.dic (shot.map D.int) vs)), none, some (.d (.int (many n L : Nat))), some (.d (.int (0 + (f : Int)))), some (.d (.int (0 + (k : Int)))), none, none]) (x := 0 + (f : Int) + (0 + (k : Int))) (y := n) rfl rfl (by omega)
          have e2 : (0 + (f : Int) + (0 + (k : Int))) = (f : Int) + (k : Nat) := by omega
          rw [e2] at this
          exact this⟩
      refine e.trans ?_
      unfold lI
      rw [List.map_map]
      rfl
end
end Mx
end T_Mx1
section T_Mx2
set_option Elab.async false
set_option linter.all false
set_option maxRecDepth 100000
set_option maxHeartbeats 4000000
namespace Mx
open PySem Gx Pg
def absI (x : Int) : Int := if x < 0 then -x else x
def nextTo (ring : Bool) (n : Nat) (x y : Int) : Bool := decide (absI (x - y) = 1) || (ring && decide (absI (x - y) = n - 1))
theorem eqi (a b : Int) : (a == b) = decide (a = b) := by
  by_cases c : a = b
  · subst c; simp
  · simp [c]
theorem e_Or {f g : EM} {sd : Sl} {own : Own} {a b : Bool} (hf : f sd own = some (.ok (.d (.bl a)), own)) (hg : a = false → g sd own = some (.ok (.d (.bl b)), own)) : eOr f g sd own = some (.ok (.d (.bl (a || b))), own) := by
  rw [s_eOr, s_bind_ok hf]
  cases a with
  | true => rfl
  | false => exact hg rfl
theorem e_And {f g : EM} {sd : Sl} {own : Own} {a b : Bool} (hf : f sd own = some (.ok (.d (.bl a)), own)) (hg : a = true → g sd own = some (.ok (.d (.bl b)), own)) : eAnd f g sd own = some (.ok (.d (.bl (a && b))), own) := by
  rw [s_eAnd, s_bind_ok hf]
  cases a with
  | false => rfl
  | true => exact hg rfl
theorem e_Not {f : EM} {sd : Sl} {own : Own} {a : Bool} (hf : f sd own = some (.ok (.d (.bl a)), own)) : eNot f sd own = some (.ok (.d (.bl (!a))), own) := by
  rw [s_eNot, s_bind_ok hf]
  rfl
theorem t_OrB {f g : TM} {sd : Sl} {own : Own} {a b : Bool} (hf : f sd own = some (.ok a, own)) (hg : a = false → g sd own = some (.ok b, own)) : tOr f g sd own = some (.ok (a || b), own) := by
  rw [s_tOr, s_bind_ok hf]
  cases a with
  | true => rfl
  | false => exact hg rfl
theorem t_AndB {f g : TM} {sd : Sl} {own : Own} {a b : Bool} (hf : f sd own = some (.ok a, own)) (hg : a = true → g sd own = some (.ok b, own)) : tAnd f g sd own = some (.ok (a && b), own) := by
  rw [s_tAnd, s_bind_ok hf]
  cases a with
  | false => rfl
  | true => exact hg rfl
theorem e_If {c : TM} {f g : EM} {sd : Sl} {own : Own} {b : Bool} {x y : SV} (hc : c sd own = some (.ok b, own)) (hf : b = true → f sd own = some (.ok x, own)) (hg : b = false → g sd own = some (.ok y, own)) : eIf c f g sd own = some (.ok (if b = true then x else y), own) := by
  rw [s_eIf, s_bind_ok hc]
  cases b with
  | false => exact hg rfl
  | true => exact hf rfl
section
variable {d : Fd} {n : Nat}
theorem next_run {x y : Int} : F_are_next [.d d.obj, .d (.int n), .d (.int x), .d (.int y)] [] = some (.ok (.d (.bl (nextTo d.ring n x y))), []) := by
  unfold F_are_next
  refine run_rt (st_Ret ?_)
  unfold nextTo
  refine e_Or (a := decide (absI (x - y) = 1)) ?_ fun _ => e_And (a := d.ring) ?_ fun _ => ?_
  · refine (show eB mEq _ _ _ _ = some (.ok (.d (.bl (absI (x - y) == 1))), []) from rfl).trans ?_
    rw [eqi]
  · exact e_B (x := .d (.str d.shape)) rfl rfl (isRing d.ring)
  · refine (show eB mEq _ _ _ _ = some (.ok (.d (.bl (absI (x - y) == (n : Int) - 1))), []) from rfl).trans ?_
    rw [eqi]
theorem c_next {x y : Int} (sd : Sl) (own : Own) : callD 4 F_are_next [.d d.obj, .d (.int n), .d (.int x), .d (.int y)] sd own = some (.ok (.d (.bl (nextTo d.ring n x y))), own) := cD (ds := [d.obj, .int n, .int x, .int y]) rfl rfl next_run sd own
def canB (d : Fd) (n : Nat) (one two : List Int) : Bool := if (one.any fun x => decide (x ∈ two)) = true then false else !d.gap || !(one.any fun c => two.any fun f => nextTo d.ring n c f)
theorem any_bl2 {α β : Type} {own : Own} (p : α → β → Bool) (ys : List β) : ∀ l : List α, mAny own (.d (.lst ((l.filter fun _ => true).flatMap fun x => (ys.filter fun _ => true).map fun y => D.bl (p x y)))) = some (.bl (l.any fun x => ys.any (p x))) := by
  intro l
  have e : ((l.filter fun _ => true).flatMap fun x => (ys.filter fun _ => true).map fun y => D.bl (p x y)) = (l.flatMap fun x => ys.map fun y => p x y).map D.bl := by
    rw [List.filter_eq_self.mpr (fun _ _ => rfl), List.filter_eq_self.mpr (fun _ _ => rfl), List.map_flatMap]
    congr 1
    funext x
    rw [List.map_map]
    rfl
  rw [e]
  show ((some (_)).bind fun ds => (blsD ds).map fun bs => D.bl (bs.any id)) = _
  rw [Option.bind_some, blsD_of, Option.map_some, List.any_flatMap]
  congr 3
  funext x
  rw [List.any_map]
  rfl
theorem sum_small {α β : Type} (f : α → List β) (m k : Nat) : ∀ l : List α, l.length ≤ k → (∀ x ∈ l, (f x).length ≤ m) → (l.flatMap f).length ≤ k * m
  | [], _, _ => Nat.zero_le _
  | x :: l, h, hm => by
    cases k with
    | zero => simp at h
    | succ k =>
      have ih := sum_small f m k l (by simpa using h) fun y hy => hm y (List.mem_cons_of_mem _ hy)
      have h1 := hm x List.mem_cons_self
      rw [List.flatMap_cons, List.length_append, Nat.succ_mul]
      omega
theorem gap0 {own : Own} (d : Fd) : mEq own (.d (.int d.gapI)) (.d (.int 0)) = some (.bl (!d.gap)) := by
  unfold Fd.gapI
  cases d.gap <;> rfl
theorem gap1 {own : Own} (d : Fd) : mEq own (.d (.int d.gapI)) (.d (.int 1)) = some (.bl d.gap) := by
  unfold Fd.gapI
  cases d.gap <;> rfl
theorem can_run {one two : List Int} (h1 : one.length ≤ 4) (h2 : two.length ≤ 4) : F_can_both [.d d.obj, .d (.int n), .d (tI one), .d (tI two)] [] = some (.ok (.d (.bl (canB d n one two))), []) := by
  unfold F_can_both
  refine run_rt ?_
  show sSeq _ _ [some (.d d.obj), some (.d (.int n)), some (.d (tI one)), some (.d (tI two)), none, none] [] = _
  have c1 : tE (eCB (m1 mAny) (aCons (eLC (iSeq (eV 2)) [4] (tgN 4) tTrue (eB (mIn false) (eV 4) (eV 3))) aNil)) [some (.d d.obj), some (.d (.int n)), some (.d (tI one)), some (.d (tI two)), none, none] [] = some (.ok (one.any fun x => decide (x ∈ two)), []) := by
    refine t_E (e_C1 (e_LC0 (enc := D.int) (fun x => D.bl (decide (x ∈ two))) (e_iSeqT rfl) (small (by omega)) fun x hx => ⟨_, rfl, ?_⟩) (any_bl _ _))
    refine e_B rfl rfl ?_
    rw [in_tI]
    simp
  unfold canB
  cases hc : one.any fun x => decide (x ∈ two) with
  | true =>
    rw [hc] at c1
    rw [s_sSeq, st_IfT c1]
    rfl
  | false =>
    rw [hc] at c1
    refine (st_Seq ((st_IfF c1).trans rfl)).trans (st_Ret ?_)
    rw [if_neg Bool.false_ne_true]
    refine e_Or (e_B rfl rfl (gap0 d)) fun _ => e_Not (e_C1 (e_LC2 (enc := D.int) (enc1 := D.int) (fun _ => true) (fun _ => two) (fun _ _ => true) (fun c f => D.bl (nextTo d.ring n c f)) (e_iSeqT rfl) (fun c hc => ⟨_, rfl, rfl, fun _ => ⟨e_iSeqT rfl, fun f hf => ⟨_, rfl, rfl, fun _ => ?_⟩⟩⟩) ?_) (any_bl2 _ _ _))
    · rw [s_eCallD, s_bind_ok (x := [.d d.obj, .d (.int n), .d (.int c), .d (.int f)]) (o1 := []) rfl]
      exact c_next _ _
    · have := sum_small (fun c => (two.filter fun _ => true).map fun f => D.bl (nextTo d.ring n c f)) 4 4 (one.filter fun _ => true) (by rw [List.filter_eq_self.mpr (fun _ _ => rfl)]; exact h1) fun c _ => by rw [List.length_map, List.filter_eq_self.mpr (fun _ _ => rfl)]; exact h2
      exact small (by omega)
theorem c_can {one two : List Int} (h1 : one.length ≤ 4) (h2 : two.length ≤ 4) (sd : Sl) (own : Own) : callD 4 F_can_both [.d d.obj, .d (.int n), .d (tI one), .d (tI two)] sd own = some (.ok (.d (.bl (canB d n one two))), own) := cD (ds := [d.obj, .int n, tI one, tI two]) rfl rfl (can_run h1 h2) sd own
theorem c_spans {L : Nat} {shot : List Int} {vs : List D} (hn : n ≤ 10000) (h1 : 1 ≤ L) (hL : L ≤ 4) (hs : vs.length = shot.length) (sd : Sl) (own : Own) : callD 4 F_spans [.d d.obj, .d (.int n), .d (.int L), .d (.dic (shot.map D.int) vs)] sd own = some (.ok (.d (.lst (((spansM d.ring n L).filter (free shot)).map tI))), own) :=
  cD (ds := [d.obj, .int n, .int L, .dic (shot.map D.int) vs]) rfl rfl (spans_run hn h1 hL hs) sd own
/-! ## places -/
def spF (d : Fd) (n L : Nat) (shot : List Int) : List (List Int) := (spansM d.ring n L).filter (free shot)
def later (d : Fd) (b : Nat) (one two : List Int) : Bool := !(decide (d.a = b)) || lexI one two
def placesM (d : Fd) (n : Nat) (shot : List Int) : List (List (List Int)) := match d.b with
  | none => (spF d n d.a shot).map fun c => [c]
  | some b => (spF d n d.a shot).flatMap fun one => (((spF d n b shot).filter (later d b one)).filter (canB d n one)).map fun two => [one, two]
theorem spF_len {L : Nat} {shot : List Int} : (spF d n L shot).length ≤ n + 1 := Nat.le_trans (List.length_filter_le _ _) spansM_len
theorem spF_mem {L : Nat} {shot c : List Int} (h : c ∈ spF d n L shot) : c.length = L := spansM_mem (List.mem_filter.mp h).1
theorem st_IfSkip {c : TM} {p : SM} {sd : Sl} {own : Own} (h : c sd own = some (.ok false, own)) : sIf c p sNil sd own = some (.nx sd own) := (st_IfF h).trans rfl
theorem st_IfEnd {c : TM} {p q r : SM} {sd : Sl} {own : Own} {s : SV} {o1 : Own} (h : c sd own = some (.ok true, own)) (hp : p sd own = some (.rt s o1)) : sSeq (sIf c p q) r sd own = some (.rt s o1) := by
  rw [s_sSeq, st_IfT h, hp]
theorem st_For {src : IM} {tg : GM} {p : SM} {sd : Sl} {own : Own} {xs : List D} {r : Fl} (h : src sd own = some (.ok xs, own)) (h2 : forL tg p xs sd own = some r) : sFor src tg p sd own = some r := by
  rw [s_sFor, s_Sbind, h]
  exact h2
theorem st_Expr {f : EM} {sd : Sl} {own o1 : Own} {x : SV} (h : f sd own = some (.ok x, o1)) : sExpr f sd own = some (.nx sd o1) := by
  rw [s_sExpr, s_Sbind, h]
  rfl
/-- xs.extend(ys) of one's own -/
theorem e_Ext {f g : EM} {sd : Sl} {own : Own} {k : Nat} {xs zs : List D} (hf : f sd own = some (.ok (.h k), own)) (hk : own[k]? = some (.lst xs)) (hg : g sd own = some (.ok (.d (.lst zs)), own)) (hz : xs.length + zs.length ≤ sizeLine) :
    eMut mmExt f (aCons g aNil) sd own = some (.ok (.d .non), own.set k (.lst (xs ++ zs))) := by
  have h1 : lstV own (.h k) = some xs := by
    show (match own[k]? with | some (.lst xs) => some xs | _ => none) = _
    rw [hk]
  rw [s_eMut, s_bind_ok hf]
  have e : (M.ask fun own => lstV own (.h k)) sd own = some (.ok xs, own) := by rw [s_ask, h1]
  rw [s_bind_ok e, s_bind_ok (a_1 hg)]
  simp only [hk]
  have : mmExt own xs [.d (.lst zs)] = some (.non, xs ++ zs) := by
    show (if xs.length + zs.length ≤ sizeLine then some (D.non, xs ++ zs) else none) = _
    rw [if_pos hz]
  rw [this]
theorem e_App {f g : EM} {sd : Sl} {own o1 : Own} {k : Nat} {xs zs : List D} {y : D} (hf : f sd own = some (.ok (.h k), own)) (hk0 : own[k]? = some (.lst zs)) (hk : o1[k]? = some (.lst xs)) (hg : g sd own = some (.ok (.d y), o1)) (hz : xs.length < sizeLine) :
    eMut mmApp f (aCons g aNil) sd own = some (.ok (.d .non), o1.set k (.lst (xs ++ [y]))) := by
  have h1 : lstV own (.h k) = some zs := by
    show (match own[k]? with | some (.lst xs) => some xs | _ => none) = _
    rw [hk0]
  rw [s_eMut, s_bind_ok hf]
  have e : (M.ask fun own => lstV own (.h k)) sd own = some (.ok zs, own) := by rw [s_ask, h1]
  rw [s_bind_ok e, s_bind_ok (a_1 hg)]
  simp only [hk]
  have : mmApp o1 xs [.d y] = some (.non, xs ++ [y]) := by
    show (if xs.length < sizeLine then some (D.non, xs ++ [y]) else none) = _
    rw [if_pos hz]
  rw [this]
theorem e_CallD {N : Nat} {Ff : FM} {a : AM} {sd : Sl} {own : Own} {xs : List SV} {z : D} (ha : a sd own = some (.ok xs, own)) (h : ∀ sd own, callD N Ff xs sd own = some (.ok (.d z), own)) : eCallD N Ff a sd own = some (.ok (.d z), own) := by
  rw [s_eCallD, s_bind_ok ha]
  exact h sd own
/-- the places' loop's slots -/
abbrev plS (d : Fd) (n : Nat) (shot : List Int) (vs : List D) (b : Nat) (s6 s7 s8 s9 : Option SV) : Sl := [some (.d d.obj), some (.d (.int n)), some (.d (.dic (shot.map D.int) vs)), some (.d (.lst ((spF d n d.a shot).map tI))), some (.d (.lst ((spF d n b shot).map tI))), some (.d (.bl (decide (d.a = b)))), s6, s7, s8, s9]
def plB : SM := (sSeq (sSet 8 (eLC (iSeq (eV 4)) [9] (tgN 9) (tOr (tNot (tE (eV 5))) (tE (eB (mLtT (.U .I)) (eV 7) (eV 9)))) (eV 9)))
    (sExpr (eMut mmExt (eV 6) (aCons (eLC (iSeq (eV 8)) [9] (tgN 9) (tE (eCallD 4 F_can_both (aCons (eV 0) (aCons (eV 1) (aCons (eV 7) (aCons (eV 9) aNil)))))) (eTup (aCons (eV 7) (aCons (eV 9) aNil)))) aNil))))
def plT (d : Fd) (n b : Nat) (shot one : List Int) : List (List (List Int)) := (((spF d n b shot).filter (later d b one)).filter (canB d n one)).map fun two => [one, two]
theorem o_ltI {own : Own} (x y : List Int) : mLtT (.U .I) own (.d (tI x)) (.d (tI y)) = some (.bl (lexI x y)) := by
  show (if (shp (.U .I) (tI x) && shp (.U .I) (tI y)) = true then some (D.bl (ltS (.U .I) (tI x) (tI y))) else none) = _
  rw [shp_tI, shp_tI, lt_tI]
  rfl
theorem plT_len {b : Nat} {shot one : List Int} : (plT d n b shot one).length ≤ n + 1 := by
  unfold plT
  rw [List.length_map]
  exact Nat.le_trans (List.length_filter_le _ _) (Nat.le_trans (List.length_filter_le _ _) spF_len)
theorem plB_run {shot : List Int} {vs : List D} {b : Nat} {s8 s9 : Option SV} {one : List Int} {acc : List (List (List Int))} (hn : n ≤ 1000) (ho : one.length ≤ 4) (hb : b ≤ 4) (hz : acc.length ≤ 10000000) :
    ∃ t8 t9, plB (plS d n shot vs b (some (.h 0)) (some (.d (tI one))) s8 s9) [.lst (acc.map tT)] = some (.nx (plS d n shot vs b (some (.h 0)) (some (.d (tI one))) t8 t9) [.lst ((acc ++ plT d n b shot one).map tT)]) := by
  refine ⟨some (.d (.lst ((((spF d n b shot).filter (later d b one)).map id).map tI))), s9, ?_⟩
  unfold plB
  have l1 := spF_len (d := d) (n := n) (L := b) (shot := shot)
  refine (st_Seq (st_Set (e_LCf (enc := tI) (enc1 := tI) (later d b one) id (e_iSeqL rfl) (small (by omega)) fun c hc => ⟨_, rfl, ?_, fun _ => rfl⟩))).trans ?_
  · unfold later
    exact t_OrB (t_Not (t_E rfl)) fun _ => t_E (e_B rfl rfl (o_ltI _ _))
  · refine (st_Expr (e_Ext (xs := acc.map tT) (zs := (plT d n b shot one).map tT) rfl rfl ?_ ?_)).trans ?_
    · have e := e_LCf (own := [O.lst (acc.map tT)]) (sd := plS d n shot vs b (some (.h 0)) (some (.d (tI one))) (some (.d (.lst ((((spF d n b shot).filter (later d b one)).map id).map tI)))) s9) (src := iSeq (eV 8)) (vs := [9]) (tg := tgN 9)
        (t := tE (eCallD 4 F_can_both (aCons (eV 0) (aCons (eV 1) (aCons (eV 7) (aCons (eV 9) aNil)))))) (f := eTup (aCons (eV 7) (aCons (eV 9) aNil))) (enc := tI) (enc1 := tT) (canB d n one) (fun two => [one, two]) (xs := ((spF d n b shot).filter (later d b one)).map id) (e_iSeqL rfl)
        (small (by rw [List.length_map]; have := List.length_filter_le (later d b one) (spF d n b shot); omega)) fun two h2 => ⟨_, rfl, t_E (e_CallD rfl (c_can ho (by
          rw [List.map_id] at h2
          have := spF_mem (List.mem_filter.mp h2).1
          omega))), fun _ => rfl⟩
      rw [List.map_id] at e
      rw [List.map_id]
      exact e
    · rw [List.length_map, List.length_map, sizeL]
      have := plT_len (d := d) (n := n) (b := b) (shot := shot) (one := one)
      omega
    · rw [List.map_append]
      rfl
theorem places_run {shot : List Int} {vs : List D} (hd : d.ok) (hn : n ≤ 1000) (hs : vs.length = shot.length) :
    F_all_places [.d d.obj, .d (.int n), .d (.dic (shot.map D.int) vs)] [] = some (if d.b = none then (.ok (.d (.lst ((placesM d n shot).map tT))), []) else (.ok (.h 0), [.lst ((placesM d n shot).map tT)])) := by
  obtain ⟨ha1, ha4, hb⟩ := hd
  unfold F_all_places
  have l1 := spF_len (d := d) (n := n) (L := d.a) (shot := shot)
  cases hb0 : d.b with
  | none =>
    rw [if_pos rfl]
    refine run_rt ?_
    have hobj : d.obj = .obj 0 [.str d.shape, .tup [.int d.a], .int d.gapI] := by unfold Fd.obj Fd.shipsD Fd.ships nI; rw [hb0]; rfl
    have hc := c_spans (d := d) (n := n) (L := d.a) (shot := shot) (vs := vs) (by omega) ha1 ha4 hs
    rw [hobj] at hc ⊢
    refine (st_Seq (st_Set (e_CallD rfl hc))).trans ?_
    refine st_IfEnd rfl ?_
    refine (st_Ret (e_LCm (enc := tI) (enc1 := tT) (fun c => [c]) (e_iSeqL (xs := (spF d n d.a shot).map tI) rfl) (small (by omega)) fun c hc => ⟨_, rfl, rfl⟩)).trans ?_
    unfold placesM
    rw [hb0]
  | some b =>
    obtain ⟨hb1, hb4⟩ := hb b hb0
    rw [if_neg (by simp)]
    refine run_rt ?_
    have hobj : d.obj = .obj 0 [.str d.shape, .tup [.int d.a, .int b], .int d.gapI] := by unfold Fd.obj Fd.shipsD Fd.ships nI; rw [hb0]; rfl
    have hc := c_spans (d := d) (n := n) (L := d.a) (shot := shot) (vs := vs) (by omega) ha1 ha4 hs
    have hc2 := c_spans (d := d) (n := n) (L := b) (shot := shot) (vs := vs) (by omega) (by omega) hb4 hs
    rw [hobj] at hc hc2
    have start : ∀ r, sSeq (sSet 6 (eLstH aNil)) (sSeq (sFor (iSeq (eV 3)) (tgN 7) plB) (sRet (eV 6))) (plS d n shot vs b none none none none) [] = r → (sSeq (sSet 3 (eCallD 4 F_spans (aCons (eV 0) (aCons (eV 1) (aCons (eB mIx (eFld 0 1 (eV 0)) (eK (.int 0))) (aCons (eV 2) aNil))))))
        (sSeq (sIf (tE (eB mEq (eCB (m1 mLen) (aCons (eFld 0 1 (eV 0)) aNil)) (eK (.int 1)))) (sRet (eLC (iSeq (eV 3)) [7] (tgN 7) tTrue (eTup (aCons (eV 7) aNil)))) sNil)
        (sSeq (sSet 4 (eCallD 4 F_spans (aCons (eV 0) (aCons (eV 1) (aCons (eB mIx (eFld 0 1 (eV 0)) (eK (.int 1))) (aCons (eV 2) aNil))))))
        (sSeq (sSet 5 (eB mEq (eB mIx (eFld 0 1 (eV 0)) (eK (.int 0))) (eB mIx (eFld 0 1 (eV 0)) (eK (.int 1)))))
        (sSeq (sSet 6 (eLstH aNil)) (sSeq (sFor (iSeq (eV 3)) (tgN 7) plB) (sRet (eV 6))))))) (startD 10 [.d d.obj, .d (.int n), .d (.dic (shot.map D.int) vs)]) []) = r := by
      intro r hr
      unfold plS at hr
      rw [hobj] at hr ⊢
      refine (st_Seq (st_Set (e_CallD rfl hc))).trans ?_
      refine (st_Seq (st_IfSkip rfl)).trans ?_
      refine (st_Seq (st_Set (e_CallD rfl hc2))).trans ?_
      refine (st_Seq (st_Set (x := .d (.bl ((d.a : Int) == b))) (o1 := []) rfl)).trans ?_
      have e : ((d.a : Int) == b) = decide (d.a = b) := by
        rw [eqi]
        exact decide_eq_decide.mpr (by omega)
      rw [e]
      exact hr
    refine start _ ?_
    refine (st_Seq (sd1 := plS d n shot vs b (some (.h 0)) none none none) (o1 := [.lst []]) rfl).trans ?_
    obtain ⟨sd2, own2, ef, s7, s8, s9, rfl, rfl⟩ := for_pre (enc := tI) (tg := tgN 7) (p := plB)
      (fun pre sd own => ∃ s7 s8 s9, sd = plS d n shot vs b (some (.h 0)) s7 s8 s9 ∧ own = [.lst ((pre.flatMap (plT d n b shot)).map tT)])
      (spF d n d.a shot) (plS d n shot vs b (some (.h 0)) none none none) [.lst []] ⟨none, none, none, rfl, rfl⟩ (fun pre one post sd own e ⟨s7, s8, s9, h1, h2⟩ => by
        subst h1 h2
        have hone : one ∈ spF d n d.a shot := by rw [e]; simp
        have hpre : pre.length ≤ n + 1 := by have := congrArg List.length e; simp at this; omega
        have hlen := sum_small (plT d n b shot) (n + 1) (n + 1) pre hpre fun x _ => plT_len
        have hsq : (n + 1) * (n + 1) ≤ 1001 * 1001 := Nat.mul_le_mul (by omega) (by omega)
        obtain ⟨t8, t9, et⟩ := plB_run (d := d) (n := n) (shot := shot) (vs := vs) (b := b) (s8 := s8) (s9 := s9) (one := one) (acc := pre.flatMap (plT d n b shot)) hn (by have := spF_mem hone; omega) hb4 (by omega)
        exact ⟨_, rfl, _, _, .inl et, _, t8, t9, rfl, by rw [List.flatMap_append]; simp⟩)
    refine (st_Seq (st_For (e_iSeqL rfl) ef)).trans ?_
    have : placesM d n shot = (spF d n d.a shot).flatMap (plT d n b shot) := by unfold placesM; rw [hb0]; rfl
    rw [this]
    rfl
theorem c_places {shot : List Int} {vs : List D} (hd : d.ok) (hn : n ≤ 1000) (hs : vs.length = shot.length) (sd : Sl) (own : Own) :
    callD 3 F_all_places [.d d.obj, .d (.int n), .d (.dic (shot.map D.int) vs)] sd own = some (.ok (.d (.lst ((placesM d n shot).map tT))), own) := by
  have e := places_run (d := d) (n := n) (shot := shot) (vs := vs) hd hn hs
  by_cases c : d.b = none
  · rw [if_pos c] at e
    exact cD (ds := [d.obj, .int n, .dic (shot.map D.int) vs]) rfl rfl e sd own
  · rw [if_neg c] at e
    exact cDh (ds := [d.obj, .int n, .dic (shot.map D.int) vs]) (o := .lst ((placesM d n shot).map tT)) rfl rfl e rfl rfl sd own
end
end Mx
end T_Mx2
section T_Mx3
set_option Elab.async false
set_option linter.all false
set_option maxRecDepth 100000
set_option maxHeartbeats 4000000
namespace Mx
open PySem Gx Pg
/-! ## the law's spans are the program's -/
theorem mod2 {a n : Nat} (h : a < 2 * n) : a % n = if a < n then a else a - n := by
  by_cases c : a < n
  · rw [if_pos c, Nat.mod_eq_of_lt c]
  · rw [if_neg c, Nat.mod_eq_sub_mod (by omega), Nat.mod_eq_of_lt (by omega)]
theorem cast_mod (f k n : Nat) : ((f : Int) + (k : Nat)) % (n : Int) = (((f + k) % n : Nat) : Int) := by
  rw [← Int.natCast_add, ← Int.natCast_emod]
theorem mem_spanAt {n L f : Nat} {x : Int} : x ∈ spanAt n L f ↔ ∃ k, k < L ∧ x = (((f + k) % n : Nat) : Int) := by
  unfold spanAt
  rw [(isort_perm _).mem_iff, List.mem_map]
  constructor
  · rintro ⟨k, hk, rfl⟩
    exact ⟨k, List.mem_range.mp hk, cast_mod f k n⟩
  · rintro ⟨k, hk, rfl⟩
    exact ⟨k, List.mem_range.mpr hk, cast_mod f k n⟩
theorem spanAt_inj {n L f g : Nat} (h1 : 1 ≤ L) (h2 : L < n) (hf : f < n) (hg : g < n) (e : spanAt n L f = spanAt n L g) : f = g := by
  have m1 : ((f : Nat) : Int) ∈ spanAt n L g := by
    rw [← e]
    exact mem_spanAt.mpr ⟨0, by omega, by rw [Nat.add_zero, Nat.mod_eq_of_lt hf]⟩
  obtain ⟨k, hk, e1⟩ := mem_spanAt.mp m1
  have e1 : f = (g + k) % n := by exact_mod_cast e1
  rw [mod2 (by omega)] at e1
  by_cases k0 : k = 0
  · subst k0
    rw [if_pos (by omega)] at e1
    omega
  · have m2 : (((g + (k - 1)) % n : Nat) : Int) ∈ spanAt n L f := by
      rw [e]
      exact mem_spanAt.mpr ⟨k - 1, by omega, rfl⟩
    obtain ⟨j, hj, e2⟩ := mem_spanAt.mp m2
    have e2 : (g + (k - 1)) % n = (f + j) % n := by exact_mod_cast e2
    rw [mod2 (by omega), mod2 (by omega)] at e2
    split at e1 <;> split at e2 <;> split at e2 <;> omega
theorem isort_id {l : List Int} (h : l.Pairwise (· ≤ ·)) : isort l = l := rise_uniq (isort_perm l) (isort_le l) h
theorem row_rise (f : Nat) : ∀ L : Nat, (rowSpan L f).Pairwise (· ≤ ·) := by
  intro L
  unfold rowSpan
  rw [List.pairwise_map]
  exact (List.pairwise_lt_range (n := L)).imp fun h => by omega
theorem spanAt_row {n L f : Nat} (h : f + L ≤ n) : spanAt n L f = rowSpan L f := by
  unfold spanAt
  have e : ((List.range L).map fun k => ((f : Int) + (k : Nat)) % (n : Int)) = rowSpan L f := by
    unfold rowSpan
    refine List.map_congr_left fun k hk => ?_
    have := List.mem_range.mp hk
    rw [cast_mod, Nat.mod_eq_of_lt (by omega)]
    omega
  rw [e, isort_id (row_rise f L)]
theorem rowSpan_head {L f : Nat} (h : 1 ≤ L) : ∃ t, rowSpan L f = (f : Int) :: t := by
  unfold rowSpan
  cases L with
  | zero => omega
  | succ L =>
    rw [List.range_succ_eq_map, List.map_cons]
    exact ⟨((List.range L).map Nat.succ).map fun k => (f : Int) + (k : Nat), by simp⟩
theorem lex_head {i j : Int} {x y : List Int} (h : i ≠ j) : lexI (i :: x) (j :: y) = decide (i < j) := by
  unfold lexI
  rw [if_neg h]
/-- into a list, once each -/
def dedup {α : Type} [BEq α] [LawfulBEq α] (acc : List α) : List α → List α
  | [] => acc
  | x :: xs => dedup (if x ∈ acc then acc else acc ++ [x]) xs
theorem dedup_nodup {α : Type} [BEq α] [LawfulBEq α] : ∀ (xs acc : List α), (acc ++ xs).Nodup → dedup acc xs = acc ++ xs
  | [], acc, _ => by rw [List.append_nil]; rfl
  | x :: xs, acc, h => by
    have hx : x ∉ acc := fun hx => (List.nodup_append.mp h).2.2 x hx x List.mem_cons_self rfl
    show dedup (if x ∈ acc then acc else acc ++ [x]) xs = _
    rw [if_neg hx, dedup_nodup xs (acc ++ [x]) (by rw [List.append_assoc]; exact h), List.append_assoc]
    rfl
theorem dedup_same {α : Type} [BEq α] [LawfulBEq α] (c : α) : ∀ (xs : List α), (∀ x ∈ xs, x = c) → dedup [c] xs = [c]
  | [], _ => rfl
  | x :: xs, h => by
    have e := h x List.mem_cons_self
    subst e
    show dedup (if x ∈ [x] then [x] else [x] ++ [x]) xs = _
    rw [if_pos (List.mem_singleton.mpr rfl)]
    exact dedup_same x xs fun y hy => h y (List.mem_cons_of_mem _ hy)
/-- the cells that the law takes -/
def takes (ring : Bool) (n L f : Nat) : Bool := decide (f + L ≤ n) || (ring && decide (L ≤ n))
def lawSpans (ring : Bool) (n L : Nat) : List (List Int) := srt lexI (dedup [] (((List.range n).filter (takes ring n L)).map (spanAt n L)))
theorem nodup_map {α β : Type} {f : α → β} : ∀ {l : List α}, l.Nodup → (∀ x ∈ l, ∀ y ∈ l, f x = f y → x = y) → (l.map f).Nodup
  | [], _, _ => List.nodup_nil
  | x :: l, h, inj => by
    rw [List.nodup_cons] at h
    rw [List.map_cons, List.nodup_cons]
    refine ⟨fun hm => ?_, nodup_map h.2 fun a ha b hb => inj a (List.mem_cons_of_mem _ ha) b (List.mem_cons_of_mem _ hb)⟩
    obtain ⟨y, hy, e⟩ := List.mem_map.mp hm
    have := inj y (List.mem_cons_of_mem _ hy) x List.mem_cons_self e
    subst this
    exact h.1 hy
theorem range_take {n m : Nat} (h : m ≤ n) (p : Nat → Bool) (hp : ∀ i, i < n → p i = decide (i < m)) : (List.range n).filter p = List.range m := by
  have e : n = m + (n - m) := by omega
  rw [e, List.range_add, List.filter_append]
  have h1 : (List.range m).filter p = List.range m := List.filter_eq_self.mpr fun i hi => by
    have := List.mem_range.mp hi
    rw [hp i (by omega)]
    exact decide_eq_true this
  have h2 : ((List.range (n - m)).map fun x => m + x).filter p = [] := List.filter_eq_nil_iff.mpr fun i hi => by
    obtain ⟨j, hj, rfl⟩ := List.mem_map.mp hi
    have := List.mem_range.mp hj
    rw [hp _ (by omega)]
    simp
  rw [h1, h2, List.append_nil]
theorem row_inj {L f g : Nat} (h : 1 ≤ L) (e : rowSpan L f = rowSpan L g) : f = g := by
  obtain ⟨t, h1⟩ := rowSpan_head (f := f) h
  obtain ⟨u, h2⟩ := rowSpan_head (f := g) h
  rw [h1, h2] at e
  have := (List.cons.inj e).1
  omega
theorem rows_srtd {L m : Nat} (h : 1 ≤ L) : SrtO.Srtd lexI ((List.range m).map (rowSpan L)) := by
  refine List.pairwise_map.mpr ((List.pairwise_lt_range (n := m)).imp fun {f g} hfg => ?_)
  obtain ⟨t, h1⟩ := rowSpan_head (f := f) h
  obtain ⟨u, h2⟩ := rowSpan_head (f := g) h
  rw [h1, h2, lex_head (by omega)]
  exact decide_eq_false (by omega)
theorem rows_nodup {L m : Nat} (h : 1 ≤ L) : ((List.range m).map (rowSpan L)).Nodup := nodup_map List.nodup_range fun x _ y _ e => row_inj h e
theorem law_spans_eq {ring : Bool} {n L : Nat} (h1 : 1 ≤ L) : lawSpans ring n L = spansM ring n L := by
  unfold lawSpans spansM
  cases ring with
  | false =>
    rw [if_neg Bool.false_ne_true]
    have e : (List.range n).filter (takes false n L) = List.range (n + 1 - L) := by
      refine range_take (by omega) _ fun i hi => ?_
      unfold takes
      simp
      omega
    have e2 : (List.range (n + 1 - L)).map (spanAt n L) = (List.range (n + 1 - L)).map (rowSpan L) := List.map_congr_left fun f hf => spanAt_row (by have := List.mem_range.mp hf; omega)
    rw [e, e2, dedup_nodup _ _ (by rw [List.nil_append]; exact rows_nodup h1), List.nil_append, srt_id _ (rows_srtd h1)]
  | true =>
    rw [if_pos rfl]
    unfold many
    by_cases c1 : n < L
    · rw [if_pos c1]
      have e : (List.range n).filter (takes true n L) = [] := List.filter_eq_nil_iff.mpr fun i hi => by
        unfold takes
        simp
        omega
      rw [e]
      rfl
    · rw [if_neg c1]
      have e : (List.range n).filter (takes true n L) = List.range n := List.filter_eq_self.mpr fun i hi => by
        unfold takes
        simp
        omega
      rw [e]
      by_cases c2 : L = n
      · rw [if_pos c2]
        have all : ∀ f, f < n → spanAt n L f = spanAt n L 0 := fun f hf => by
          have hp : ∀ g, g < n → ((List.range L).map fun k => ((g : Int) + (k : Nat)) % (n : Int)).Perm ((List.range n).map fun k => ((k : Nat) : Int)) := fun g hg => by
            have nd : ((List.range L).map fun k => ((g : Int) + (k : Nat)) % (n : Int)).Nodup := by
              refine nodup_map List.nodup_range fun x hx y hy e => ?_
              have hx := List.mem_range.mp hx
              have hy := List.mem_range.mp hy
              rw [cast_mod, cast_mod] at e
              have e : (g + x) % n = (g + y) % n := by exact_mod_cast e
              rw [mod2 (by omega), mod2 (by omega)] at e
              split at e <;> split at e <;> omega
            have nd2 : ((List.range n).map fun k => ((k : Nat) : Int)).Nodup := nodup_map List.nodup_range fun x _ y _ e => by exact_mod_cast e
            refine (List.perm_ext_iff_of_nodup nd nd2).mpr fun x => ?_
            rw [List.mem_map, List.mem_map]
            constructor
            · rintro ⟨k, hk, rfl⟩
              exact ⟨(g + k) % n, List.mem_range.mpr (Nat.mod_lt _ (by omega)), (cast_mod g k n).symm⟩
            · rintro ⟨k, hk, rfl⟩
              have hk := List.mem_range.mp hk
              refine ⟨if g ≤ k then k - g else n + k - g, List.mem_range.mpr (by split <;> omega), ?_⟩
              rw [cast_mod]
              split
              · rw [show g + (k - g) = k by omega, Nat.mod_eq_of_lt hk]
              · rw [show g + (n + k - g) = n + k by omega, Nat.add_mod_left, Nat.mod_eq_of_lt hk]
          exact rise_uniq ((isort_perm _).trans ((hp f hf).trans ((hp 0 (by omega)).symm.trans (isort_perm _).symm))) (isort_le _) (isort_le _)
        cases hn : n with
        | zero => omega
        | succ m =>
          rw [List.range_succ_eq_map, List.map_cons]
          show srt lexI (dedup [spanAt (m + 1) L 0] _) = srt lexI [spanAt (m + 1) L 0]
          rw [dedup_same]
          intro x hx
          obtain ⟨f, hf, rfl⟩ := List.mem_map.mp hx
          obtain ⟨f', hf', rfl⟩ := List.mem_map.mp hf
          have := List.mem_range.mp hf'
          have := all (f' + 1) (by omega)
          rw [hn] at this
          exact this
      · rw [if_neg c2]
        rw [dedup_nodup _ _ (by
          rw [List.nil_append]
          exact nodup_map List.nodup_range fun x hx y hy e => spanAt_inj h1 (by omega) (List.mem_range.mp hx) (List.mem_range.mp hy) e), List.nil_append]
theorem spansM_srtd {ring : Bool} {n L : Nat} (h1 : 1 ≤ L) : SrtO.Srtd lexI (spansM ring n L) := by
  unfold spansM
  cases ring with
  | false => rw [if_neg Bool.false_ne_true]; exact rows_srtd h1
  | true => rw [if_pos rfl]; exact srt_srtd swo_lex _
theorem spansM_nodup {ring : Bool} {n L : Nat} (h1 : 1 ≤ L) : (spansM ring n L).Nodup := by
  unfold spansM many
  cases ring with
  | false => rw [if_neg Bool.false_ne_true]; exact rows_nodup h1
  | true =>
    rw [if_pos rfl]
    refine (srt_stb swo_lex _).perm.nodup_iff.mpr ?_
    split
    · exact List.nodup_nil
    · split
      · simp
      · exact nodup_map List.nodup_range fun x hx y hy e => spanAt_inj h1 (by omega) (List.mem_range.mp hx) (List.mem_range.mp hy) e
theorem spansM_in {ring : Bool} {n L : Nat} {c : List Int} (h : c ∈ spansM ring n L) (h1 : 1 ≤ L) : ∀ x ∈ c, 0 ≤ x ∧ x < n := by
  unfold spansM at h
  cases ring with
  | false =>
    rw [if_neg Bool.false_ne_true] at h
    obtain ⟨f, hf, rfl⟩ := List.mem_map.mp h
    have hf := List.mem_range.mp hf
    intro x hx
    unfold rowSpan at hx
    obtain ⟨k, hk, rfl⟩ := List.mem_map.mp hx
    have hk := List.mem_range.mp hk
    omega
  | true =>
    rw [if_pos rfl] at h
    obtain ⟨f, hf, rfl⟩ := List.mem_map.mp ((srt_stb swo_lex _).perm.mem_iff.mp h)
    intro x hx
    obtain ⟨k, hk, rfl⟩ := mem_spanAt.mp hx
    have hn : 0 < n := by
      have hf := List.mem_range.mp hf
      unfold many at hf
      split at hf
      · omega
      · split at hf <;> omega
    have := Nat.mod_lt (f + k) hn
    omega
/-! ## apart -/
def sides (ring : Bool) (n : Nat) (c : Int) : List Int := if ring then [(c - 1) % n, (c + 1) % n] else [c - 1, c + 1]
def apM (d : Fd) (n : Nat) (one two : List Int) : Bool := one.all fun c => !decide (c ∈ two) && !(d.gap && (sides d.ring n c).any fun x => decide (x ∈ two))
theorem mod_up {c : Int} {n : Nat} (h0 : 0 ≤ c) (h1 : c < n) : (c + 1) % (n : Int) = if c + 1 < n then c + 1 else 0 := by
  split
  · exact Int.emod_eq_of_lt (by omega) (by omega)
  · have : c + 1 = n := by omega
    rw [this, Int.emod_self]
theorem mod_dn {c : Int} {n : Nat} (h0 : 0 ≤ c) (h1 : c < n) : (c - 1) % (n : Int) = if 1 ≤ c then c - 1 else n - 1 := by
  split
  · exact Int.emod_eq_of_lt (by omega) (by omega)
  · have : c - 1 = (n : Int) - 1 + n * (-1) := by omega
    rw [this, Int.add_mul_emod_self_left]
    exact Int.emod_eq_of_lt (by omega) (by omega)
theorem next_iff {ring : Bool} {n : Nat} {c f : Int} (hc : 0 ≤ c ∧ c < n) (hf : 0 ≤ f ∧ f < n) (ne : c ≠ f) : nextTo ring n c f = decide (f ∈ sides ring n c) := by
  unfold nextTo sides absI
  cases ring with
  | false =>
    simp only [Bool.false_and, Bool.or_false, Bool.false_eq_true, if_false]
    refine decide_eq_decide.mpr ?_
    simp only [List.mem_cons, List.not_mem_nil, or_false]
    split <;> omega
  | true =>
    simp only [Bool.true_and, if_true]
    rw [mod_up hc.1 hc.2, mod_dn hc.1 hc.2, ← Bool.decide_or]
    refine decide_eq_decide.mpr ?_
    simp only [List.mem_cons, List.not_mem_nil, or_false]
    split <;> split <;> split <;> omega
theorem ap_eq {d : Fd} {n : Nat} {one two : List Int} (h1 : ∀ x ∈ one, 0 ≤ x ∧ x < n) (h2 : ∀ x ∈ two, 0 ≤ x ∧ x < n) : apM d n one two = canB d n one two := by
  unfold apM canB
  by_cases c : (one.any fun x => decide (x ∈ two)) = true
  · rw [if_pos c]
    obtain ⟨x, hx, hx2⟩ := List.any_eq_true.mp c
    rw [← Bool.not_eq_true]
    intro h
    have := List.all_eq_true.mp h x hx
    rw [Bool.and_eq_true, hx2] at this
    exact Bool.noConfusion this.1
  · rw [if_neg c]
    have no : ∀ x ∈ one, x ∉ two := fun x hx hx2 => c (List.any_eq_true.mpr ⟨x, hx, decide_eq_true hx2⟩)
    cases hg : d.gap with
    | false =>
      simp only [Bool.not_false, Bool.true_or]
      rw [List.all_eq_true]
      intro x hx
      rw [decide_eq_false (no x hx)]
      rfl
    | true =>
      simp only [Bool.not_true, Bool.false_or, Bool.true_and]
      have e : (one.all fun c => !decide (c ∈ two) && !(sides d.ring n c).any fun x => decide (x ∈ two)) = one.all fun c => !two.any fun f => nextTo d.ring n c f := by
        rw [Bool.eq_iff_iff, List.all_eq_true, List.all_eq_true]
        refine forall_congr' fun x => imp_congr_right fun hx => ?_
        rw [decide_eq_false (no x hx)]
        simp only [Bool.not_false, Bool.true_and, Bool.not_eq_true', ← Bool.not_eq_true]
        rw [List.any_eq_true, List.any_eq_true]
        refine not_congr ⟨?_, ?_⟩
        · rintro ⟨f, hf, hf2⟩
          have hf2 := of_decide_eq_true hf2
          refine ⟨f, hf2, ?_⟩
          rw [next_iff (h1 x hx) (h2 f hf2) fun z => no x hx (z ▸ hf2)]
          exact decide_eq_true hf
        · rintro ⟨f, hf, hf2⟩
          rw [next_iff (h1 x hx) (h2 f hf) fun z => no x hx (z ▸ hf)] at hf2
          exact ⟨f, of_decide_eq_true hf2, decide_eq_true hf⟩
      rw [e, List.not_any_eq_all_not]
/-! ## the order of places -/
theorem lt_pair {x y x' y' : List Int} : ltS (.U (.U .I)) (tT [x, y]) (tT [x', y']) = if x = x' then lexI y y' else lexI x x' := by
  have e : ∀ u v : List Int, encS (.U (.U .I)) (tT [u, v]) = [1] ++ (encS (.U .I) (tI u) ++ ([1] ++ (encS (.U .I) (tI v) ++ [0]))) := fun u v => by
    show (([u, v].map tI).flatMap fun x => 1 :: encS (.U .I) x) ++ [0] = _
    simp
  unfold ltS
  rw [e, e, lexI_pre]
  by_cases c : x = x'
  · rw [if_pos c]
    subst c
    rw [lexI_pre, lexI_pre]
    rcases far_enc (.U .I) (tI y) (tI y') (shp_tI y) (shp_tI y') with q | q
    · rw [q, lexI_irr, ← lt_tI, q]
      exact (lexI_irr _).symm
    · rw [far_lt q, lt_tI]
  · rw [if_neg c]
    rcases far_enc (.U .I) (tI x) (tI x') (shp_tI x) (shp_tI x') with q | q
    · refine absurd ?_ c
      have := eq_tI 5 x x'
      have e2 : eqN 6 (tI x) (tI x') = true := by rw [q, eq_tI]; simp
      rw [e2] at this
      exact of_decide_eq_true this.symm
    · rw [far_lt q, lt_tI]
theorem places_srtd {d : Fd} {n : Nat} {shot : List Int} (hd : d.ok) : SrtO.Srtd (fun x y => ltS (.U (.U .I)) (tT x) (tT y)) (placesM d n shot) ∨ d.b = none := by
  cases hb : d.b with
  | none => exact .inr rfl
  | some b =>
    left
    obtain ⟨ha1, ha4, hb0⟩ := hd
    obtain ⟨hb1, hb4⟩ := hb0 b hb
    have e : placesM d n shot = (spF d n d.a shot).flatMap (plT d n b shot) := by unfold placesM; rw [hb]; rfl
    rw [e]
    have s1 : SrtO.Srtd lexI (spF d n d.a shot) := (spansM_srtd ha1).filter _
    have n1 : (spF d n d.a shot).Nodup := (spansM_nodup ha1).filter _
    have s2 : SrtO.Srtd lexI (spF d n b shot) := (spansM_srtd (by omega)).filter _
    refine List.pairwise_flatMap.mpr ⟨fun one h1 => ?_, ?_⟩
    · unfold plT
      refine List.pairwise_map.mpr (((s2.filter _).filter _).imp fun {x y} h => ?_)
      show ltS (.U (.U .I)) (tT [one, y]) (tT [one, x]) = false
      rw [lt_pair, if_pos rfl]
      exact h
    · refine (List.pairwise_and_iff.mpr ⟨s1, n1⟩).imp fun {x y} h => ?_
      intro p hp q hq
      unfold plT at hp hq
      obtain ⟨u, _, rfl⟩ := List.mem_map.mp hp
      obtain ⟨v, _, rfl⟩ := List.mem_map.mp hq
      show ltS (.U (.U .I)) (tT [y, v]) (tT [x, u]) = false
      rw [lt_pair, if_neg (fun z => h.2 z.symm)]
      exact h.1
end Mx
end T_Mx3
section T_Mx4
set_option Elab.async false
set_option linter.all false
set_option maxRecDepth 100000
set_option maxHeartbeats 4000000
namespace Mx
open PySem Gx Pg
/-! ## the law's functions -/
section
variable {d : Fd} {n : Nat}
theorem dic_shape {own : Own} : mIx own (.d d.dic) (.d (.str "shape")) = some (.str d.shape) := by
  unfold Fd.dic
  kernel_rfl
theorem dic_ships {own : Own} : mIx own (.d d.dic) (.d (.str "ships")) = some d.shipsD := by
  unfold Fd.dic
  kernel_rfl
theorem dic_gap {own : Own} : mIx own (.d d.dic) (.d (.str "gap")) = some (.int d.gapI) := by
  unfold Fd.dic
  kernel_rfl
theorem nin_h {own : Own} {k : Nat} {α : Type} [BEq α] [LawfulBEq α] {enc : α → D} {x : α} {xs : List α} (hk : own[k]? = some (.lst (xs.map enc))) (he : ∀ x y, eqN 60 (enc x) (enc y) = true ↔ x = y) (ho : ∀ x, okN 59 (enc x) = true) : mIn true own (.d (enc x)) (.h k) = some (.bl (!decide (x ∈ xs))) := by
  rw [in_h hk (okN_mono _ _ (ho x)) (ok_map ho xs), any_eq he]
  simp
/-- one turn -/
def lsB : SM := sIf (tOr (tE (eB mLe (eB mAdd (eV 4) (eV 2)) (eV 1))) (tAnd (tE (eB mEq (eB mIx (eV 0) (eK (.str "shape"))) (eK (.str "ring")))) (tE (eB mLe (eV 2) (eV 1)))))
    (sSeq (sSet 5 (eCB (m1 mTupC) (aCons (eCB (m1 mSortI) (aCons (eLC (iRg1 (aCons (eV 2) aNil)) [6] (tgN 6) tTrue (eB mMod (eB mAdd (eV 4) (eV 6)) (eV 1))) aNil)) aNil)))
    (sIf (tE (eB (mIn true) (eV 5) (eV 3)))
    (sExpr (eMut mmApp (eV 3) (aCons (eV 5) aNil)))
    sNil))
    sNil
abbrev lsS (d : Fd) (n L : Nat) (s4 s5 s6 : Option SV) : Sl := [some (.d d.dic), some (.d (.int n)), some (.d (.int L)), some (.h 0), s4, s5, s6]
theorem lsB_run {L f : Nat} {acc : List (List Int)} {s5 s6 : Option SV} (hn : n ≤ 10000) (hL : L ≤ 4) (hf : f < n) (hz : acc.length ≤ 100000) :
    ∃ t5, lsB (lsS d n L (some (.d (.int (0 + (f : Int))))) s5 s6) [.lst (acc.map tI)] = some (.nx (lsS d n L (some (.d (.int (0 + (f : Int))))) t5 s6) [.lst ((if takes d.ring n L f = true then (if spanAt n L f ∈ acc then acc else acc ++ [spanAt n L f]) else acc).map tI)]) := by
  have c1 : tOr (tE (eB mLe (eB mAdd (eV 4) (eV 2)) (eV 1))) (tAnd (tE (eB mEq (eB mIx (eV 0) (eK (.str "shape"))) (eK (.str "ring")))) (tE (eB mLe (eV 2) (eV 1)))) (lsS d n L (some (.d (.int (0 + (f : Int))))) s5 s6) [.lst (acc.map tI)] = some (.ok (takes d.ring n L f), [.lst (acc.map tI)]) := by
    have e1 : takes d.ring n L f = (decide (0 + (f : Int) + L ≤ n) || (d.ring && decide ((L : Int) ≤ n))) := by
      unfold takes
      congr 1
      · exact decide_eq_decide.mpr (by omega)
      · congr 1
        exact decide_eq_decide.mpr (by omega)
    rw [e1]
    exact t_OrB (t_E rfl) fun _ => t_AndB (t_E (e_B (e_B rfl rfl dic_shape) rfl (isRing d.ring))) fun _ => t_E rfl
  unfold lsB
  cases ht : takes d.ring n L f with
  | false =>
    rw [ht] at c1
    exact ⟨s5, st_IfSkip c1⟩
  | true =>
    rw [ht] at c1
    have hn0 : 0 < n := by omega
    refine ⟨some (.d (tI (spanAt n L f))), (st_IfT c1).trans ?_⟩
    rw [if_pos rfl]
    refine (st_Seq (st_Set (x := .d (tI (spanAt n L f))) (o1 := [.lst (acc.map tI)]) ?_)).trans ?_
    · refine e_C1 (x := .d (lI (spanAt n L f))) ?_ rfl
      refine e_C1 (x := .d (lI ((List.range L).map fun k => ((f : Int) + (k : Nat)) % (n : Int)))) ?_ (o_sortI _)
      unfold lI
      refine e_LCm (enc := fun i : Nat => D.int (0 + (i : Int))) (enc1 := D.int) (fun k => ((f : Int) + (k : Nat)) % (n : Int)) (e_iRg1 (j := (L : Int)) rfl (by omega) (by omega)) (by rw [List.length_range]; exact small (by omega)) fun k hk => ⟨_, rfl, ?_⟩
      have := e_Mod (f := eB mAdd (eV 4) (eV 6)) (g := eV 1) (own := [.lst (acc.map tI)]) (sd := lsS d n L (some (.d (.int (0 + (f : Int))))) s5 (some (.d (.int (0 + (k : Int)))))) (x := 0 + (f : Int) + (0 + (k : Int))) (y := n) rfl rfl (by omega)
      have e2 : (0 + (f : Int) + (0 + (k : Int))) = (f : Int) + (k : Nat) := by omega
      rw [e2] at this
      exact this
    · have c2 : tE (eB (mIn true) (eV 5) (eV 3)) (lsS d n L (some (.d (.int (0 + (f : Int))))) (some (.d (tI (spanAt n L f)))) s6) [.lst (acc.map tI)] = some (.ok (!decide (spanAt n L f ∈ acc)), [.lst (acc.map tI)]) :=
        t_E (e_B rfl rfl (nin_h rfl (qT 59) (ok_tI 58)))
      by_cases hm : spanAt n L f ∈ acc
      · rw [if_pos hm]
        rw [decide_eq_true hm] at c2
        exact st_IfSkip c2
      · rw [if_neg hm]
        rw [decide_eq_false hm] at c2
        refine (st_IfT c2).trans ?_
        refine (st_Expr (e_App (xs := acc.map tI) rfl rfl rfl rfl (by rw [List.length_map]; exact small hz))).trans ?_
        rw [List.map_append]
        rfl
def lsAcc (ring : Bool) (n L : Nat) (pre : List Nat) : List (List Int) := dedup [] ((pre.filter (takes ring n L)).map (spanAt n L))
theorem dedup_snoc {α : Type} [BEq α] [LawfulBEq α] (x : α) : ∀ (xs acc : List α), dedup acc (xs ++ [x]) = if x ∈ dedup acc xs then dedup acc xs else dedup acc xs ++ [x]
  | [], acc => rfl
  | y :: xs, acc => dedup_snoc x xs _
theorem dedup_len {α : Type} [BEq α] [LawfulBEq α] : ∀ (xs acc : List α), (dedup acc xs).length ≤ acc.length + xs.length
  | [], acc => Nat.le_refl _
  | y :: xs, acc => by
    have := dedup_len xs (if y ∈ acc then acc else acc ++ [y])
    show (dedup (if y ∈ acc then acc else acc ++ [y]) xs).length ≤ _
    split at this
    · rename_i h; rw [if_pos h, List.length_cons]; omega
    · rename_i h; rw [if_neg h, List.length_cons]; rw [List.length_append] at this; simp at this; omega
theorem lspans_run {L : Nat} (hn : n ≤ 10000) (h1 : 1 ≤ L) (hL : L ≤ 4) : ∃ o, F__law_spans [.d d.dic, .d (.int n), .d (.int L)] [] = some (.ok (.d (.lst ((spansM d.ring n L).map tI))), o) := by
  obtain ⟨sd2, own2, ef, s4, s5, s6, rfl, rfl⟩ := for_pre (enc := fun i : Nat => D.int (0 + (i : Int))) (tg := tgN 4) (p := lsB)
    (fun pre sd own => ∃ s4 s5 s6, sd = lsS d n L s4 s5 s6 ∧ own = [.lst ((lsAcc d.ring n L pre).map tI)])
    (List.range n) (lsS d n L none none none) [.lst []] ⟨none, none, none, rfl, rfl⟩ (fun pre f post sd own e ⟨s4, s5, s6, h2, h3⟩ => by
      subst h2 h3
      have hf : f < n := by have : f ∈ List.range n := by rw [e]; simp
                            exact List.mem_range.mp this
      have hp : pre.length ≤ n := by have := congrArg List.length e; simp at this; omega
      have hl : (lsAcc d.ring n L pre).length ≤ 100000 := by
        have := dedup_len ((pre.filter (takes d.ring n L)).map (spanAt n L)) []
        unfold lsAcc
        have h4 := List.length_filter_le (takes d.ring n L) pre
        simp at this
        omega
      obtain ⟨t5, et⟩ := lsB_run (d := d) (n := n) (L := L) (f := f) (acc := lsAcc d.ring n L pre) (s5 := s5) (s6 := s6) hn hL hf hl
      refine ⟨_, rfl, _, _, .inl et, _, t5, s6, rfl, ?_⟩
      congr 3
      unfold lsAcc
      rw [List.filter_append]
      by_cases ht : takes d.ring n L f = true
      · rw [if_pos ht, List.filter_cons_of_pos ht, List.filter_nil, List.map_append, List.map_cons, List.map_nil, dedup_snoc]
      · rw [if_neg ht, List.filter_cons_of_neg ht, List.filter_nil, List.append_nil])
  refine ⟨[.lst ((lsAcc d.ring n L (List.range n)).map tI)], ?_⟩
  unfold F__law_spans
  refine run_rt ?_
  refine (st_Seq (sd1 := lsS d n L none none none) (o1 := [.lst []]) rfl).trans ?_
  refine (st_Seq (st_For (e_iRg1 (j := (n : Int)) rfl (by omega) (by omega)) ef)).trans ?_
  refine st_Ret (e_C1 (x := .h 0) rfl ?_)
  show ((some ((lsAcc d.ring n L (List.range n)).map tI)).bind fun ds => if (ds.all (shp (.U .I)) && ds.all full) = true then some (D.lst (srt (ltS (.U .I)) ds)) else none) = _
  have hne : ∀ x ∈ lsAcc d.ring n L (List.range n), x ≠ [] := fun x hx => by
    have : x ∈ lawSpans d.ring n L := by
      unfold lawSpans
      exact (srt_stb swo_lex _).perm.mem_iff.mpr hx
    rw [law_spans_eq h1] at this
    have := spansM_mem this
    intro z
    subst z
    simp at this
    omega
  have e := o_sortUI (own := []) hne
  have e : ((some ((lsAcc d.ring n L (List.range n)).map tI)).bind fun ds => if (ds.all (shp (.U .I)) && ds.all full) = true then some (D.lst (srt (ltS (.U .I)) ds)) else none) = _ := e
  rw [e]
  have : srt lexI (lsAcc d.ring n L (List.range n)) = spansM d.ring n L := law_spans_eq h1
  rw [this]
theorem c_lspans {L : Nat} (hn : n ≤ 10000) (h1 : 1 ≤ L) (hL : L ≤ 4) (sd : Sl) (own : Own) : callD 3 F__law_spans [.d d.dic, .d (.int n), .d (.int L)] sd own = some (.ok (.d (.lst ((spansM d.ring n L).map tI))), own) := by
  obtain ⟨o, e⟩ := lspans_run (d := d) hn h1 hL
  exact cD (ds := [d.dic, .int n, .int L]) rfl rfl e sd own
/-! ### apart -/
def laB : SM := (sSeq (sIf (tE (eB (mIn false) (eV 4) (eV 3)))
    (sRet (eK (.bl false)))
    sNil)
    (sIf (tE (eB mEq (eB mIx (eV 0) (eK (.str "gap"))) (eK (.int 1))))
    (sSeq (sSet 5 (eLst (aCons (eB mSub (eV 4) (eK (.int 1))) (aCons (eB mAdd (eV 4) (eK (.int 1))) aNil))))
    (sSeq (sIf (tE (eB mEq (eB mIx (eV 0) (eK (.str "shape"))) (eK (.str "ring"))))
    (sSet 5 (eLst (aCons (eB mMod (eB mSub (eV 4) (eK (.int 1))) (eV 1)) (aCons (eB mMod (eB mAdd (eV 4) (eK (.int 1))) (eV 1)) aNil))))
    sNil)
    (sIf (tE (eB mNe (eLC (iSeq (eV 5)) [6] (tgN 6) (tE (eB (mIn false) (eV 6) (eV 3))) (eV 6)) (eLst aNil)))
    (sRet (eK (.bl false)))
    sNil)))
    sNil))
abbrev laS (d : Fd) (n : Nat) (one two : List Int) (s4 s5 s6 : Option SV) : Sl := [some (.d d.dic), some (.d (.int n)), some (.d (tI one)), some (.d (tI two)), s4, s5, s6]
def apC (d : Fd) (n : Nat) (two : List Int) (c : Int) : Bool := !decide (c ∈ two) && !(d.gap && (sides d.ring n c).any fun x => decide (x ∈ two))
theorem ne_nil {own : Own} {l : List Int} : mNe own (.d (lI l)) (.d (.lst [])) = some (.bl (!decide (l = []))) := by
  show (if (okN 60 (lI l) && okN 60 (.lst [])) = true then some (D.bl (!eqN 60 (lI l) (lI []))) else none) = _
  have : okN 60 (lI l) = true := ok_ints 59 l
  rw [this, eq_lI]
  rfl
theorem laB_run {one two : List Int} {c : Int} {s5 s6 : Option SV} {own : Own} (hn : 0 < n) (h2 : two.length ≤ 4) :
    (apC d n two c = true ∧ ∃ t5, laB (laS d n one two (some (.d (.int c))) s5 s6) own = some (.nx (laS d n one two (some (.d (.int c))) t5 s6) own)) ∨
    (apC d n two c = false ∧ ∃ o, laB (laS d n one two (some (.d (.int c))) s5 s6) own = some (.rt (.d (.bl false)) o)) := by
  have c1 : tE (eB (mIn false) (eV 4) (eV 3)) (laS d n one two (some (.d (.int c))) s5 s6) own = some (.ok (decide (c ∈ two)), own) := by
    refine t_E (e_B rfl rfl ?_)
    rw [in_tI]
    simp
  have c2 : tE (eB mEq (eB mIx (eV 0) (eK (.str "gap"))) (eK (.int 1))) (laS d n one two (some (.d (.int c))) s5 s6) own = some (.ok d.gap, own) := t_E (e_B (e_B rfl rfl dic_gap) rfl (gap1 d))
  unfold laB apC
  by_cases h : c ∈ two
  · right
    rw [decide_eq_true h] at c1 ⊢
    exact ⟨rfl, own, st_IfEnd c1 rfl⟩
  · rw [decide_eq_false h] at c1 ⊢
    rw [st_Seq (st_IfSkip c1)]
    cases hg : d.gap with
    | false =>
      rw [hg] at c2
      exact .inl ⟨rfl, s5, st_IfSkip c2⟩
    | true =>
      rw [hg] at c2
      rw [st_IfT c2]
      have e5 : ∀ t5, (∃ o, sSeq (sSet 5 (eLst (aCons (eB mSub (eV 4) (eK (.int 1))) (aCons (eB mAdd (eV 4) (eK (.int 1))) aNil)))) (sSeq (sIf (tE (eB mEq (eB mIx (eV 0) (eK (.str "shape"))) (eK (.str "ring"))))
          (sSet 5 (eLst (aCons (eB mMod (eB mSub (eV 4) (eK (.int 1))) (eV 1)) (aCons (eB mMod (eB mAdd (eV 4) (eK (.int 1))) (eV 1)) aNil)))) sNil) t5) (laS d n one two (some (.d (.int c))) s5 s6) own = o ∧ o = t5 (laS d n one two (some (.d (.int c))) (some (.d (lI (sides d.ring n c)))) s6) own) := by
        intro t5
        refine ⟨_, rfl, ?_⟩
        refine (st_Seq (sd1 := laS d n one two (some (.d (.int c))) (some (.d (lI [c - 1, c + 1]))) s6) (o1 := own) rfl).trans ?_
        have c3 : tE (eB mEq (eB mIx (eV 0) (eK (.str "shape"))) (eK (.str "ring"))) (laS d n one two (some (.d (.int c))) (some (.d (lI [c - 1, c + 1]))) s6) own = some (.ok d.ring, own) := t_E (e_B (e_B rfl rfl dic_shape) rfl (isRing d.ring))
        cases hr : d.ring with
        | false =>
          rw [hr] at c3
          exact st_Seq (st_IfSkip c3)
        | true =>
          rw [hr] at c3
          refine st_Seq ((st_IfT c3).trans (st_Set (x := .d (lI (sides true n c))) ?_))
          rw [s_eLst, s_bind_ok (x := [.d (.int ((c - 1) % (n : Int))), .d (.int ((c + 1) % (n : Int)))]) (o1 := own)]
          · rfl
          · exact a_c (e_Mod (x := c - 1) rfl rfl (by omega)) (a_1 (e_Mod (x := c + 1) rfl rfl (by omega)))
      obtain ⟨o, e6, e7⟩ := e5 (sIf (tE (eB mNe (eLC (iSeq (eV 5)) [6] (tgN 6) (tE (eB (mIn false) (eV 6) (eV 3))) (eV 6)) (eLst aNil))) (sRet (eK (.bl false))) sNil)
      rw [e6, e7]
      have c4 : tE (eB mNe (eLC (iSeq (eV 5)) [6] (tgN 6) (tE (eB (mIn false) (eV 6) (eV 3))) (eV 6)) (eLst aNil)) (laS d n one two (some (.d (.int c))) (some (.d (lI (sides d.ring n c)))) s6) own = some (.ok ((sides d.ring n c).any fun x => decide (x ∈ two)), own) := by
        have e8 := e_LCf (own := own) (sd := laS d n one two (some (.d (.int c))) (some (.d (lI (sides d.ring n c)))) s6) (src := iSeq (eV 5)) (vs := [6]) (tg := tgN 6) (t := tE (eB (mIn false) (eV 6) (eV 3))) (f := eV 6) (enc := D.int) (enc1 := D.int) (fun x => decide (x ∈ two)) id (xs := sides d.ring n c) (e_iSeqL rfl)
          (small (by unfold sides; split <;> simp)) fun x hx => ⟨_, rfl, t_E (e_B rfl rfl (by rw [in_tI]; simp)), fun _ => rfl⟩
        refine t_E (e_B e8 rfl ?_)
        rw [List.map_id]
        refine ne_nil.trans ?_
        congr 2
        rw [Bool.eq_iff_iff]
        simp only [Bool.not_eq_true', decide_eq_false_iff_not, List.filter_eq_nil_iff, List.any_eq_true, decide_eq_true_eq]
        constructor
        · intro h
          apply Classical.byContradiction
          intro h2
          exact h fun x hx hx2 => h2 ⟨x, hx, hx2⟩
        · rintro ⟨x, hx, hx2⟩ h
          exact h x hx hx2
      cases ha : (sides d.ring n c).any fun x => decide (x ∈ two) with
      | true =>
        rw [ha] at c4
        exact .inr ⟨rfl, own, (st_IfT c4).trans rfl⟩
      | false =>
        rw [ha] at c4
        exact .inl ⟨rfl, _, st_IfSkip c4⟩
theorem apart_run {one two : List Int} (hn : 0 < n ∨ one = []) (h2 : two.length ≤ 4) : ∃ o, F__law_apart [.d d.dic, .d (.int n), .d (tI one), .d (tI two)] [] = some (.ok (.d (.bl (apM d n one two))), o) := by
  unfold F__law_apart
  have st : ∀ r, sSeq (sFor (iSeq (eV 2)) (tgN 4) laB) (sRet (eK (.bl true))) (laS d n one two none none none) [] = some r → runDef 7 (sSeq (sFor (iSeq (eV 2)) (tgN 4) laB) (sRet (eK (.bl true)))) [.d d.dic, .d (.int n), .d (tI one), .d (tI two)] [] = (match r with | .rt s o => some (.ok s, o) | _ => runDef 7 (sSeq (sFor (iSeq (eV 2)) (tgN 4) laB) (sRet (eK (.bl true)))) [.d d.dic, .d (.int n), .d (tI one), .d (tI two)] []) := fun r hr => by
    cases r with
    | rt s o => exact run_rt hr
    | _ => rfl
  rcases for_exit (enc := D.int) (tg := tgN 4) (p := laB) (fun pre sd own => own = [] ∧ (∃ s4 s5 s6, sd = laS d n one two s4 s5 s6) ∧ pre.all (apC d n two) = true) (fun pre c r => apC d n two c = false ∧ ∃ o, r = .rt (.d (.bl false)) o) one (laS d n one two none none none) [] ⟨rfl, ⟨none, none, none, rfl⟩, rfl⟩ (fun pre c post sd own e ⟨h1, ⟨s4, s5, s6, h3⟩, h4⟩ => by
      subst h1 h3
      have hn0 : 0 < n := by
        rcases hn with h | h
        · exact h
        · rw [h] at e; simp at e
      refine ⟨_, rfl, ?_⟩
      rcases laB_run (d := d) (one := one) (c := c) (s5 := s5) (s6 := s6) (own := []) hn0 h2 with ⟨h5, t5, e5⟩ | ⟨h5, o, e5⟩
      · exact .inl ⟨_, _, .inl e5, rfl, ⟨_, t5, s6, rfl⟩, by rw [List.all_append, h4]; simp [h5]⟩
      · exact .inr ⟨_, e5, rfl, h5, o, rfl⟩) with ⟨sd2, own2, ef, rfl, ⟨s4, s5, s6, rfl⟩, h4⟩ | ⟨pre, c, post, r, e, ef, h5, o, rfl⟩
  · refine ⟨[], (st _ ((st_Seq (st_For (e_iSeqT rfl) ef)).trans rfl)).trans ?_⟩
    have : apM d n one two = true := h4
    rw [this]
  · refine ⟨o, (st (.rt (.d (.bl false)) o) ?_).trans ?_⟩
    · rw [s_sSeq, st_For (e_iSeqT rfl) ef]
    · have : apM d n one two = false := by
        rw [← Bool.not_eq_true]
        intro h
        have := List.all_eq_true.mp (show one.all (apC d n two) = true from h) c (by rw [e]; simp)
        rw [h5] at this
        cases this
      rw [this]
end
end Mx
end T_Mx4
section T_Mx5
set_option Elab.async false
set_option linter.all false
set_option maxRecDepth 100000
set_option maxHeartbeats 4000000
namespace Mx
open PySem Gx Pg
section
variable {d : Fd} {n : Nat}
theorem c_apart {one two : List Int} (hn : 0 < n ∨ one = []) (h2 : two.length ≤ 4) (sd : Sl) (own : Own) : callD 4 F__law_apart [.d d.dic, .d (.int n), .d (tI one), .d (tI two)] sd own = some (.ok (.d (.bl (apM d n one two))), own) := by
  obtain ⟨o, e⟩ := apart_run (d := d) hn h2
  exact cD (ds := [d.dic, .int n, tI one, tI two]) rfl rfl e sd own
abbrev lpS (d : Fd) (n : Nat) (som : D) (s3 s4 s5 s6 s7 : Option SV) : Sl := [some (.d d.dic), some (.d (.int n)), some (.d som), s3, s4, s5, s6, s7]
def lpI : SM := (sIf (tAnd (tE (eCallD 4 F__law_apart (aCons (eV 0) (aCons (eV 1) (aCons (eV 4) (aCons (eV 5) aNil)))))) (tOr (tE (eB mLt (eB mIx (eB mIx (eV 0) (eK (.str "ships"))) (eK (.int 0))) (eB mIx (eB mIx (eV 0) (eK (.str "ships"))) (eK (.int 1))))) (tE (eB (mLtT (.U .I)) (eV 4) (eV 5)))))
    (sExpr (eMut mmApp (eV 3) (aCons (eTup (aCons (eV 4) (aCons (eV 5) aNil))) aNil)))
    sNil)
def lpB : SM := sFor (iSeq (eB mIx (eV 2) (eK (.int 1)))) (tgN 5) lpI
def lpP (d : Fd) (n b : Nat) (one two : List Int) : Bool := apM d n one two && (decide (d.a < b) || lexI one two)
def lpT (d : Fd) (n b : Nat) (one : List Int) (l : List (List Int)) : List (List (List Int)) := (l.filter (lpP d n b one)).map fun two => [one, two]
theorem free_nil (c : List Int) : free [] c = true := by
  unfold free
  simp
theorem spF_nil {L : Nat} : spF d n L [] = spansM d.ring n L := List.filter_eq_self.mpr fun c _ => free_nil c
theorem lpT_eq {b : Nat} {one : List Int} (hab : d.a ≤ b) (ha : 1 ≤ d.a) (h1 : one ∈ spansM d.ring n d.a) : lpT d n b one (spansM d.ring n b) = plT d n b [] one := by
  unfold lpT plT
  rw [spF_nil, List.filter_filter]
  congr 1
  refine List.filter_congr fun two h2 => ?_
  unfold lpP later
  rw [ap_eq (spansM_in h1 ha) (spansM_in h2 (by omega))]
  congr 2
  by_cases c : d.a = b
  · rw [decide_eq_true c, decide_eq_false (by omega)]; rfl
  · rw [decide_eq_false c, decide_eq_true (by omega)]; rfl
theorem lpI_run {b : Nat} {som : D} {one two : List Int} {acc : List (List (List Int))} {s6 s7 : Option SV} (hb : d.b = some b) (hn : 0 < n ∨ one = []) (h2 : two.length ≤ 4) (hz : acc.length ≤ 10000000) :
    lpI (lpS d n som (some (.h 0)) (some (.d (tI one))) (some (.d (tI two))) s6 s7) [.lst (acc.map tT)] = some (.nx (lpS d n som (some (.h 0)) (some (.d (tI one))) (some (.d (tI two))) s6 s7) [.lst ((acc ++ lpT d n b one [two]).map tT)]) := by
  have hobj : d.shipsD = .tup [.int d.a, .int b] := by unfold Fd.shipsD Fd.ships nI; rw [hb]; rfl
  have c1 : tAnd (tE (eCallD 4 F__law_apart (aCons (eV 0) (aCons (eV 1) (aCons (eV 4) (aCons (eV 5) aNil)))))) (tOr (tE (eB mLt (eB mIx (eB mIx (eV 0) (eK (.str "ships"))) (eK (.int 0))) (eB mIx (eB mIx (eV 0) (eK (.str "ships"))) (eK (.int 1))))) (tE (eB (mLtT (.U .I)) (eV 4) (eV 5))))
      (lpS d n som (some (.h 0)) (some (.d (tI one))) (some (.d (tI two))) s6 s7) [.lst (acc.map tT)] = some (.ok (lpP d n b one two), [.lst (acc.map tT)]) := by
    unfold lpP
    have e1 : decide (d.a < b) = decide ((d.a : Int) < b) := decide_eq_decide.mpr (by omega)
    rw [e1]
    refine t_AndB (t_E (e_CallD rfl (c_apart hn h2))) fun _ => t_OrB (t_E (e_B (x := .d (.int d.a)) (y := .d (.int b)) (o1 := [.lst (acc.map tT)]) ?_ ?_ rfl)) fun _ => t_E (e_B rfl rfl (o_ltI _ _))
    · exact e_B (x := .d (.tup [.int d.a, .int b])) (e_B rfl rfl (by rw [dic_ships, hobj])) rfl rfl
    · exact e_B (x := .d (.tup [.int d.a, .int b])) (e_B rfl rfl (by rw [dic_ships, hobj])) rfl rfl
  unfold lpI lpT
  cases h : lpP d n b one two with
  | true =>
    rw [h] at c1
    rw [st_IfT c1, List.filter_cons_of_pos h]
    refine (st_Expr (e_App (xs := acc.map tT) (y := tT [one, two]) rfl rfl rfl rfl (by rw [List.length_map, sizeL]; omega))).trans ?_
    rw [List.map_append]
    rfl
  | false =>
    rw [h] at c1
    rw [st_IfSkip c1, List.filter_cons_of_neg (by rw [h]; exact Bool.false_ne_true)]
    simp
theorem lpT_app {b : Nat} {one : List Int} {l m : List (List Int)} : lpT d n b one (l ++ m) = lpT d n b one l ++ lpT d n b one m := by
  unfold lpT
  rw [List.filter_append, List.map_append]
theorem lpT_len {b : Nat} {one : List Int} {l : List (List Int)} : (lpT d n b one l).length ≤ l.length := by
  unfold lpT
  rw [List.length_map]
  exact List.length_filter_le _ _
theorem lpB_run {b : Nat} {one : List Int} {acc : List (List (List Int))} {s5 s6 s7 : Option SV} (hb : d.b = some b) (hb4 : b ≤ 4) (hn : 0 < n ∨ one = []) (hz : acc.length + n + 1 ≤ 10000000) :
    ∃ t5, lpB (lpS d n (.lst [.lst ((spansM d.ring n d.a).map tI), .lst ((spansM d.ring n b).map tI)]) (some (.h 0)) (some (.d (tI one))) s5 s6 s7) [.lst (acc.map tT)] =
      some (.nx (lpS d n (.lst [.lst ((spansM d.ring n d.a).map tI), .lst ((spansM d.ring n b).map tI)]) (some (.h 0)) (some (.d (tI one))) t5 s6 s7) [.lst ((acc ++ lpT d n b one (spansM d.ring n b)).map tT)]) := by
  generalize hsom : D.lst [.lst ((spansM d.ring n d.a).map tI), .lst ((spansM d.ring n b).map tI)] = som
  obtain ⟨sd2, own2, ef, t5, rfl, rfl⟩ := for_pre (enc := tI) (tg := tgN 5) (p := lpI)
    (fun pre sd own => ∃ s5, sd = lpS d n som (some (.h 0)) (some (.d (tI one))) s5 s6 s7 ∧ own = [.lst ((acc ++ lpT d n b one pre).map tT)])
    (spansM d.ring n b) (lpS d n som (some (.h 0)) (some (.d (tI one))) s5 s6 s7) [.lst (acc.map tT)] ⟨s5, rfl, by simp [lpT]⟩ (fun pre two post sd own e ⟨s5, h1, h2⟩ => by
      subst h1 h2
      have hm : two ∈ spansM d.ring n b := by rw [e]; simp
      have hp : pre.length ≤ n + 1 := by
        have := congrArg List.length e
        have := spansM_len (ring := d.ring) (n := n) (L := b)
        simp at *
        omega
      have := lpT_len (d := d) (n := n) (b := b) (one := one) (l := pre)
      refine ⟨_, rfl, _, _, .inl (lpI_run (b := b) hb hn (by rw [spansM_mem hm]; exact hb4) (by rw [List.length_append]; omega)), some (.d (tI two)), rfl, ?_⟩
      rw [lpT_app, List.append_assoc])
  refine ⟨t5, ?_⟩
  subst hsom
  exact st_For (e_iSeqL (e_B rfl rfl rfl)) ef
theorem o_sortUUI {own : Own} {k : Nat} {l : List (List (List Int))} (hk : own[k]? = some (.lst (l.map tT))) (h : ∀ x ∈ l, x ≠ []) (hs : SrtO.Srtd (fun x y => ltS (.U (.U .I)) (tT x) (tT y)) l) : mSortT (.U (.U .I)) own (.h k) = some (.lst (l.map tT)) := by
  have h1 : lstV own (.h k) = some (l.map tT) := by
    show (match own[k]? with | some (.lst xs) => some xs | _ => none) = _
    rw [hk]
  unfold mSortT
  rw [h1, Option.bind_some]
  have h2 : (l.map tT).all (shp (.U (.U .I))) = true := by
    rw [List.all_map, List.all_eq_true]
    exact fun x _ => shp_tT x
  have h3 : (l.map tT).all full = true := by
    rw [List.all_map, List.all_eq_true]
    intro x hx
    cases x with
    | nil => exact absurd rfl (h [] hx)
    | cons => rfl
  rw [h2, h3, ← srt_map (lt := ltS (.U (.U .I))) tT l, srt_id _ hs]
  rfl
theorem lplaces_run (hd : d.ok) (hn : n ≤ 1000) : ∃ o, F__law_places [.d d.dic, .d (.int n)] [] = some (.ok (.d (.lst ((placesM d n []).map tT))), o) := by
  obtain ⟨ha1, ha4, hb⟩ := hd
  have l1 := spansM_len (ring := d.ring) (n := n) (L := d.a)
  cases hb0 : d.b with
  | none =>
    refine ⟨[], ?_⟩
    unfold F__law_places
    refine run_rt ?_
    have hobj : d.shipsD = .tup ([d.a].map nI) := by unfold Fd.shipsD Fd.ships; rw [hb0]; rfl
    refine (st_Seq (st_Set (e_LC0 (enc := nI) (xs := [d.a]) (fun L => D.lst ((spansM d.ring n L).map tI)) (e_iSeqT (e_B (d := .tup ([d.a].map nI)) rfl rfl (by rw [dic_ships, hobj]))) (small (by simp)) fun L hL => ⟨_, rfl, e_CallD rfl (c_lspans (by omega) (by rw [List.mem_singleton.mp hL]; exact ha1) (by rw [List.mem_singleton.mp hL]; exact ha4))⟩))).trans ?_
    refine st_IfEnd rfl ?_
    refine (st_Ret (e_LCm (enc := tI) (enc1 := tT) (fun c => [c]) (e_iSeqL (xs := (spansM d.ring n d.a).map tI) (e_B rfl rfl rfl)) (small (by omega)) fun c hc => ⟨_, rfl, rfl⟩)).trans ?_
    unfold placesM
    rw [hb0, spF_nil]
  | some b =>
    obtain ⟨hb1, hb4⟩ := hb b hb0
    refine ⟨[.lst ((placesM d n []).map tT)], ?_⟩
    unfold F__law_places
    refine run_rt ?_
    have hobj : d.shipsD = .tup ([d.a, b].map nI) := by unfold Fd.shipsD Fd.ships; rw [hb0]; rfl
    refine (st_Seq (st_Set (e_LC0 (enc := nI) (xs := [d.a, b]) (fun L => D.lst ((spansM d.ring n L).map tI)) (e_iSeqT (e_B (d := .tup ([d.a, b].map nI)) rfl rfl (by rw [dic_ships, hobj]))) (small (by simp)) fun L hL => ⟨_, rfl, e_CallD rfl (c_lspans (by omega) ?_ ?_)⟩))).trans ?_
    · rcases List.mem_cons.mp hL with rfl | hL
      · exact ha1
      · rw [List.mem_singleton.mp hL]; omega
    · rcases List.mem_cons.mp hL with rfl | hL
      · exact ha4
      · rw [List.mem_singleton.mp hL]; omega
    refine (st_Seq (st_IfSkip rfl)).trans ?_
    refine (st_Seq (sd1 := lpS d n (.lst [.lst ((spansM d.ring n d.a).map tI), .lst ((spansM d.ring n b).map tI)]) (some (.h 0)) none none none none) (o1 := [.lst []]) rfl).trans ?_
    have hpl : placesM d n [] = (spansM d.ring n d.a).flatMap fun one => lpT d n b one (spansM d.ring n b) := by
      have : placesM d n [] = (spF d n d.a []).flatMap (plT d n b []) := by unfold placesM; rw [hb0]; rfl
      rw [this, spF_nil]
      have e : ∀ (f g : List Int → List (List (List Int))) (l : List (List Int)), (∀ x ∈ l, f x = g x) → l.flatMap f = l.flatMap g := fun f g l h => by
        induction l with
        | nil => rfl
        | cons x l ih => rw [List.flatMap_cons, List.flatMap_cons, h x List.mem_cons_self, ih fun y hy => h y (List.mem_cons_of_mem _ hy)]
      exact e _ _ _ fun one h1 => (lpT_eq hb1 ha1 h1).symm
    obtain ⟨sd2, own2, ef, s4, s5, rfl, rfl⟩ := for_pre (enc := tI) (tg := tgN 4) (p := lpB)
      (fun pre sd own => ∃ s4 s5, sd = lpS d n (.lst [.lst ((spansM d.ring n d.a).map tI), .lst ((spansM d.ring n b).map tI)]) (some (.h 0)) s4 s5 none none ∧ own = [.lst ((pre.flatMap fun one => lpT d n b one (spansM d.ring n b)).map tT)])
      (spansM d.ring n d.a) (lpS d n (.lst [.lst ((spansM d.ring n d.a).map tI), .lst ((spansM d.ring n b).map tI)]) (some (.h 0)) none none none none) [.lst []] ⟨none, none, rfl, rfl⟩ (fun pre one post sd own e ⟨s4, s5, h1, h2⟩ => by
        subst h1 h2
        have hm : one ∈ spansM d.ring n d.a := by rw [e]; simp
        have hp : pre.length ≤ n + 1 := by
          have := congrArg List.length e
          simp at this
          omega
        have hlen := sum_small (fun one => lpT d n b one (spansM d.ring n b)) (n + 1) (n + 1) pre hp fun x _ => Nat.le_trans lpT_len spansM_len
        have hsq : (n + 1) * (n + 1) ≤ 1001 * 1001 := Nat.mul_le_mul (by omega) (by omega)
        have hn0 : 0 < n ∨ one = [] := by
          cases hone : one with
          | nil => exact .inr rfl
          | cons x t =>
            have := spansM_in hm ha1 x (by rw [hone]; simp)
            exact .inl (by omega)
        obtain ⟨t5, et⟩ := lpB_run (d := d) (n := n) (b := b) (one := one) (acc := pre.flatMap fun one => lpT d n b one (spansM d.ring n b)) (s5 := s5) (s6 := none) (s7 := none) hb0 hb4 hn0 (by omega)
        exact ⟨_, rfl, _, _, .inl et, _, t5, rfl, by rw [List.flatMap_append]; simp⟩)
    refine (st_Seq (st_For (e_iSeqL (e_B rfl rfl rfl)) ef)).trans ?_
    rw [← hpl]
    refine st_Ret (e_C1 (x := .h 0) rfl (o_sortUUI (k := 0) rfl ?_ ?_))
    · intro x hx
      rw [hpl] at hx
      obtain ⟨one, _, hx⟩ := List.mem_flatMap.mp hx
      unfold lpT at hx
      obtain ⟨two, _, rfl⟩ := List.mem_map.mp hx
      simp
    · rcases places_srtd (d := d) (n := n) (shot := []) ⟨ha1, ha4, hb⟩ with h | h
      · exact h
      · rw [hb0] at h; cases h
theorem c_lplaces (hd : d.ok) (hn : n ≤ 1000) (sd : Sl) (own : Own) : callD 2 F__law_places [.d d.dic, .d (.int n)] sd own = some (.ok (.d (.lst ((placesM d n []).map tT))), own) := by
  obtain ⟨o, e⟩ := lplaces_run hd hn
  exact cD (ds := [d.dic, .int n]) rfl rfl e sd own
/-! ## fleets made -/
end
end Mx
end T_Mx5
section T_Mx6
set_option Elab.async false
set_option linter.all false
set_option maxRecDepth 100000
set_option maxHeartbeats 4000000
namespace Mx
open PySem Gx Pg
theorem pick_ok : Draws F__law_pick := by
  rintro o m ⟨ns, i, c, s, rfl, h0, h1, hc⟩ hm hm2
  have m0 : (0 : Int) < m := by omega
  by_cases c0 : c = 0
  · subst c0
    by_cases hi : i < ns.length
    · have hv : L2.atI (ns.map D.int) i = some (.int (ns[i.toNat]'(by omega))) := by
        rw [atI_pos h0, List.getElem?_map, List.getElem?_eq_getElem (by omega)]; rfl
      generalize (ns[i.toNat]'(by omega)) = v at hv
      by_cases hb : (1000000000000000000 : Int) ≤ v
      · have v0 : 0 < v := by omega
        refine ⟨v % m, .lst [.lst (ns.map D.int), .int (i + 1), .int (v / m), .int s], Int.emod_nonneg _ (by omega), Int.emod_lt_of_pos _ m0, ⟨ns, i + 1, v / m, s, rfl, by omega, by omega, Int.ediv_nonneg (by omega) (by omega)⟩, ?_⟩
        have e2 : decide ((1000000000000000000 : Int) ≤ v) = true := by simpa using hb
        simp [F__law_pick, runDef, startD, o_ixh, atI_pos, hv, hi, setIx, L2.ixN, mPow, m2I, o_mod m0, o_fdiv m0 hm2, v0, e2]
      · have e2 : decide ((1000000000000000000 : Int) ≤ v) = false := by simpa using hb
        have q0 : (0 : Int) < 2147483629 := by decide
        have q1 : (0 : Int) < 2147483647 := by decide
        refine ⟨(((s * 48271 + v * 69621 + 11) % 2147483647) * 16807) % 2147483629 % m, .lst [.lst (ns.map D.int), .int (i + 1), .int 0, .int ((s * 48271 + v * 69621 + 11) % 2147483647)], Int.emod_nonneg _ (by omega), Int.emod_lt_of_pos _ m0, ⟨ns, i + 1, 0, _, rfl, by omega, by omega, by omega⟩, ?_⟩
        simp [F__law_pick, runDef, startD, o_ixh, atI_pos, hv, hi, setIx, L2.ixN, mPow, m2I, o_mod, m0, q0, q1, o_mulr, e2]
    · have q0 : (0 : Int) < 2147483629 := by decide
      have q1 : (0 : Int) < 2147483647 := by decide
      refine ⟨(((s * 48271 + 7) % 2147483647) * 16807) % 2147483629 % m, .lst [.lst (ns.map D.int), .int i, .int 0, .int ((s * 48271 + 7) % 2147483647)], Int.emod_nonneg _ (by omega), Int.emod_lt_of_pos _ m0, ⟨ns, i, 0, _, rfl, by omega, by omega, by omega⟩, ?_⟩
      simp [F__law_pick, runDef, startD, o_ixh, atI_pos, hi, setIx, L2.ixN, mPow, m2I, o_mod, m0, q0, q1, o_mulr]
  · have cp : 0 < c := by omega
    refine ⟨c % m, .lst [.lst (ns.map D.int), .int i, .int (c / m), .int s], Int.emod_nonneg _ (by omega), Int.emod_lt_of_pos _ m0, ⟨ns, i, c / m, s, rfl, by omega, by omega, Int.ediv_nonneg (by omega) (by omega)⟩, ?_⟩
    have c1 : (c == 0) = false := by simpa using c0
    simp [F__law_pick, runDef, startD, o_ixh, atI_pos, setIx, L2.ixN, o_mod m0, o_fdiv m0 hm2, cp, c1]
/-- a drawing in the zone -/
theorem draw {o : O} {m : Int} (R : Row o) (h1 : 1 ≤ m) (h2 : m < 1073741824) : ∃ (r : Nat) (o' : O), (r : Int) < m ∧ Row o' ∧ ∀ (f g : EM) (sd : Sl) (rest : Own), f sd (o :: rest) = some (.ok (.h 0), o :: rest) → g sd (o :: rest) = some (.ok (.d (.int m)), o :: rest) →
    eCallZ 2 F__law_pick (aCons f (aCons g aNil)) sd (o :: rest) = some (.ok (.d (.int r)), o' :: rest) := by
  obtain ⟨r, o', h3, h4, R', e⟩ := draw_all pick_ok R h1 h2
  obtain ⟨k, rfl⟩ := Int.eq_ofNat_of_zero_le h3
  refine ⟨k, o', h4, R', fun f g sd rest hf hg => ?_⟩
  rw [s_eCallZ, s_bind_ok (a_c hf (a_1 hg))]
  exact e sd rest
/-! ## fleets -/
theorem init_ok {d : Fd} (hd : d.ok) : F__law_made [.d d.dic] [] = some (.ok (.d d.obj), []) := by
  obtain ⟨ring, a, b, gap⟩ := d
  obtain ⟨h1, h4, hb⟩ := hd
  have ha : a = 1 ∨ a = 2 ∨ a = 3 ∨ a = 4 := by have h1 : 1 ≤ a := h1; have h4 : a ≤ 4 := h4; omega
  cases b with
  | none => rcases ha with rfl | rfl | rfl | rfl <;> cases ring <;> cases gap <;> kernel_rfl
  | some b =>
    obtain ⟨h5, h6⟩ := hb b rfl
    have h5 : a ≤ b := h5
    have hb' : b = 1 ∨ b = 2 ∨ b = 3 ∨ b = 4 := by have h1 : 1 ≤ a := h1; omega
    clear hb
    rcases ha with rfl | rfl | rfl | rfl <;> rcases hb' with rfl | rfl | rfl | rfl <;> first | omega | (cases ring <;> cases gap <;> kernel_rfl)
theorem c_made {d : Fd} (hd : d.ok) (sd : Sl) (own : Own) : callD 1 F__law_made [.d d.dic] sd own = some (.ok (.d d.obj), own) := cD (ds := [d.dic]) rfl rfl (init_ok hd) sd own
theorem prs_cons {f g : EM} {r : List (EM × EM)} {sd : Sl} {own o1 o2 o3 : Own} {a b : D} {k : L2.Key} {l : List (L2.Key × D)} (hf : f sd own = some (.ok (.d a), o1)) (hk : keyOf a = some k) (hg : g sd o1 = some (.ok (.d b), o2)) (hr : prs r sd o2 = some (.ok l, o3)) : prs ((f, g) :: r) sd own = some (.ok ((k, b) :: l), o3) := by
  unfold prs
  rw [s_bind_ok hf, s_bind_ok hg]
  simp only [hk]
  rw [s_bind_ok hr]
  rfl
theorem e_Disp {l : List (EM × EM)} {sd : Sl} {own o1 : Own} {ps : List (L2.Key × D)} (h : prs l sd own = some (.ok ps, o1)) (hz : ps.length ≤ 15) : eDisp l sd own = some (.ok (.d (.dic (mergeD ps ([], [])).1 (mergeD ps ([], [])).2)), o1) := by
  unfold eDisp
  rw [s_bind_ok h, s_ask, if_pos hz]
/-- the three ways to tell the ships -/
def shipsOf (x y k : Nat) : Nat × Option Nat := if k = 0 then (x, none) else if k = 1 then (min x y, some (max x y)) else (x, some x)
theorem min_max (x y : Nat) : (if (y : Int) < x then (y : Int) else x) = (min x y : Nat) ∧ (if (y : Int) > x then (y : Int) else x) = (max x y : Nat) := by
  constructor <;> split <;> omega
theorem at3 {a b c : D} {k : Nat} (h : k < 3) : L2.atI [a, b, c] (k : Int) = some (if k = 0 then a else if k = 1 then b else c) := by
  have : k = 0 ∨ k = 1 ∨ k = 2 := by omega
  rcases this with rfl | rfl | rfl <;> rfl
theorem at2 {a b : D} {k : Nat} (h : k < 2) : L2.atI [a, b] (k : Int) = some (if k = 0 then a else b) := by
  have : k = 0 ∨ k = 1 := by omega
  rcases this with rfl | rfl <;> rfl
theorem fleet_run {o : O} (R : Row o) : ∃ (d : Fd) (o' : O), d.ok ∧ Row o' ∧ F__law_fleet [.h 0] [o] = some (.ok (.d d.dic), [o']) := by
  obtain ⟨x, o1, hx, R1, e1⟩ := draw R (m := 4) (by decide) (by decide)
  obtain ⟨y, o2, hy, R2, e2⟩ := draw R1 (m := 4) (by decide) (by decide)
  obtain ⟨k, o3, hk, R3, e3⟩ := draw R2 (m := 3) (by decide) (by decide)
  obtain ⟨r, o4, hr, R4, e4⟩ := draw R3 (m := 2) (by decide) (by decide)
  obtain ⟨g, o5, hg, R5, e5⟩ := draw R4 (m := 2) (by decide) (by decide)
  refine ⟨⟨decide (r ≠ 0), (shipsOf (1 + x) (1 + y) k).1, (shipsOf (1 + x) (1 + y) k).2, decide (g ≠ 0)⟩, o5, ?_, R5, ?_⟩
  · unfold Fd.ok shipsOf
    have : k = 0 ∨ k = 1 ∨ k = 2 := by omega
    rcases this with rfl | rfl | rfl
    · exact ⟨by simp, by simp <;> omega, fun b h => by cases h⟩
    · refine ⟨by simp <;> omega, by simp <;> omega, fun b h => ?_⟩
      cases h
      constructor
      · simp <;> omega
      · omega
    · refine ⟨by simp, by simp <;> omega, fun b h => ?_⟩
      cases h
      constructor
      · simp
      · omega
  · unfold F__law_fleet
    refine run_rt ?_
    have p1 := e1 (eV 0) (eK (.int 4)) [some (.h 0), none, none, none] [] rfl rfl
    have p2 := e2 (eV 0) (eK (.int 4)) [some (.h 0), none, none, none] [] rfl rfl
    have s1 : sPar [1, 2] (aCons (eB mAdd (eK (.int 1)) (eCallZ 2 F__law_pick (aCons (eV 0) (aCons (eK (.int 4)) aNil)))) (aCons (eB mAdd (eK (.int 1)) (eCallZ 2 F__law_pick (aCons (eV 0) (aCons (eK (.int 4)) aNil)))) aNil)) [some (.h 0), none, none, none] [o] =
        some (.nx [some (.h 0), some (.d (.int (1 + x))), some (.d (.int (1 + y))), none] [o2]) := by
      rw [s_sPar, s_Sbind, a_c (e_B (x := .d (.int 1)) rfl p1 rfl) (a_1 (e_B (x := .d (.int 1)) rfl p2 rfl))]
      rfl
    refine (st_Seq s1).trans ?_
    have p3 := e3 (eV 0) (eK (.int 3)) [some (.h 0), some (.d (.int (1 + x))), some (.d (.int (1 + y))), none] [] rfl rfl
    have sh : eB mIx (eLst (aCons (eTup (aCons (eV 1) aNil)) (aCons (eTup (aCons (eCB (m2 mMin2) (aCons (eV 1) (aCons (eV 2) aNil))) (aCons (eCB (m2 mMax2) (aCons (eV 1) (aCons (eV 2) aNil))) aNil))) (aCons (eTup (aCons (eV 1) (aCons (eV 1) aNil))) aNil)))) (eCallZ 2 F__law_pick (aCons (eV 0) (aCons (eK (.int 3)) aNil)))
        [some (.h 0), some (.d (.int (1 + x))), some (.d (.int (1 + y))), none] [o2] = some (.ok (.d (.tup ((((shipsOf (1 + x) (1 + y) k).1) :: (shipsOf (1 + x) (1 + y) k).2.toList).map nI))), [o3]) := by
      refine e_B (x := .d (.lst [.tup [.int (1 + x)], .tup [.int (if (1 + y : Int) < 1 + x then 1 + y else 1 + x), .int (if (1 + y : Int) > 1 + x then 1 + y else 1 + x)], .tup [.int (1 + x), .int (1 + x)]])) rfl p3 ?_
      rw [o_ixl, at3 (by omega)]
      have : k = 0 ∨ k = 1 ∨ k = 2 := by omega
      obtain ⟨m1, m2⟩ := min_max (1 + x) (1 + y)
      rw [Int.natCast_add, Int.natCast_add] at m1 m2
      rcases this with rfl | rfl | rfl
      · unfold shipsOf nI
        simp
      · unfold shipsOf nI
        simp only [if_neg (by decide : ¬ (1 = 0)), if_pos]
        rw [show ((1 : Nat) : Int) = 1 from rfl] at m1 m2
        rw [m1, m2]
        rfl
      · unfold shipsOf nI
        simp
    refine (st_Seq (st_Set sh)).trans ?_
    generalize hss : D.tup ((((shipsOf (1 + x) (1 + y) k).1) :: (shipsOf (1 + x) (1 + y) k).2.toList).map nI) = ss
    have p4 := e4 (eV 0) (eK (.int 2)) [some (.h 0), some (.d (.int (1 + x))), some (.d (.int (1 + y))), some (.d ss)] [] rfl rfl
    have p5 := e5 (eV 0) (eK (.int 2)) [some (.h 0), some (.d (.int (1 + x))), some (.d (.int (1 + y))), some (.d ss)] [] rfl rfl
    refine st_Ret ?_
    have v1 : eB mIx (eLst (aCons (eK (.str "row")) (aCons (eK (.str "ring")) aNil))) (eCallZ 2 F__law_pick (aCons (eV 0) (aCons (eK (.int 2)) aNil))) [some (.h 0), some (.d (.int (1 + x))), some (.d (.int (1 + y))), some (.d ss)] [o3] = some (.ok (.d (.str (shapeS (decide (r ≠ 0))))), [o4]) := by
      refine e_B (x := .d (.lst [.str "row", .str "ring"])) rfl p4 ?_
      rw [o_ixl, at2 (by omega)]
      have : r = 0 ∨ r = 1 := by omega
      rcases this with rfl | rfl <;> rfl
    refine (e_Disp (prs_cons rfl (k := .inr "shape") rfl v1 (prs_cons (a := .str "ships") (b := ss) rfl (k := .inr "ships") rfl rfl (prs_cons (a := .str "gap") rfl (k := .inr "gap") rfl p5 rfl))) (by simp)).trans ?_
    have : (g : Int) = if decide (g ≠ 0) = true then 1 else 0 := by
      have : g = 0 ∨ g = 1 := by omega
      rcases this with rfl | rfl <;> rfl
    unfold Fd.dic Fd.shape Fd.shipsD Fd.ships Fd.gapI
    rw [hss, ← this]
    kernel_rfl
/-- a fleet drawn -/
theorem fleet_draw {o : O} (R : Row o) : ∃ (d : Fd) (o' : O), d.ok ∧ Row o' ∧ ∀ (f : EM) (sd : Sl) (rest : Own), f sd (o :: rest) = some (.ok (.h 0), o :: rest) → eCallZ 1 F__law_fleet (aCons f aNil) sd (o :: rest) = some (.ok (.d d.dic), o' :: rest) := by
  obtain ⟨d, o', hd, R', e⟩ := fleet_run R
  refine ⟨d, o', hd, R', fun f sd rest hf => ?_⟩
  rw [s_eCallZ, s_bind_ok (a_1 hf)]
  unfold callZ
  simp [row_flat R, row_flat R', e]
/-! ## checks -/
theorem from_run {x l h : Int} : F_is_from [.d (.int x), .d (.int l), .d (.int h)] [] = some (.ok (.d (.bl (decide (l ≤ x) && decide (x ≤ h)))), []) := by
  unfold F_is_from
  refine run_rt (st_Ret ?_)
  refine (e_And (a := true) (b := decide (l ≤ x) && decide (x ≤ h)) (e_CallD (xs := [.d (.int x)]) rfl (cD (ds := [.int x]) (o1 := []) rfl rfl rfl)) fun _ => ?_).trans rfl
  rw [s_eCh]
  rw [s_bind_ok (x := .d (.int l)) (o1 := []) rfl, s_bind_ok (x := .d (.int x)) (o1 := []) rfl, s_bind_ok (x := .bl (decide (l ≤ x))) (o1 := []) rfl]
  cases c : decide (l ≤ x) <;> rfl
theorem c_from {x l h : Int} (sd : Sl) (own : Own) : callD 3 F_is_from [.d (.int x), .d (.int l), .d (.int h)] sd own = some (.ok (.d (.bl (decide (l ≤ x) && decide (x ≤ h)))), own) := cD (ds := [.int x, .int l, .int h]) rfl rfl from_run sd own
/-- what is no number between -/
def noInt : D → Bool
  | .non => true
  | .bl _ => true
  | .str _ => true
  | .tup _ => true
  | .lst _ => true
  | _ => false
theorem checkn_ok {n h : Nat} (hn : n ≤ h) : F_check_number [.d (.int n), .d (.int h)] [] = some (.ok (.d .non), []) := by
  unfold F_check_number
  refine run_nx (sd := [some (.d (.int n)), some (.d (.int h))]) ?_
  refine (st_IfSkip ?_)
  have e : tNot (tE (eCallD 3 F_is_from (aCons (eV 0) (aCons (eK (.int 0)) (aCons (eV 1) aNil))))) [some (.d (.int n)), some (.d (.int h))] [] = some (.ok (!(decide ((0 : Int) ≤ n) && decide ((n : Int) ≤ h))), []) := t_Not (t_E (e_CallD rfl c_from))
  have : (!(decide ((0 : Int) ≤ n) && decide ((n : Int) ≤ h))) = false := by simp; omega
  rw [this] at e
  exact e
theorem c_checkn {n h : Nat} (hn : n ≤ h) (sd : Sl) (own : Own) : callD 2 F_check_number [.d (.int n), .d (.int h)] sd own = some (.ok (.d .non), own) := cD (ds := [.int n, .int h]) rfl rfl (checkn_ok hn) sd own
end Mx
end T_Mx6
section T_Mx7
set_option Elab.async false
set_option linter.all false
set_option maxRecDepth 100000
set_option maxHeartbeats 4000000
namespace Mx
open PySem Gx Pg
/-! ## enumerate -/
def SeqD (q : D) (ds : List D) : Prop := q = .lst ds ∨ q = .tup ds
/-! ## orders -/
def coB : SM := (sSeq (sIf (tOr (tNot (tE (eCallD 3 F_is_from (aCons (eV 4) (aCons (eK (.int 0)) (aCons (eB mSub (eV 0) (eK (.int 1))) aNil)))))) (tE (eB (mIn false) (eV 4) (eV 2))))
    (sRaise 16 (aCons (eV 3) aNil))
    sNil)
    (sPutD (eV 2) (eV 4) (eK (.bl true))))
/-- what may not stand at this place -/
def badAt (n : Nat) (l : List Int) (d : D) : Prop := noInt d = true ∨ ∃ c : Int, d = .int c ∧ (c < 0 ∨ (n : Int) ≤ c ∨ c ∈ l)
def Good (n : Nat) (l : List Int) : Prop := l.Nodup ∧ ∀ c ∈ l, 0 ≤ c ∧ c < n
/-! ## misses -/
def hitM (p : List (List Int)) (c : Int) : Bool := p.any fun s => decide (c ∈ s)
def missesM (p : List (List Int)) (l : List Int) : Nat := (l.takeWhile fun c => !hitM p c).length
def moB : SM := (sIf (tE (eCB (m1 mAny) (aCons (eLC (iSeq (eV 0)) [4] (tgN 4) tTrue (eB (mIn false) (eV 3) (eV 4))) aNil)))
    (sRet (eV 2))
    sNil)
end Mx
end T_Mx7
section T_Mx8
set_option Elab.async false
set_option linter.all false
set_option maxRecDepth 100000
set_option maxHeartbeats 4000000
namespace Mx
open PySem Gx Pg
/-! ## words -/
inductive Wd where
  | miss | hit | sunk
  deriving DecidableEq
def Wd.s : Wd → Str
  | .miss => "miss"
  | .hit => "hit"
  | .sunk => "sunk"
def wordM (p : List (List Int)) (c : Int) (shot : List Int) : Wd := match p.find? fun s => decide (c ∈ s) with
  | none => .miss
  | some s => if (s.filter fun x => !decide (x = c) && !decide (x ∈ shot)) = [] then .sunk else .hit
def lwB : SM := (sIf (tE (eB (mIn false) (eV 1) (eV 3)))
    (sSeq (sSet 4 (eLC (iSeq (eV 3)) [5] (tgN 5) (tAnd (tE (eB mNe (eV 5) (eV 1))) (tE (eB (mIn true) (eV 5) (eV 2)))) (eV 5)))
    (sRet (eIf (tE (eB mNe (eV 4) (eLst aNil))) (eK (.str "hit")) (eK (.str "sunk")))))
    sNil)
/-- the law's word, shot a list -/
theorem lword_run {p : List (List Int)} {c : Int} {shot : List Int} (hp : ∀ s ∈ p, s.length ≤ 1000) : F__law_word [.d (tT p), .d (.int c), .d (lI shot)] [] = some (.ok (.d (.str (wordM p c shot).s)), []) := by
  unfold F__law_word
  refine run_rt ?_
  show sSeq (sFor (iSeq (eV 0)) (tgN 3) lwB) (sRet (eK (.str "miss"))) [some (.d (tT p)), some (.d (.int c)), some (.d (lI shot)), none, none, none] [] = _
  rcases for_exit (enc := tI) (tg := tgN 3) (p := lwB)
    (fun pre sd own => own = [] ∧ (∃ s3 s4 s5, sd = [some (.d (tT p)), some (.d (.int c)), some (.d (lI shot)), s3, s4, s5]) ∧ ∀ s ∈ pre, c ∉ s)
    (fun pre s r => c ∈ s ∧ (∀ s ∈ pre, c ∉ s) ∧ r = .rt (.d (.str (if (s.filter fun x => !decide (x = c) && !decide (x ∈ shot)) = [] then Wd.sunk else Wd.hit).s)) [])
    p [some (.d (tT p)), some (.d (.int c)), some (.d (lI shot)), none, none, none] [] ⟨rfl, ⟨none, none, none, rfl⟩, fun s hs => by cases hs⟩ (fun pre s post sd own e ⟨h1, ⟨s3, s4, s5, h2⟩, h3⟩ => by
      subst h1 h2
      refine ⟨_, rfl, ?_⟩
      have cd : tE (eB (mIn false) (eV 1) (eV 3)) [some (.d (tT p)), some (.d (.int c)), some (.d (lI shot)), some (.d (tI s)), s4, s5] [] = some (.ok (decide (c ∈ s)), []) := by
        refine t_E (e_B rfl rfl ?_)
        rw [in_tI]
        simp
      unfold lwB
      by_cases h : c ∈ s
      · rw [decide_eq_true h] at cd
        right
        have hl : s.length ≤ 1000 := hp s (by rw [e]; simp)
        refine ⟨_, (st_IfT cd).trans ((st_Seq (st_Set (e_LCf (enc := D.int) (enc1 := D.int) (fun x => !decide (x = c) && !decide (x ∈ shot)) id (e_iSeqT rfl) (small (by omega)) fun x hx => ⟨_, rfl, ?_, fun _ => rfl⟩))).trans (st_Ret ?_)), rfl, h, h3, rfl⟩
        · refine t_AndB (t_E ?_) fun _ => t_E (e_B rfl rfl (by rw [in_lI]; simp))
          refine (show eB mNe _ _ _ _ = some (.ok (.d (.bl (!(x == c)))), []) from rfl).trans ?_
          rw [eqi]
        · rw [List.map_id]
          generalize s.filter (fun x => !decide (x = c) && !decide (x ∈ shot)) = fl
          have cd2 : tE (eB mNe (eV 4) (eLst aNil)) [some (.d (tT p)), some (.d (.int c)), some (.d (lI shot)), some (.d (tI s)), some (.d (.lst (fl.map D.int))), s5] [] = some (.ok (!decide (fl = [])), []) := t_E (e_B rfl rfl ne_nil)
          refine (e_If (x := .d (.str "hit")) (y := .d (.str "sunk")) cd2 (fun _ => rfl) (fun _ => rfl)).trans ?_
          by_cases hf : fl = []
          · rw [if_pos hf, decide_eq_true hf]; rfl
          · rw [if_neg hf, decide_eq_false hf]; rfl
      · rw [decide_eq_false h] at cd
        left
        refine ⟨_, _, .inl (st_IfSkip cd), rfl, ⟨_, s4, s5, rfl⟩, fun t ht => ?_⟩
        rcases List.mem_append.mp ht with ht | ht
        · exact h3 t ht
        · rw [List.mem_singleton.mp ht]; exact h) with ⟨sd2, own2, ef, rfl, ⟨s3, s4, s5, rfl⟩, h3⟩ | ⟨pre, s, post, r, e, ef, h1, h2, rfl⟩
  · refine (st_Seq (st_For (e_iSeqT rfl) ef)).trans ?_
    have : wordM p c shot = .miss := by
      unfold wordM
      rw [List.find?_eq_none.mpr fun s hs => by rw [decide_eq_false (h3 s hs)]; exact Bool.false_ne_true]
    rw [this]
    rfl
  · rw [s_sSeq, st_For (e_iSeqT rfl) ef]
    have : wordM p c shot = if (s.filter fun x => !decide (x = c) && !decide (x ∈ shot)) = [] then Wd.sunk else Wd.hit := by
      unfold wordM
      have hf : p.find? (fun s => decide (c ∈ s)) = some s := by
        rw [e, List.find?_append, List.find?_eq_none.mpr fun s hs => by rw [decide_eq_false (h2 s hs)]; exact Bool.false_ne_true, List.find?_cons_of_pos (p := fun s => decide (c ∈ s)) (decide_eq_true h1)]
        rfl
      rw [hf]
    rw [this]
theorem c_lword {p : List (List Int)} {c : Int} {shot : List Int} (hp : ∀ s ∈ p, s.length ≤ 1000) (sd : Sl) (own : Own) : callD 3 F__law_word [.d (tT p), .d (.int c), .d (lI shot)] sd own = some (.ok (.d (.str (wordM p c shot).s)), own) := cD (ds := [tT p, .int c, lI shot]) rfl rfl (lword_run hp) sd own
/-! ## longest -/
abbrev Pl := List (List Int)
def longStep (l : List Int) (acc : Option (Nat × Pl)) (p : Pl) : Option (Nat × Pl) := match acc with
  | none => some (missesM p l, p)
  | some (k, q) => if k < missesM p l then some (missesM p l, p) else some (k, q)
def longM (l : List Int) (ps : List Pl) : Option (Nat × Pl) := ps.foldl (longStep l) none
def encL : Option (Nat × Pl) → D
  | none => .non
  | some (k, p) => .tup [.int k, tT p]
def lgB : SM := (sSeq (sSet 5 (eCallD 2 F_misses_of (aCons (eV 4) (aCons (eV 2) aNil))))
    (sIf (tOr (tE (eB mIsN (eV 3) (eK .non))) (tE (eB mGt (eV 5) (eB mIx (eV 3) (eK (.int 0))))))
    (sSet 3 (eTup (aCons (eV 5) (aCons (eV 4) aNil))))
    sNil))
theorem placesM_mem {d : Fd} {n : Nat} {shot : List Int} {p : Pl} (h : p ∈ placesM d n shot) : p.length ≤ 2 ∧ ∀ s ∈ p, s ∈ spansM d.ring n d.a ∨ ∃ b, d.b = some b ∧ s ∈ spansM d.ring n b := by
  unfold placesM at h
  cases hb : d.b with
  | none =>
    rw [hb] at h
    obtain ⟨c, hc, rfl⟩ := List.mem_map.mp h
    refine ⟨by simp, fun s hs => .inl ?_⟩
    rw [List.mem_singleton.mp hs]
    exact (List.mem_filter.mp hc).1
  | some b =>
    rw [hb] at h
    obtain ⟨one, h1, h⟩ := List.mem_flatMap.mp h
    obtain ⟨two, h2, rfl⟩ := List.mem_map.mp h
    refine ⟨by simp, fun s hs => ?_⟩
    rcases List.mem_cons.mp hs with rfl | hs
    · exact .inl (List.mem_filter.mp h1).1
    · rw [List.mem_singleton.mp hs]
      exact .inr ⟨b, rfl, (List.mem_filter.mp (List.mem_filter.mp (List.mem_filter.mp h2).1).1).1⟩
theorem places_cells {d : Fd} {n : Nat} {shot : List Int} {p : Pl} (hd : d.ok) (h : p ∈ placesM d n shot) : ∀ s ∈ p, s.length ≤ 4 ∧ s ≠ [] ∧ ∀ x ∈ s, 0 ≤ x ∧ x < n := by
  intro s hs
  obtain ⟨h1, h4, hb⟩ := hd
  rcases (placesM_mem h).2 s hs with h | ⟨b, hb0, h⟩
  · have e := spansM_mem h
    exact ⟨by omega, fun z => by rw [z] at e; simp at e; omega, spansM_in h h1⟩
  · obtain ⟨h5, h6⟩ := hb b hb0
    have e := spansM_mem h
    exact ⟨by omega, fun z => by rw [z] at e; simp at e; omega, spansM_in h (by omega)⟩
end Mx
end T_Mx8
section T_Pg2
set_option Elab.async false
set_option linter.all false
set_option maxRecDepth 100000
set_option maxHeartbeats 8000000
set_option pp.maxSteps 300
namespace Pg
open PySem Gx
def F_word_at : FM := runDef 5
  ((sSeq (sFor (iSeq (eV 0)) (tgN 3) (sIf (tE (eB (mIn false) (eV 1) (eV 3)))
    (sRet (eIf (tE (eCB (m1 mAll) (aCons (eLC (iSeq (eV 3)) [4] (tgN 4) tTrue (eOr (eB mEq (eV 4) (eV 1)) (eB (mIn false) (eV 4) (eV 2)))) aNil))) (eK (.str "sunk")) (eK (.str "hit"))))
    sNil))
    (sRet (eK (.str "miss")))))
def F_fits : FM := runDef 5
  ((sSeq (sSet 2 eDicH)
    (sSeq (sFor (iSeq (eV 1)) (tgU [3, 4]) (sSeq (sIf (tE (eB mNe (eCallV 3 F_word_at (aCons (eV 0) (aCons (eV 3) (aCons (eV 2) aNil)))) (eV 4)))
    (sRet (eK (.bl false)))
    sNil)
    (sPutD (eV 2) (eV 3) (eK (.bl true)))))
    (sRet (eK (.bl true))))))
def F_check_seen : FM := runDef 5
  ((sSeq (sSet 2 eDicH)
    (sFor (iEnum (eV 1)) (tgU [3, 4]) (sSeq (sIf (tOr (tNot (tE (eCB (m2 mIsi) (aCons (eV 4) (aCons (eK (.ty 3)) aNil))))) (tOr (tE (eB mNe (eCB (m1 mLen) (aCons (eV 4) aNil)) (eK (.int 2)))) (tNot (tE (eCallD 3 F_is_from (aCons (eB mIx (eV 4) (eK (.int 0))) (aCons (eK (.int 0)) (aCons (eB mSub (eV 0) (eK (.int 1))) aNil))))))))
    (sRaise 15 (aCons (eV 3) aNil))
    sNil)
    (sSeq (sIf (tOr (tNot (tE (eCallD 2 F_is_one_of (aCons (eB mIx (eV 4) (eK (.int 1))) (aCons (eK (.tup [.str "miss", .str "hit", .str "sunk"])) aNil))))) (tE (eB (mIn false) (eB mIx (eV 4) (eK (.int 0))) (eV 2))))
    (sRaise 15 (aCons (eV 3) aNil))
    sNil)
    (sPutD (eV 2) (eB mIx (eV 4) (eK (.int 0))) (eK (.bl true))))))))
def F_all_left : FM := runDef 4
  ((sRet (eLC (iSeq (eCallD 3 F_all_places (aCons (eV 0) (aCons (eV 1) (aCons eDic0 aNil))))) [3] (tgN 3) (tE (eCallD 2 F_fits (aCons (eV 3) (aCons (eV 2) aNil)))) (eV 3))))
def F_left : FM := runDef 3
  ((sSeq (sExpr (eCallD 2 F_check_number (aCons (eV 1) (aCons (eK (.int 40)) aNil))))
    (sSeq (sExpr (eCallD 2 F_check_seen (aCons (eV 1) (aCons (eV 2) aNil))))
    (sRet (eCallD 3 F_all_left (aCons (eV 0) (aCons (eV 1) (aCons (eV 2) aNil))))))))
def F_shot_in : FM := runDef 3
  ((sRet (eDC (iSeq (eV 0)) [1, 2] (tgU [1, 2]) tTrue (eV 1) (eK (.bl true)))))
def F_surely : FM := runDef 12
  ((sSeq (sExpr (eCallD 2 F_check_number (aCons (eV 1) (aCons (eK (.int 40)) aNil))))
    (sSeq (sExpr (eCallD 2 F_check_seen (aCons (eV 1) (aCons (eV 2) aNil))))
    (sSeq (sPar [3, 4] (aCons (eCallD 3 F_all_left (aCons (eV 0) (aCons (eV 1) (aCons (eV 2) aNil)))) (aCons (eCallD 1 F_shot_in (aCons (eV 2) aNil)) aNil)))
    (sSeq (sIf (tE (eB mEq (eV 3) (eLst aNil)))
    (sRet (eK .non))
    sNil)
    (sSeq (sSet 5 (eDCH (iRg1 (aCons (eV 1) aNil)) [7] (tgN 7) (tE (eB (mIn true) (eV 7) (eV 4))) (eV 7) (eK (.int 0))))
    (sSeq (sFor (iSeq (eV 3)) (tgN 6) (sFor (iSeq (eLC2 (iSeq (eV 6)) [9, 10] (tgN 9) tTrue (iSeq (eV 9)) [10] (tgN 10) (tE (eB (mIn false) (eV 10) (eV 5))) (eV 10))) (tgN 7) (sAugD (fun i j => i + j) (eV 5) (eV 7) (eK (.int 1)))))
    (sFrzD 5 (sSeq (sSet 8 (eCB (m1 mTupC) (aCons (eLC (iItm (eV 5)) [7, 11] (tgU [7, 11]) (tE (eB mEq (eV 11) (eCB (m1 mLen) (aCons (eV 3) aNil)))) (eV 7)) aNil)))
    (sRet (eTup (aCons (eV 8) (aCons (eCB (m1 mTupC) (aCons (eLC (iItm (eV 5)) [7, 11] (tgU [7, 11]) (tE (eB mEq (eV 11) (eK (.int 0)))) (eV 7)) aNil)) aNil)))))))))))))
def F_parted : FM := runDef 5
  ((sSeq (sSet 3 eDicH)
    (sSeq (sFor (iSeq (eV 0)) (tgN 4) (sExpr (eMut mmApp (eSetd (eV 3) (eCallD 3 F_word_at (aCons (eV 4) (aCons (eV 1) (aCons (eV 2) aNil)))) (eLstH aNil)) (aCons (eV 4) aNil))))
    (sFrzD 3 (sRet (eV 3))))))
def F_telling : FM := runDef 8
  ((sSeq (sExpr (eCallD 2 F_check_number (aCons (eV 1) (aCons (eK (.int 40)) aNil))))
    (sSeq (sExpr (eCallD 2 F_check_seen (aCons (eV 1) (aCons (eV 2) aNil))))
    (sSeq (sPar [3, 4] (aCons (eCallD 3 F_all_left (aCons (eV 0) (aCons (eV 1) (aCons (eV 2) aNil)))) (aCons (eCallD 1 F_shot_in (aCons (eV 2) aNil)) aNil)))
    (sSeq (sSet 5 (eLC (iRg1 (aCons (eV 1) aNil)) [6] (tgN 6) (tE (eB (mIn true) (eV 6) (eV 4))) (eV 6)))
    (sSeq (sIf (tOr (tE (eB mEq (eV 3) (eLst aNil))) (tE (eB mEq (eV 5) (eLst aNil))))
    (sRet (eK .non))
    sNil)
    (sRet (eB mIx (eCB (m1 (mMinT (.P .I .I))) (aCons (eLC (iSeq (eV 5)) [6] (tgN 6) tTrue (eTup (aCons (eCB (m1 mMaxL) (aCons (eLC (iVal (eCallD 3 F_parted (aCons (eV 3) (aCons (eV 6) (aCons (eV 4) aNil))))) [7] (tgN 7) tTrue (eCB (m1 mLen) (aCons (eV 7) aNil))) aNil)) (aCons (eV 6) aNil)))) aNil)) (eK (.int 1))))))))))
def F__law_fits : FM := runDef 5
  ((sSeq (sSet 2 (eLstH aNil))
    (sSeq (sFor (iSeq (eV 1)) (tgU [3, 4]) (sSeq (sIf (tE (eB mNe (eCallV 3 F__law_word (aCons (eV 0) (aCons (eV 3) (aCons (eV 2) aNil)))) (eV 4)))
    (sRet (eK (.bl false)))
    sNil)
    (sExpr (eMut mmApp (eV 2) (aCons (eV 3) aNil)))))
    (sRet (eK (.bl true))))))
end Pg
end T_Pg2
section T_Mx9
set_option Elab.async false
set_option linter.all false
set_option maxRecDepth 100000
set_option maxHeartbeats 4000000
namespace Mx
open PySem Gx Pg
theorem word_all {p : Pl} {c : Int} {shot s : List Int} (hf : p.find? (fun s => decide (c ∈ s)) = some s) : wordM p c shot = if (s.all fun x => decide (x = c) || decide (x ∈ shot)) = true then .sunk else .hit := by
  unfold wordM
  rw [hf]
  simp only
  have : ((s.filter fun x => !decide (x = c) && !decide (x ∈ shot)) = []) ↔ (s.all fun x => decide (x = c) || decide (x ∈ shot)) = true := by
    rw [List.filter_eq_nil_iff, List.all_eq_true]
    constructor
    · intro h x hx
      have := h x hx
      cases h1 : decide (x = c) <;> cases h2 : decide (x ∈ shot) <;> simp_all
    · intro h x hx
      have := h x hx
      cases h1 : decide (x = c) <;> cases h2 : decide (x ∈ shot) <;> simp_all
  by_cases h : (s.all fun x => decide (x = c) || decide (x ∈ shot)) = true
  · rw [if_pos h, if_pos (this.mpr h)]
  · rw [if_neg h, if_neg (fun z => h (this.mp z))]
def waB : SM := (sIf (tE (eB (mIn false) (eV 1) (eV 3)))
    (sRet (eIf (tE (eCB (m1 mAll) (aCons (eLC (iSeq (eV 3)) [4] (tgN 4) tTrue (eOr (eB mEq (eV 4) (eV 1)) (eB (mIn false) (eV 4) (eV 2)))) aNil))) (eK (.str "sunk")) (eK (.str "hit"))))
    sNil)
theorem word_run {p : List (List Int)} {c : Int} {shot : List Int} {vs : List D} (hp : ∀ s ∈ p, s.length ≤ 1000) (hv : vs.length = shot.length) : F_word_at [.d (tT p), .d (.int c), .d (.dic (shot.map D.int) vs)] [] = some (.ok (.d (.str (wordM p c shot).s)), []) := by
  unfold F_word_at
  refine run_rt ?_
  show sSeq (sFor (iSeq (eV 0)) (tgN 3) waB) (sRet (eK (.str "miss"))) [some (.d (tT p)), some (.d (.int c)), some (.d (.dic (shot.map D.int) vs)), none, none] [] = _
  rcases for_exit (enc := tI) (tg := tgN 3) (p := waB)
    (fun pre sd own => own = [] ∧ (∃ s3 s4, sd = [some (.d (tT p)), some (.d (.int c)), some (.d (.dic (shot.map D.int) vs)), s3, s4]) ∧ ∀ s ∈ pre, c ∉ s)
    (fun pre s r => c ∈ s ∧ (∀ s ∈ pre, c ∉ s) ∧ r = .rt (.d (.str (if (s.all fun x => decide (x = c) || decide (x ∈ shot)) = true then Wd.sunk else Wd.hit).s)) [])
    p [some (.d (tT p)), some (.d (.int c)), some (.d (.dic (shot.map D.int) vs)), none, none] [] ⟨rfl, ⟨none, none, rfl⟩, fun s hs => by cases hs⟩ (fun pre s post sd own e ⟨h1, ⟨s3, s4, h2⟩, h3⟩ => by
      subst h1 h2
      refine ⟨_, rfl, ?_⟩
      have cd : tE (eB (mIn false) (eV 1) (eV 3)) [some (.d (tT p)), some (.d (.int c)), some (.d (.dic (shot.map D.int) vs)), some (.d (tI s)), s4] [] = some (.ok (decide (c ∈ s)), []) := by
        refine t_E (e_B rfl rfl ?_)
        rw [in_tI]
        simp
      unfold waB
      by_cases h : c ∈ s
      · rw [decide_eq_true h] at cd
        right
        have hl : s.length ≤ 1000 := hp s (by rw [e]; simp)
        have cd2 : tE (eCB (m1 mAll) (aCons (eLC (iSeq (eV 3)) [4] (tgN 4) tTrue (eOr (eB mEq (eV 4) (eV 1)) (eB (mIn false) (eV 4) (eV 2)))) aNil)) [some (.d (tT p)), some (.d (.int c)), some (.d (.dic (shot.map D.int) vs)), some (.d (tI s)), s4] [] = some (.ok (s.all fun x => decide (x = c) || decide (x ∈ shot)), []) := by
          refine t_E (e_C1 (e_LC0 (enc := D.int) (fun x => D.bl (decide (x = c) || decide (x ∈ shot))) (e_iSeqT rfl) (small (by omega)) fun x hx => ⟨_, rfl, ?_⟩) (all_bl _ _))
          refine e_Or ?_ fun _ => e_B rfl rfl ?_
          · refine (show eB mEq _ _ _ _ = some (.ok (.d (.bl (x == c))), []) from rfl).trans ?_
            rw [eqi]
          · rw [in_dI hv]
            simp
        refine ⟨_, (st_IfT cd).trans (st_Ret (e_If (x := .d (.str "sunk")) (y := .d (.str "hit")) cd2 (fun _ => rfl) (fun _ => rfl))), rfl, h, h3, ?_⟩
        by_cases hf : (s.all fun x => decide (x = c) || decide (x ∈ shot)) = true
        · rw [if_pos hf, if_pos hf]; rfl
        · rw [if_neg hf, if_neg hf]; rfl
      · rw [decide_eq_false h] at cd
        left
        refine ⟨_, _, .inl (st_IfSkip cd), rfl, ⟨_, s4, rfl⟩, fun t ht => ?_⟩
        rcases List.mem_append.mp ht with ht | ht
        · exact h3 t ht
        · rw [List.mem_singleton.mp ht]; exact h) with ⟨sd2, own2, ef, rfl, ⟨s3, s4, rfl⟩, h3⟩ | ⟨pre, s, post, r, e, ef, h1, h2, rfl⟩
  · refine (st_Seq (st_For (e_iSeqT rfl) ef)).trans ?_
    have : wordM p c shot = .miss := by
      unfold wordM
      rw [List.find?_eq_none.mpr fun s hs => by rw [decide_eq_false (h3 s hs)]; exact Bool.false_ne_true]
    rw [this]
    rfl
  · rw [s_sSeq, st_For (e_iSeqT rfl) ef]
    rw [word_all (s := s) (by
      rw [e, List.find?_append, List.find?_eq_none.mpr fun s hs => by rw [decide_eq_false (h2 s hs)]; exact Bool.false_ne_true, List.find?_cons_of_pos (p := fun s => decide (c ∈ s)) (decide_eq_true h1)]
      rfl)]
theorem c_word {p : List (List Int)} {c : Int} {shot : List Int} {vs : List D} (hp : ∀ s ∈ p, s.length ≤ 1000) (hv : vs.length = shot.length) (sd : Sl) (own : Own) : callD 3 F_word_at [.d (tT p), .d (.int c), .d (.dic (shot.map D.int) vs)] sd own = some (.ok (.d (.str (wordM p c shot).s)), own) := cD (ds := [tT p, .int c, .dic (shot.map D.int) vs]) rfl rfl (word_run hp hv) sd own
/-! ## answers -/
abbrev An := Int × Wd
def encA (a : An) : D := .tup [.int a.1, .str a.2.s]
def fitsM (p : Pl) : List Int → List An → Bool
  | _, [] => true
  | shot, (c, w) :: r => decide (wordM p c shot = w) && fitsM p (shot ++ [c]) r
def fiB : SM := (sSeq (sIf (tE (eB mNe (eCallV 3 F_word_at (aCons (eV 0) (aCons (eV 3) (aCons (eV 2) aNil)))) (eV 4)))
    (sRet (eK (.bl false)))
    sNil)
    (sPutD (eV 2) (eV 3) (eK (.bl true))))
/-! ### the law's fits -/
def lfB : SM := (sSeq (sIf (tE (eB mNe (eCallV 3 F__law_word (aCons (eV 0) (aCons (eV 3) (aCons (eV 2) aNil)))) (eV 4)))
    (sRet (eK (.bl false)))
    sNil)
    (sExpr (eMut mmApp (eV 2) (aCons (eV 3) aNil))))
end Mx
end T_Mx9
section T_Mx10
set_option Elab.async false
set_option linter.all false
set_option maxRecDepth 100000
set_option maxHeartbeats 4000000
namespace Mx
open PySem Gx Pg
/-! ## check_seen -/
def csC1 : TM := (tOr (tNot (tE (eCB (m2 mIsi) (aCons (eV 4) (aCons (eK (.ty 3)) aNil))))) (tOr (tE (eB mNe (eCB (m1 mLen) (aCons (eV 4) aNil)) (eK (.int 2)))) (tNot (tE (eCallD 3 F_is_from (aCons (eB mIx (eV 4) (eK (.int 0))) (aCons (eK (.int 0)) (aCons (eB mSub (eV 0) (eK (.int 1))) aNil))))))))
def csC2 : TM := (tOr (tNot (tE (eCallD 2 F_is_one_of (aCons (eB mIx (eV 4) (eK (.int 1))) (aCons (eK (.tup [.str "miss", .str "hit", .str "sunk"])) aNil))))) (tE (eB (mIn false) (eB mIx (eV 4) (eK (.int 0))) (eV 2))))
def csB : SM := (sSeq (sIf csC1
    (sRaise 15 (aCons (eV 3) aNil))
    sNil)
    (sSeq (sIf csC2
    (sRaise 15 (aCons (eV 3) aNil))
    sNil)
    (sPutD (eV 2) (eB mIx (eV 4) (eK (.int 0))) (eK (.bl true)))))
abbrev wds : D := .tup [.str "miss", .str "hit", .str "sunk"]
abbrev csS (n : Nat) (q : D) (i : Int) (x : D) : Sl := [some (.d (.int n)), some (.d q), some (.h 0), some (.d (.int i)), some (.d x)]
def noTup : D → Bool
  | .non => true
  | .int _ => true
  | .lst _ => true
  | _ => false
/-- odd things -/
inductive BadS (n : Nat) (l : List Int) : D → Prop
  | notT (d : D) (h : noTup d = true) : BadS n l d
  | one (k : D) : BadS n l (.tup [k])
  | three (k y z : D) : BadS n l (.tup [k, y, z])
  | key (k y : D) (h : badAt n [] k) : BadS n l (.tup [k, y])
  | word (c : Int) (y : D) (h : F_is_one_of [.d y, .d wds] [] = some (.ok (.d (.bl false)), [])) : BadS n l (.tup [.int c, y])
  | twice (c : Int) (w : Wd) (h : c ∈ l) : BadS n l (encA (c, w))
/-! ## left -/
def leftM (d : Fd) (n : Nat) (seen : List An) : List Pl := (placesM d n []).filter (fitsM · [] seen)
theorem pl_len {d : Fd} {n : Nat} (hd : d.ok) {p : Pl} (h : p ∈ placesM d n []) : ∀ s ∈ p, s.length ≤ 1000 := fun s hs => by
  have := (places_cells hd h s hs).1
  omega
def trues (n : Nat) : List D := List.replicate n (.bl true)
end Mx
end T_Mx10
section T_Mx11
set_option Elab.async false
set_option linter.all false
set_option maxRecDepth 100000
set_option maxHeartbeats 4000000
namespace Mx
open PySem Gx Pg
def cnt (ps : List Pl) (c : Int) : Nat := (ps.filter fun p => hitM p c).length
/-! ## counts -/
def rn (n : Nat) : List Int := (List.range n).map fun i : Nat => (0 : Int) + (i : Int)
def fcells (n : Nat) (sh : List Int) : List Int := (rn n).filter fun c => !decide (c ∈ sh)
theorem rn_nodup (n : Nat) : (rn n).Nodup := by
  refine List.Pairwise.map _ (fun a b h => ?_) List.nodup_range
  omega
theorem rn_len (n : Nat) : (rn n).length = n := by simp [rn]
theorem e_iRn {f : EM} {sd : Sl} {own : Own} {n : Nat} (h : f sd own = some (.ok (.d (.int n)), own)) (hn : n ≤ 1000) : iRg1 (aCons f aNil) sd own = some (.ok ((rn n).map D.int), own) := by
  have := e_iRg1 h (by omega) (Int.lt_of_lt_of_le (show (n : Int) < 1001 by omega) (by decide))
  rw [this]
  unfold rn
  rw [List.map_map]
  rfl
def suS (d : Fd) (n : Nat) (q some_ sh : D) (s6 s7 s8 s9 s10 s11 : Option SV) : Sl := [some (.d d.obj), some (.d (.int n)), some (.d q), some (.d some_), some (.d sh), some (.h 0), s6, s7, s8, s9, s10, s11]
def augB : SM := sAugD (fun i j => i + j) (eV 5) (eV 7) (eK (.int 1))
def plB2 : SM := (sFor (iSeq (eLC2 (iSeq (eV 6)) [9, 10] (tgN 9) tTrue (iSeq (eV 9)) [10] (tgN 10) (tE (eB (mIn false) (eV 10) (eV 5))) (eV 10))) (tgN 7) augB)
/-- what surely tells -/
def sureM (so : List Pl) (fc : List Int) : D := .tup [tI (fc.filter fun c => decide (cnt so c = so.length)), tI (fc.filter fun c => decide (cnt so c = 0))]
theorem fc_len {n : Nat} {sh : List Int} : (fcells n sh).length ≤ n := by
  have := List.length_filter_le (fun c => !decide (c ∈ sh)) (rn n)
  rw [rn_len] at this
  exact this
end Mx
end T_Mx11
section T_Mx12
set_option Elab.async false
set_option linter.all false
set_option maxRecDepth 100000
set_option maxHeartbeats 4000000
namespace Mx
open PySem Gx Pg
theorem flat_len {d : Fd} {n : Nat} {p : Pl} (hd : d.ok) (h : p ∈ placesM d n []) : p.flatten.length ≤ 1000 := by
  have h2 := (placesM_mem h).1
  have : ∀ (q : Pl), (∀ s ∈ q, s.length ≤ 4) → q.flatten.length ≤ q.length * 4 := by
    intro q
    induction q with
    | nil => intro _; simp
    | cons s q ih =>
      intro hq
      have a := hq s List.mem_cons_self
      have b := ih fun t ht => hq t (List.mem_cons_of_mem _ ht)
      simp only [List.flatten_cons, List.length_append, List.length_cons]
      omega
  have := this p fun s hs => (places_cells hd h s hs).1
  omega
def suF : SM := (sFrzD 5 (sSeq (sSet 8 (eCB (m1 mTupC) (aCons (eLC (iItm (eV 5)) [7, 11] (tgU [7, 11]) (tE (eB mEq (eV 11) (eCB (m1 mLen) (aCons (eV 3) aNil)))) (eV 7)) aNil)))
    (sRet (eTup (aCons (eV 8) (aCons (eCB (m1 mTupC) (aCons (eLC (iItm (eV 5)) [7, 11] (tgU [7, 11]) (tE (eB mEq (eV 11) (eK (.int 0)))) (eV 7)) aNil)) aNil))))))
theorem mIn_dicI {own : Own} {c : Int} {l : List Int} {k : Nat} (h : k = l.length) : mIn true own (.d (.int c)) (.d (.dic (l.map D.int) (trues k))) = some (.bl (!decide (c ∈ l))) := by
  rw [in_dI (by rw [h]; simp [trues])]
  cases decide (c ∈ l) <;> rfl
end Mx
end T_Mx12
section T_Mx13
set_option Elab.async false
set_option linter.all false
set_option maxRecDepth 100000
set_option maxHeartbeats 4000000
namespace Mx
open PySem Gx Pg
/-! ## parted -/
abbrev Gp := Wd × Nat × List Pl
theorem wd_inj {a b : Wd} : a.s = b.s ↔ a = b := by
  cases a <;> cases b <;> first | exact ⟨fun _ => rfl, fun _ => rfl⟩ | exact ⟨fun h => absurd h (by decide +kernel), fun h => by cases h⟩
def gKs (gs : List Gp) : List D := gs.map fun g => .str g.1.s
def gHs (gs : List Gp) : List SV := gs.map fun g => .h g.2.1
def gsObj (gs : List Gp) : O := match gs with
  | [] => .dic [] []
  | g :: r => .dih (gKs (g :: r)) (gHs (g :: r))
theorem gsObj_ne {gs : List Gp} (h : gs ≠ []) : gsObj gs = .dih (gKs gs) (gHs gs) := by
  cases gs with
  | nil => exact absurd rfl h
  | cons => rfl
theorem dih_gs {own : Own} {gs : List Gp} (h : own[0]? = some (gsObj gs)) : dihV own 0 = some (gKs gs, gHs gs) := by
  unfold dihV
  rw [h]
  cases gs <;> rfl
theorem getKS_gs {w : Wd} : ∀ gs : List Gp, getKS (.inr w.s) (gKs gs) (gHs gs) = (gs.find? fun g => decide (g.1 = w)).map fun g => SV.h g.2.1
  | [] => rfl
  | g :: gs => by
    show (if keyOf (.str g.1.s) = some (.inr w.s) then some (SV.h g.2.1) else getKS (.inr w.s) (gKs gs) (gHs gs)) = _
    by_cases e : g.1 = w
    · rw [if_pos (by rw [e]; rfl), List.find?_cons_of_pos (p := fun g : Gp => decide (g.1 = w)) (decide_eq_true e)]
      rfl
    · have h2 : ¬ keyOf (.str g.1.s) = some (Sum.inr w.s) := fun z => e (wd_inj.mp (Sum.inr.inj (Option.some.inj z)))
      rw [if_neg h2, List.find?_cons_of_neg (p := fun g : Gp => decide (g.1 = w)) (by simpa using e)]
      exact getKS_gs gs
structure PInv (c : Int) (sh : List Int) (pre : List Pl) (gs : List Gp) (own : Own) : Prop where
  o0 : own[0]? = some (gsObj gs)
  ob : ∀ g ∈ gs, own[g.2.1]? = some (.lst (g.2.2.map tT)) ∧ g.2.1 ≠ 0
  nd : (gs.map (·.2.1)).Nodup
  kd : (gs.map (·.1)).Nodup
  con : ∀ g ∈ gs, g.2.2 = pre.filter fun p => decide (wordM p c sh = g.1)
  mem : ∀ g ∈ gs, ∃ p ∈ pre, wordM p c sh = g.1
  all : ∀ p ∈ pre, ∃ g ∈ gs, g.1 = wordM p c sh
theorem nd_eq {α β : Type} {f : α → β} : ∀ {l : List α}, (l.map f).Nodup → ∀ a ∈ l, ∀ b ∈ l, f a = f b → a = b
  | [], _, a, h, _, _, _ => by cases h
  | x :: l, hn, a, ha, b, hb, e => by
    obtain ⟨h1, h2⟩ := List.nodup_cons.mp hn
    rcases List.mem_cons.mp ha with ha2 | ha2
    · rcases List.mem_cons.mp hb with hb2 | hb2
      · rw [ha2, hb2]
      · exact (h1 (List.mem_map.mpr ⟨b, hb2, by rw [← e, ha2]⟩)).elim
    · rcases List.mem_cons.mp hb with hb2 | hb2
      · exact (h1 (List.mem_map.mpr ⟨a, ha2, by rw [e, hb2]⟩)).elim
      · exact nd_eq h2 a ha2 b hb2 e
theorem e_Mut2 {mm : MM} {f g : EM} {sd : Sl} {own o1 o2 : Own} {k : Nat} {xs zs xs' : List D} {y : SV} {z : D} (hf : f sd own = some (.ok (.h k), o1)) (hk0 : o1[k]? = some (.lst zs)) (hg : g sd o1 = some (.ok y, o2)) (hk : o2[k]? = some (.lst xs)) (hm : mm o2 xs [y] = some (z, xs')) :
    eMut mm f (aCons g aNil) sd own = some (.ok (.d z), o2.set k (.lst xs')) := by
  have h1 : lstV o1 (.h k) = some zs := by
    show (match o1[k]? with | some (.lst xs) => some xs | _ => none) = _
    rw [hk0]
  rw [s_eMut, s_bind_ok hf]
  have e : (M.ask fun own => lstV own (.h k)) sd o1 = some (.ok zs, o1) := by rw [s_ask, h1]
  rw [s_bind_ok e, s_bind_ok (a_1 hg)]
  simp only [hk]
  rw [hm]
def paS (c : Int) (so sh : D) (s4 : Option SV) : Sl := [some (.d so), some (.d (.int c)), some (.d sh), some (.h 0), s4]
def paE : EM := (eSetd (eV 3) (eCallD 3 F_word_at (aCons (eV 4) (aCons (eV 1) (aCons (eV 2) aNil)))) (eLstH aNil))
def paB : SM := (sExpr (eMut mmApp paE (aCons (eV 4) aNil)))
theorem lstH0 {sd : Sl} {own : Own} : eLstH aNil sd own = some (.ok (.h own.length), own ++ [.lst []]) := by
  unfold eLstH
  rw [s_bind_ok (x := []) (o1 := own) rfl]
  rfl
def paRes (own : Own) (gs : List Gp) (w : Wd) : Option Gp → SV × Own
  | some g => (.h g.2.1, own ++ [.lst []])
  | none => (.h own.length, (own ++ [O.lst []]).set 0 (O.dih (gKs gs ++ [D.str w.s]) (gHs gs ++ [SV.h own.length])))
theorem pa_setd {c : Int} {so : D} {sh : List Int} {k : Nat} {p : Pl} {gs : List Gp} {own : Own} (hk : k = sh.length) (hp : ∀ s ∈ p, s.length ≤ 1000) (h0 : own[0]? = some (gsObj gs)) (hl : gs.length ≤ 1000) :
    paE (paS c so (.dic (sh.map D.int) (trues k)) (some (.d (tT p)))) own = some (.ok (paRes own gs (wordM p c sh) (gs.find? fun g => decide (g.1 = wordM p c sh))).1, (paRes own gs (wordM p c sh) (gs.find? fun g => decide (g.1 = wordM p c sh))).2) := by
  have h0' : (own ++ [O.lst []])[0]? = some (gsObj gs) := by
    have hlt : 0 < own.length := (List.getElem?_eq_some_iff.mp h0).1
    rw [List.getElem?_append_left hlt]; exact h0
  have cw : eCallD 3 F_word_at (aCons (eV 4) (aCons (eV 1) (aCons (eV 2) aNil))) (paS c so (.dic (sh.map D.int) (trues k)) (some (.d (tT p)))) own = some (.ok (.d (.str (wordM p c sh).s)), own) := e_CallD rfl (c_word hp (by rw [hk]; simp [trues]))
  unfold paE eSetd
  have f1 : eV 3 (paS c so (.dic (sh.map D.int) (trues k)) (some (.d (tT p)))) own = some (.ok (.h 0), own) := rfl
  rw [s_bind_ok f1]
  have e1 : (M.ask fun own => dihS own (.h 0)) (paS c so (.dic (sh.map D.int) (trues k)) (some (.d (tT p)))) own = some (.ok (gKs gs, gHs gs), own) := by
    have h2 : dihS own (.h 0) = some (gKs gs, gHs gs) := dih_gs h0
    rw [s_ask, h2]
  rw [s_bind_ok e1, s_bind_ok cw, s_bind_ok lstH0]
  show (setdV (own ++ [O.lst []]) 0 (.str (wordM p c sh).s) (.h own.length)).map (fun p => (Rz.ok p.1, p.2)) = _
  unfold setdV
  rw [dih_gs h0', Option.bind_some]
  show ((some (Sum.inr (wordM p c sh).s : L2.Key)).bind _).map _ = _
  rw [Option.bind_some]
  have hz : (gKs gs).length < sizeLine := by unfold gKs; rw [List.length_map]; exact small (by omega)
  simp only [if_pos hz, getKS_gs]
  cases gs.find? fun g => decide (g.1 = wordM p c sh) with
  | some g => rfl
  | none => rfl
theorem mmApp_eq {own : Own} {xs : List D} {y : D} (h : xs.length ≤ 100000) : mmApp own xs [.d y] = some (.non, xs ++ [y]) := by
  show (if xs.length < sizeLine then some (D.non, xs ++ [y]) else none) = _
  rw [if_pos (small h)]
theorem pa_step {c : Int} {so : D} {sh : List Int} {k : Nat} {p : Pl} {pre : List Pl} {gs : List Gp} {own : Own} (hk : k = sh.length) (hp : ∀ s ∈ p, s.length ≤ 1000) (I : PInv c sh pre gs own) (hl : pre.length ≤ 100000) (hgl : gs.length ≤ 1000) :
    ∃ gs' own', paB (paS c so (.dic (sh.map D.int) (trues k)) (some (.d (tT p)))) own = some (.nx (paS c so (.dic (sh.map D.int) (trues k)) (some (.d (tT p)))) own') ∧ PInv c sh (pre ++ [p]) gs' own' := by
  have e := pa_setd (c := c) (so := so) hk hp I.o0 hgl
  have hlt : 0 < own.length := (List.getElem?_eq_some_iff.mp I.o0).1
  cases hf : gs.find? fun g => decide (g.1 = wordM p c sh) with
  | some g0 =>
    rw [hf] at e
    simp only [paRes] at e
    have hm := List.mem_of_find?_eq_some hf
    have hw : g0.1 = wordM p c sh := of_decide_eq_true (p := g0.1 = wordM p c sh) (List.find?_some (p := fun g : Gp => decide (g.1 = wordM p c sh)) hf)
    obtain ⟨ho, hne⟩ := I.ob g0 hm
    have hj : g0.2.1 < own.length := (List.getElem?_eq_some_iff.mp ho).1
    have ho' : (own ++ [O.lst []])[g0.2.1]? = some (.lst (g0.2.2.map tT)) := by rw [List.getElem?_append_left hj]; exact ho
    have hcl : g0.2.2.length ≤ pre.length := by rw [I.con g0 hm]; exact List.length_filter_le _ _
    have e2 := e_Mut2 (mm := mmApp) (g := eV 4) (y := .d (tT p)) e ho' rfl ho' (mmApp_eq (by rw [List.length_map]; omega))
    refine ⟨gs.map fun g => if g.1 = wordM p c sh then (g.1, g.2.1, g.2.2 ++ [p]) else g, (own ++ [O.lst []]).set g0.2.1 (O.lst (g0.2.2.map tT ++ [tT p])), st_Expr e2, ?_⟩
    have k1 : ∀ l : List Gp, gKs (l.map fun g => if g.1 = wordM p c sh then (g.1, g.2.1, g.2.2 ++ [p]) else g) = gKs l := fun l => by
      unfold gKs
      rw [List.map_map]
      refine List.map_congr_left fun g _ => ?_
      show D.str (if g.1 = wordM p c sh then (g.1, g.2.1, g.2.2 ++ [p]) else g).1.s = _
      split <;> rfl
    have k2 : ∀ l : List Gp, gHs (l.map fun g => if g.1 = wordM p c sh then (g.1, g.2.1, g.2.2 ++ [p]) else g) = gHs l := fun l => by
      unfold gHs
      rw [List.map_map]
      refine List.map_congr_left fun g _ => ?_
      show SV.h (if g.1 = wordM p c sh then (g.1, g.2.1, g.2.2 ++ [p]) else g).2.1 = _
      split <;> rfl
    have hobj : gsObj (gs.map fun g => if g.1 = wordM p c sh then (g.1, g.2.1, g.2.2 ++ [p]) else g) = gsObj gs := by
      have a1 := k1 gs
      have a2 := k2 gs
      have hgs : gs ≠ [] := fun z => by rw [z] at hm; cases hm
      rw [gsObj_ne (by simpa using hgs), gsObj_ne hgs, a1, a2]
    refine ⟨?_, ?_, ?_, ?_, ?_, ?_, ?_⟩
    · rw [List.getElem?_set_ne hne, List.getElem?_append_left hlt, hobj]; exact I.o0
    · intro g' hg'
      obtain ⟨g, hg, rfl⟩ := List.mem_map.mp hg'
      obtain ⟨hgo, hgn⟩ := I.ob g hg
      have hgl' : g.2.1 < own.length := (List.getElem?_eq_some_iff.mp hgo).1
      by_cases c1 : g.1 = wordM p c sh
      · have : g = g0 := nd_eq I.kd g hg g0 hm (by rw [c1, hw])
        subst this
        rw [if_pos c1]
        refine ⟨?_, hgn⟩
        show ((own ++ [O.lst []]).set g.2.1 _)[g.2.1]? = _
        rw [List.getElem?_set_self (by simp; omega), List.map_append]
        rfl
      · rw [if_neg c1]
        refine ⟨?_, hgn⟩
        have hne2 : g0.2.1 ≠ g.2.1 := fun z => by
          have := nd_eq I.nd g0 hm g hg z
          rw [← this] at c1
          exact c1 hw
        rw [List.getElem?_set_ne hne2, List.getElem?_append_left hgl']
        exact hgo
    · have := k2 gs
      rw [List.map_map]
      have h2 : (gs.map ((fun g : Gp => g.2.1) ∘ fun g => if g.1 = wordM p c sh then (g.1, g.2.1, g.2.2 ++ [p]) else g)) = gs.map (·.2.1) := by
        refine List.map_congr_left fun g _ => ?_
        show (if g.1 = wordM p c sh then (g.1, g.2.1, g.2.2 ++ [p]) else g).2.1 = _
        split <;> rfl
      rw [h2]
      exact I.nd
    · rw [List.map_map]
      have h2 : (gs.map ((fun g : Gp => g.1) ∘ fun g => if g.1 = wordM p c sh then (g.1, g.2.1, g.2.2 ++ [p]) else g)) = gs.map (·.1) := by
        refine List.map_congr_left fun g _ => ?_
        show (if g.1 = wordM p c sh then (g.1, g.2.1, g.2.2 ++ [p]) else g).1 = _
        split <;> rfl
      rw [h2]
      exact I.kd
    · intro g' hg'
      obtain ⟨g, hg, rfl⟩ := List.mem_map.mp hg'
      by_cases c1 : g.1 = wordM p c sh
      · rw [if_pos c1, List.filter_append]
        show g.2.2 ++ [p] = _
        rw [I.con g hg, List.filter_cons_of_pos (by simpa using c1.symm)]
        rfl
      · rw [if_neg c1, List.filter_append, ← I.con g hg, List.filter_cons_of_neg (by simpa using fun z : wordM p c sh = g.1 => c1 z.symm)]
        simp
    · intro g' hg'
      obtain ⟨g, hg, rfl⟩ := List.mem_map.mp hg'
      obtain ⟨q, hq, e⟩ := I.mem g hg
      refine ⟨q, List.mem_append_left _ hq, ?_⟩
      split <;> exact e
    · intro q hq
      have key : ∀ w, (∃ g ∈ gs, g.1 = w) → ∃ g ∈ (gs.map fun g => if g.1 = wordM p c sh then (g.1, g.2.1, g.2.2 ++ [p]) else g), g.1 = w := by
        rintro w ⟨g, hg, e⟩
        refine ⟨_, List.mem_map.mpr ⟨g, hg, rfl⟩, ?_⟩
        split <;> exact e
      rcases List.mem_append.mp hq with hq | hq
      · exact key _ (I.all q hq)
      · rw [List.mem_singleton.mp hq]
        exact key _ ⟨g0, hm, hw⟩
  | none =>
    rw [hf] at e
    simp only [paRes] at e
    have hno : ∀ g ∈ gs, g.1 ≠ wordM p c sh := fun g hg z => by
      have := List.find?_eq_none.mp hf g hg
      simp [z] at this
    have hlen : (own ++ [O.lst []]).length = own.length + 1 := by simp
    have ho1 : ((own ++ [O.lst []]).set 0 (.dih (gKs gs ++ [.str (wordM p c sh).s]) (gHs gs ++ [.h own.length])))[own.length]? = some (.lst []) := by
      rw [List.getElem?_set_ne (by omega)]
      simp
    have e2 := e_Mut2 (mm := mmApp) (g := eV 4) (y := .d (tT p)) e ho1 rfl ho1 (mmApp_eq (by simp))
    refine ⟨gs ++ [(wordM p c sh, own.length, [p])], _, st_Expr e2, ?_⟩
    have hnl : ∀ g ∈ gs, g.2.1 < own.length := fun g hg => (List.getElem?_eq_some_iff.mp (I.ob g hg).1).1
    refine ⟨?_, ?_, ?_, ?_, ?_, ?_, ?_⟩
    · rw [List.getElem?_set_ne (by omega), List.getElem?_set_self (by simp)]
      cases gs with
      | nil => rfl
      | cons g r =>
        show _ = some (O.dih (gKs ((g :: r) ++ [_])) (gHs ((g :: r) ++ [_])))
        unfold gKs gHs
        rw [List.map_append, List.map_append]
        rfl
    · intro g hg
      rcases List.mem_append.mp hg with hg | hg
      · obtain ⟨a, b⟩ := I.ob g hg
        have := hnl g hg
        refine ⟨?_, b⟩
        rw [List.getElem?_set_ne (by omega), List.getElem?_set_ne (fun z => b z.symm), List.getElem?_append_left this]
        exact a
      · rw [List.mem_singleton.mp hg]
        refine ⟨?_, by show own.length ≠ 0; omega⟩
        show (List.set _ own.length _)[own.length]? = _
        rw [List.getElem?_set_self (by simp)]
        rfl
    · rw [List.map_append]
      refine List.nodup_append.mpr ⟨I.nd, by simp, fun a ha b hb z => ?_⟩
      obtain ⟨g, hg, rfl⟩ := List.mem_map.mp ha
      have hb : b = own.length := by simpa using hb
      have := hnl g hg
      omega
    · rw [List.map_append]
      refine List.nodup_append.mpr ⟨I.kd, by simp, fun a ha b hb z => ?_⟩
      obtain ⟨g, hg, rfl⟩ := List.mem_map.mp ha
      have hb : b = wordM p c sh := by simpa using hb
      exact hno g hg (z.trans hb)
    · intro g hg
      rcases List.mem_append.mp hg with hg | hg
      · rw [List.filter_append, ← I.con g hg, List.filter_cons_of_neg (by simpa using fun z : wordM p c sh = g.1 => hno g hg z.symm)]
        simp
      · rw [List.mem_singleton.mp hg, List.filter_append]
        have : pre.filter (fun q => decide (wordM q c sh = wordM p c sh)) = [] := by
          rw [List.filter_eq_nil_iff]
          intro q hq z
          obtain ⟨g, hg, e⟩ := I.all q hq
          exact hno g hg (e.trans (of_decide_eq_true z))
        show [p] = pre.filter (fun q => decide (wordM q c sh = wordM p c sh)) ++ _
        rw [this, List.filter_cons_of_pos (by simp)]
        rfl
    · intro g hg
      rcases List.mem_append.mp hg with hg | hg
      · obtain ⟨q, hq, e⟩ := I.mem g hg
        exact ⟨q, List.mem_append_left _ hq, e⟩
      · rw [List.mem_singleton.mp hg]
        exact ⟨p, by simp, rfl⟩
    · intro q hq
      rcases List.mem_append.mp hq with hq | hq
      · obtain ⟨g, hg, e⟩ := I.all q hq
        exact ⟨g, List.mem_append_left _ hg, e⟩
      · rw [List.mem_singleton.mp hq]
        exact ⟨_, List.mem_append_right _ (List.mem_singleton.mpr rfl), rfl⟩
end Mx
end T_Mx13
section T_Mx14
set_option Elab.async false
set_option linter.all false
set_option maxRecDepth 100000
set_option maxHeartbeats 4000000
namespace Mx
open PySem Gx Pg
theorem gs_len {gs : List Gp} (h : (gs.map (·.1)).Nodup) : gs.length ≤ 3 := by
  have : ∀ l : List Wd, l.Nodup → l.length ≤ 3 := by
    intro l hl
    have sub : l.length ≤ ([Wd.miss, .hit, .sunk] : List Wd).length := by
      refine List.Nodup.length_le_of_subset hl fun w _ => ?_
      cases w <;> decide
    exact sub
  have := this _ h
  rwa [List.length_map] at this
theorem pa_loop {c : Int} {so : D} {sh : List Int} {k : Nat} (hk : k = sh.length) : ∀ (ps pre : List Pl) (gs : List Gp) (own : Own) (s4 : Option SV), (∀ p ∈ ps, ∀ s ∈ p, s.length ≤ 1000) → PInv c sh pre gs own → pre.length + ps.length ≤ 100000 →
    ∃ gs' own' s4', forL (tgN 4) paB (ps.map tT) (paS c so (.dic (sh.map D.int) (trues k)) s4) own = some (.nx (paS c so (.dic (sh.map D.int) (trues k)) s4') own') ∧ PInv c sh (pre ++ ps) gs' own'
  | [], pre, gs, own, s4, _, I, _ => ⟨gs, own, s4, rfl, by rw [List.append_nil]; exact I⟩
  | p :: ps, pre, gs, own, s4, hp, I, hl => by
    have hl' : pre.length + (ps.length + 1) ≤ 100000 := hl
    have g3 := gs_len I.kd
    obtain ⟨gs1, own1, e, I1⟩ := pa_step (so := so) hk (hp p List.mem_cons_self) I (by omega) (by omega)
    obtain ⟨gs', own', s4', e2, I2⟩ := pa_loop hk ps (pre ++ [p]) gs1 own1 (some (.d (tT p))) (fun q hq => hp q (List.mem_cons_of_mem _ hq)) I1 (by rw [List.length_append]; simp; omega)
    refine ⟨gs', own', s4', ?_, by rw [List.append_assoc] at I2; exact I2⟩
    have e1 : tgN 4 (tT p) (paS c so (.dic (sh.map D.int) (trues k)) s4) = some (paS c so (.dic (sh.map D.int) (trues k)) (some (.d (tT p)))) := rfl
    rw [List.map_cons, forL_1, e1]
    simp only [e]
    exact e2
theorem frz_gs : ∀ (gs : List Gp) (own : Own), (∀ g ∈ gs, own[g.2.1]? = some (.lst (g.2.2.map tT))) → (gs.map (·.2.1)).Nodup → ∃ own2, frzAll (gHs gs) own = some (gs.map fun g => D.lst (g.2.2.map tT), own2)
  | [], own, _, _ => ⟨own, rfl⟩
  | g :: gs, own, h, hn => by
    obtain ⟨h1, h2⟩ := List.nodup_cons.mp hn
    have hg := h g List.mem_cons_self
    obtain ⟨own2, e⟩ := frz_gs gs (own.set g.2.1 .dead) (fun g' hg' => by
      have hne : g.2.1 ≠ g'.2.1 := fun z => h1 (List.mem_map.mpr ⟨g', hg', z.symm⟩)
      rw [List.getElem?_set_ne hne]
      exact h g' (List.mem_cons_of_mem _ hg')) h2
    refine ⟨own2, ?_⟩
    show frzAll (SV.h g.2.1 :: gHs gs) own = _
    unfold frzAll
    simp only [hg]
    rw [e]
    rfl
def parD (gs : List Gp) : D := .dic (.ty 5 :: gKs gs) (gs.map fun g => D.lst (g.2.2.map tT))
theorem parted_run {c : Int} {sh : List Int} {k : Nat} {ps : List Pl} (hk : k = sh.length) (hp : ∀ p ∈ ps, ∀ s ∈ p, s.length ≤ 1000) (hl : ps.length ≤ 100000) :
    ∃ gs o, F_parted [.d (.lst (ps.map tT)), .d (.int c), .d (.dic (sh.map D.int) (trues k))] [] = some (.ok (.d (parD gs)), o) ∧ gs.length ≤ 3 ∧ (∀ g ∈ gs, g.2.2 = ps.filter fun p => decide (wordM p c sh = g.1)) ∧ (∀ g ∈ gs, ∃ p ∈ ps, wordM p c sh = g.1) ∧ ∀ p ∈ ps, ∃ g ∈ gs, g.1 = wordM p c sh := by
  have I0 : PInv c sh [] [] [.dic [] []] := ⟨rfl, fun _ h => (nomatch h), List.nodup_nil, List.nodup_nil, fun _ h => (nomatch h), fun _ h => (nomatch h), fun _ h => (nomatch h)⟩
  obtain ⟨gs, own, s4, e, I⟩ := pa_loop (so := .lst (ps.map tT)) hk ps [] [] [.dic [] []] none hp I0 (by simpa using hl)
  rw [List.nil_append] at I
  have fin : ∃ o, sFrzD 3 (sRet (eV 3)) (paS c (.lst (ps.map tT)) (.dic (sh.map D.int) (trues k)) s4) own = some (.rt (.d (parD gs)) o) := by
    have h0 := I.o0
    cases gs with
    | nil =>
      refine ⟨own.set 0 .dead, ?_⟩
      have h0 : own[0]? = some (.dic [] []) := h0
      unfold sFrzD paS
      simp only [List.getElem?_cons_zero, List.getElem?_cons_succ, h0]
      rfl
    | cons g r =>
      obtain ⟨own2, ef⟩ := frz_gs (g :: r) own (fun g hg => (I.ob g hg).1) I.nd
      refine ⟨own2.set 0 .dead, ?_⟩
      have h0 : own[0]? = some (.dih (gKs (g :: r)) (gHs (g :: r))) := h0
      unfold sFrzD paS
      simp only [List.getElem?_cons_zero, List.getElem?_cons_succ, h0, ef, Option.bind_some]
      rfl
  obtain ⟨o, fin⟩ := fin
  refine ⟨gs, o, ?_, gs_len I.kd, I.con, I.mem, I.all⟩
  unfold F_parted
  refine run_rt ?_
  refine (st_Seq (sd1 := paS c (.lst (ps.map tT)) (.dic (sh.map D.int) (trues k)) none) (o1 := [.dic [] []]) rfl).trans ?_
  exact (st_Seq (st_For (e_iSeqL rfl) e)).trans fin
/-! ## telling -/
def cntW (so : List Pl) (c : Int) (sh : List Int) (w : Wd) : Nat := (so.filter fun p => decide (wordM p c sh = w)).length
def worst (so : List Pl) (c : Int) (sh : List Int) : Int := (maxI (so.map fun p => (cntW so c sh (wordM p c sh) : Int))).getD 0
theorem maxI_eq {a b : List Int} (h1 : ∀ x ∈ a, x ∈ b) (h2 : ∀ x ∈ b, x ∈ a) : maxI a = maxI b := by
  cases ha : maxI a with
  | none =>
    have : a = [] := by cases a with | nil => rfl | cons => cases ha
    subst this
    cases b with
    | nil => rfl
    | cons x b => exact absurd (h2 x List.mem_cons_self) (by simp)
  | some m =>
    cases hb : maxI b with
    | none =>
      have : b = [] := by cases b with | nil => rfl | cons => cases hb
      subst this
      exact absurd (h1 m (maxI_of ha).1) (by simp)
    | some k =>
      obtain ⟨a1, a2⟩ := maxI_of ha
      obtain ⟨b1, b2⟩ := maxI_of hb
      have := a2 k (h2 k b1)
      have := b2 m (h1 m a1)
      congr 1
      omega
def pairW (so : List Pl) (sh : List Int) (c : Int) : D := .tup [.int (worst so c sh), .int c]
theorem e_iVal {f : EM} {sd : Sl} {own : Own} {ks xs : List D} (h : f sd own = some (.ok (.d (.dic (.ty 5 :: ks) xs)), own)) : iVal f sd own = some (.ok xs, own) := by
  unfold iVal
  rw [s_bind_ok h]
  rfl
def firstD : D → D
  | .tup [_, y] => y
  | _ => .non
def bestM (so : List Pl) (sh : List Int) : List Int → D
  | [] => .non
  | c :: r => firstD (minS (.P .I .I) (pairW so sh c) (r.map (pairW so sh)))
end Mx
end T_Mx14
section T_Pg3
set_option Elab.async false
set_option linter.all false
set_option maxRecDepth 100000
set_option maxHeartbeats 8000000
set_option pp.maxSteps 300
namespace Pg
open PySem Gx
def F_multiple : FM := runDef 2
  ((sRet (eB mMul (eB mFdiv (eV 0) (eCallD 2 F_divisor (aCons (eV 0) (aCons (eV 1) aNil)))) (eV 1))))
def F_is_part : FM := runDef 1
  ((sSeq (sIf (tOr (tNot (tE (eCB (m2 mIsi) (aCons (eV 0) (aCons (eK (.ty 3)) aNil))))) (tE (eB mEq (eCB (m1 mLen) (aCons (eV 0) aNil)) (eK (.int 0)))))
    (sRet (eK (.bl false)))
    sNil)
    (sSeq (sIf (tE (eCallD 2 F_is_one_of (aCons (eB mIx (eV 0) (eK (.int 0))) (aCons (eK (.tup [.str "every", .str "every_back"])) aNil))))
    (sRet (eAnd (eB mEq (eCB (m1 mLen) (aCons (eV 0) aNil)) (eK (.int 3))) (eAnd (eCallD 3 F_is_from (aCons (eB mIx (eV 0) (eK (.int 1))) (aCons (eK (.int 1)) (aCons (eK (.int 6)) aNil)))) (eCallD 3 F_is_from (aCons (eB mIx (eV 0) (eK (.int 2))) (aCons (eK (.int 0)) (aCons (eB mSub (eB mIx (eV 0) (eK (.int 1))) (eK (.int 1))) aNil)))))))
    sNil)
    (sRet (eAnd (eCallD 2 F_is_one_of (aCons (eB mIx (eV 0) (eK (.int 0))) (aCons (eK (.tup [.str "back", .str "cell"])) aNil))) (eAnd (eB mEq (eCB (m1 mLen) (aCons (eV 0) aNil)) (eK (.int 2))) (eCallD 3 F_is_from (aCons (eB mIx (eV 0) (eK (.int 1))) (aCons (eK (.int 0)) (aCons (eK (.int 5)) aNil))))))))))
def F_Plan_init : FM := runDef 4
  ((sSeq (sIf (tOr (tNot (tE (eCB (m2 mIsi) (aCons (eV 1) (aCons (eK (.ty 3)) aNil))))) (tE (eB mGt (eCB (m1 mLen) (aCons (eV 1) aNil)) (eK (.int 4)))))
    (sRaise 14 (aCons (eK .non) aNil))
    sNil)
    (sSeq (sFor (iEnum (eV 1)) (tgU [2, 3]) (sIf (tOr (tNot (tE (eCallD 1 F_is_part (aCons (eV 3) aNil)))) (tE (eB (mIn false) (eV 3) (eSl (eV 1) oNo (oSo (eV 2))))))
    (sRaise 14 (aCons (eV 2) aNil))
    sNil))
    (sFldS 1 0 (eV 0) (eV 1)))))
def F_cells_of : FM := runDef 3
  ((sSeq (sIf (tE (eB mEq (eB mIx (eV 0) (eK (.int 0))) (eK (.str "every"))))
    (sRet (eLstR3 (aCons (eB mIx (eV 0) (eK (.int 2))) (aCons (eV 1) (aCons (eB mIx (eV 0) (eK (.int 1))) aNil)))))
    sNil)
    (sSeq (sIf (tE (eB mEq (eB mIx (eV 0) (eK (.int 0))) (eK (.str "every_back"))))
    (sRet (eLstR3 (aCons (eB mSub (eB mSub (eV 1) (eK (.int 1))) (eB mIx (eV 0) (eK (.int 2)))) (aCons (eU mNeg (eK (.int 1))) (aCons (eU mNeg (eB mIx (eV 0) (eK (.int 1)))) aNil)))))
    sNil)
    (sSeq (sSet 2 (eIf (tE (eB mEq (eB mIx (eV 0) (eK (.int 0))) (eK (.str "cell")))) (eB mIx (eV 0) (eK (.int 1))) (eB mSub (eB mSub (eV 1) (eK (.int 1))) (eB mIx (eV 0) (eK (.int 1))))))
    (sRet (eIf (tE (eCh mLe mLt (eK (.int 0)) (eV 2) (eV 1))) (eLst (aCons (eV 2) aNil)) (eLst aNil)))))))
def F_shot_by : FM := runDef 4
  ((sRet (eDC2 (iSeq (eFld 1 0 (eV 0))) [2, 3] (tgN 2) tTrue (iSeq (eCallD 2 F_cells_of (aCons (eV 2) (aCons (eV 1) aNil)))) [3] (tgN 3) tTrue (eV 3) (eK (.bl true)))))
def F_cells : FM := runDef 2
  ((sSeq (sExpr (eCallD 2 F_check_number (aCons (eV 1) (aCons (eK (.int 10000)) aNil))))
    (sRet (eCB (m1 mSortK) (aCons (eCallD 2 F_shot_by (aCons (eV 0) (aCons (eV 1) aNil))) aNil)))))
def F_period_of : FM := runDef 3
  ((sSeq (sSet 1 (eK (.int 1)))
    (sSeq (sFor (iSeq (eFld 1 0 (eV 0))) (tgN 2) (sSet 1 (eCallD 2 F_multiple (aCons (eV 1) (aCons (eIf (tE (eB (mIn false) (eB mIx (eV 2) (eK (.int 0))) (eK (.tup [.str "every", .str "every_back"])))) (eB mIx (eV 2) (eK (.int 1))) (eK (.int 1))) aNil)))))
    (sRet (eV 1)))))
def F_count_of : FM := runDef 7
  ((sSeq (sSet 1 (eCallD 1 F_period_of (aCons (eV 0) aNil)))
    (sSeq (sSet 2 (eLC (iRg1 (aCons (eB mAdd (eK (.int 12)) (eB mMul (eK (.int 2)) (eV 1))) aNil)) [5] (tgN 5) tTrue (eCB (m1 mLen) (aCons (eCallD 2 F_shot_by (aCons (eV 0) (aCons (eV 5) aNil))) aNil))))
    (sSeq (sSet 3 (eDC (iRg2 (aCons (eK (.int 12)) (aCons (eB mAdd (eK (.int 12)) (eV 1)) aNil))) [5] (tgN 5) tTrue (eB mMod (eV 5) (eV 1)) (eB mSub (eB mIx (eV 2) (eB mAdd (eV 5) (eV 1))) (eB mIx (eV 2) (eV 5)))))
    (sSeq (sSet 4 (eK (.int 12)))
    (sSeq (whL (tAnd (tE (eB mGt (eV 4) (eK (.int 0)))) (tE (eB mEq (eB mSub (eB mIx (eV 2) (eB mAdd (eB mSub (eV 4) (eK (.int 1))) (eV 1))) (eB mIx (eV 2) (eB mSub (eV 4) (eK (.int 1))))) (eB mIx (eV 3) (eB mMod (eB mSub (eV 4) (eK (.int 1))) (eV 1)))))) (sAug (fun i j => i - j) 4 (eK (.int 1))) 1000)
    (sRet (eTup (aCons (eV 4) (aCons (eV 1) (aCons (eCB (m1 mTupC) (aCons (eLC (iRg1 (aCons (eV 1) aNil)) [6] (tgN 6) tTrue (eB mIx (eV 3) (eV 6))) aNil)) (aCons (eCB (m1 mTupC) (aCons (eSl (eV 2) oNo (oSo (eB mAdd (eV 4) (eV 1)))) aNil)) aNil))))))))))))
def F_count : FM := runDef 1
  ((sRet (eCallD 1 F_count_of (aCons (eV 0) aNil))))
def F__law_parts : FM := runDef 8
  ((sSeq (sSet 3 (eLstH aNil))
    (sSeq (sFor (iRg1 (aCons (eCallZ 2 F__law_pick (aCons (eV 0) (aCons (eB mAdd (eV 1) (eK (.int 1))) aNil))) aNil)) (tgN 4) (sSeq (sPar [5, 6] (aCons (eCallZ 2 F__law_pick (aCons (eV 0) (aCons (eK (.int 6)) aNil))) (aCons (eB mIx (eV 2) (eCallZ 2 F__law_pick (aCons (eV 0) (aCons (eCB (m1 mLen) (aCons (eV 2) aNil)) aNil)))) aNil)))
    (sSeq (sSet 7 (eTup (aCons (eB mIx (eLst (aCons (eK (.str "every")) (aCons (eK (.str "every_back")) aNil))) (eB mMod (eV 5) (eK (.int 2)))) (aCons (eV 6) (aCons (eCallZ 2 F__law_pick (aCons (eV 0) (aCons (eV 6) aNil))) aNil)))))
    (sSeq (sIf (tE (eB mGt (eV 5) (eK (.int 3))))
    (sSet 7 (eTup (aCons (eB mIx (eLst (aCons (eK (.str "cell")) (aCons (eK (.str "back")) aNil))) (eB mMod (eV 5) (eK (.int 2)))) (aCons (eCallZ 2 F__law_pick (aCons (eV 0) (aCons (eK (.int 6)) aNil))) aNil))))
    sNil)
    (sIf (tE (eB (mIn true) (eV 7) (eV 3)))
    (sExpr (eMut mmApp (eV 3) (aCons (eV 7) aNil)))
    sNil)))))
    (sRet (eCB (m1 mTupC) (aCons (eV 3) aNil))))))
def F__law_is_shot : FM := runDef 4
  ((sSeq (sFor (iSeq (eV 0)) (tgN 3) (sSeq (sIf (tAnd (tE (eB mEq (eB mIx (eV 3) (eK (.int 0))) (eK (.str "every")))) (tE (eB mEq (eB mMod (eV 2) (eB mIx (eV 3) (eK (.int 1)))) (eB mIx (eV 3) (eK (.int 2))))))
    (sRet (eK (.bl true)))
    sNil)
    (sSeq (sIf (tAnd (tE (eB mEq (eB mIx (eV 3) (eK (.int 0))) (eK (.str "every_back")))) (tE (eB mEq (eB mMod (eB mSub (eB mSub (eV 1) (eK (.int 1))) (eV 2)) (eB mIx (eV 3) (eK (.int 1)))) (eB mIx (eV 3) (eK (.int 2))))))
    (sRet (eK (.bl true)))
    sNil)
    (sIf (tOr (tE (eB mEq (eV 3) (eTup (aCons (eK (.str "cell")) (aCons (eV 2) aNil))))) (tE (eB mEq (eV 3) (eTup (aCons (eK (.str "back")) (aCons (eB mSub (eB mSub (eV 1) (eK (.int 1))) (eV 2)) aNil))))))
    (sRet (eK (.bl true)))
    sNil))))
    (sRet (eK (.bl false)))))
def F__law_cells : FM := runDef 3
  ((sRet (eLC (iRg1 (aCons (eV 1) aNil)) [2] (tgN 2) (tE (eCallD 3 F__law_is_shot (aCons (eV 0) (aCons (eV 1) (aCons (eV 2) aNil))))) (eV 2))))
def F__law_period : FM := runDef 3
  ((sSeq (sSet 1 (eK (.int 1)))
    (sSeq (sFor (iSeq (eV 0)) (tgN 2) (sIf (tE (eB mEq (eCB (m1 mLen) (aCons (eV 2) aNil)) (eK (.int 3))))
    (sSet 1 (eB mFdiv (eB mMul (eV 1) (eB mIx (eV 2) (eK (.int 1)))) (eCallD 2 F__law_common (aCons (eV 1) (aCons (eB mIx (eV 2) (eK (.int 1))) aNil)))))
    sNil))
    (sRet (eV 1)))))
end Pg
end T_Pg3
section T_Ny1
set_option Elab.async false
set_option linter.all false
set_option maxRecDepth 100000
set_option maxHeartbeats 4000000
set_option pp.maxSteps 2000
namespace Ny
open PySem Gx Pg
theorem pick_ok : Draws F__law_pick := Mx.pick_ok
theorem callD_of {n : Nat} {Ff : FM} {xs : List SV} {ds : List D} {z : D} {o' : Own} (hd : dats xs = some ds) (hl : xs.length = n) (h : Ff xs [] = some (.ok (.d z), o')) (sd : Sl) (own : Own) : callD n Ff xs sd own = some (.ok (.d z), own) := by
  unfold callD
  rw [if_neg (fun z => z hl)]
  simp [hd, h, resD]
/-- a part: every (back or not), step, place; back or cell, place -/
inductive Pt where
  | ev (b : Bool) (s p : Int) | sh (b : Bool) (j : Int)
  deriving DecidableEq
def Pt.toD : Pt → D
  | .ev false s p => .tup [.str "every", .int s, .int p]
  | .ev true s p => .tup [.str "every_back", .int s, .int p]
  | .sh false j => .tup [.str "cell", .int j]
  | .sh true j => .tup [.str "back", .int j]
def Pt.ok : Pt → Prop
  | .ev _ s p => 1 ≤ s ∧ s ≤ 6 ∧ 0 ≤ p ∧ p < s
  | .sh _ j => 0 ≤ j ∧ j < 6
def Pt.okS (ss : List Int) (x : Pt) : Prop := x.ok ∧ (match x with
  | .ev _ s _ => s ∈ ss
  | .sh _ _ => True)
theorem k1 : PyData.strOk ("every" : Str) = true := by decide +kernel
theorem k2 : PyData.strOk ("every_back" : Str) = true := by decide +kernel
theorem k3 : PyData.strOk ("cell" : Str) = true := by decide +kernel
theorem k4 : PyData.strOk ("back" : Str) = true := by decide +kernel
theorem ne12 : (("every" : Str) == "every_back") = false := by decide +kernel
theorem ne21 : (("every_back" : Str) == "every") = false := by decide +kernel
theorem ne13 : (("every" : Str) == "cell") = false := by decide +kernel
theorem ne14 : (("every" : Str) == "back") = false := by decide +kernel
theorem ne23 : (("every_back" : Str) == "cell") = false := by decide +kernel
theorem ne24 : (("every_back" : Str) == "back") = false := by decide +kernel
theorem ne31 : (("cell" : Str) == "every") = false := by decide +kernel
theorem ne41 : (("back" : Str) == "every") = false := by decide +kernel
theorem ne32 : (("cell" : Str) == "every_back") = false := by decide +kernel
theorem ne42 : (("back" : Str) == "every_back") = false := by decide +kernel
theorem ne34 : (("cell" : Str) == "back") = false := by decide +kernel
theorem ne43 : (("back" : Str) == "cell") = false := by decide +kernel
theorem pt_okN : ∀ x : Pt, okN 59 x.toD = true
  | .ev false s p => by show ([D.str "every", .int s, .int p]).all (okN 58) = true; simp [okN, k1]
  | .ev true s p => by show ([D.str "every_back", .int s, .int p]).all (okN 58) = true; simp [okN, k2]
  | .sh false j => by show ([D.str "cell", .int j]).all (okN 58) = true; simp [okN, k3]
  | .sh true j => by show ([D.str "back", .int j]).all (okN 58) = true; simp [okN, k4]
theorem pt_eqN (x y : Pt) : eqN 60 x.toD y.toD = decide (x = y) := by
  rcases x with ⟨_ | _, s, p⟩ | ⟨_ | _, j⟩ <;> rcases y with ⟨_ | _, s', p'⟩ | ⟨_ | _, j'⟩ <;>
    simp [Pt.toD, eqN, eqAll, ne12, ne21, ne13, ne14, ne23, ne24, ne31, ne41, ne32, ne42, ne34, ne43, Bool.decide_and] <;> rfl
/-- what the loop over the parts says of the part at i -/
def stepB : SM := sIf (tOr (tNot (tE (eCallD 1 F_is_part (aCons (eV 3) aNil)))) (tE (eB (mIn false) (eV 3) (eSl (eV 1) oNo (oSo (eV 2))))))
    (sRaise 14 (aCons (eV 2) aNil))
    sNil
theorem step_good {xs : List D} {i : Nat} {d : D} {own : Own} (hp : F_is_part [.d d] [] = some (.ok (.d (.bl true)), [])) (hi : i ≤ xs.length) (h1 : okN 60 d = true) (h2 : (xs.take i).all (okN 59) = true) (h3 : ((xs.take i).any fun z => eqN 60 z d) = false) :
    stepB [some (.h 0), some (.d (.tup xs)), some (.d (.int i)), some (.d d)] own = some (.nx [some (.h 0), some (.d (.tup xs)), some (.d (.int i)), some (.d d)] own) := by
  have e1 := callD_of (n := 1) (ds := [d]) rfl rfl hp
  have e2 := cut_to (xs := xs) (k := i) (by omega) (by omega)
  have e3 : mIn false own (.d d) (.d (.tup (xs.take i))) = some (.bl false) := by
    rw [in_tup h1 h2, h3]; rfl
  simp [stepB, e1, e2, e3]

def Good (xs : List D) (i : Nat) : Prop := ∃ d, xs[i]? = some d ∧ F_is_part [.d d] [] = some (.ok (.d (.bl true)), []) ∧ okN 60 d = true ∧ (xs.take i).all (okN 59) = true ∧ ((xs.take i).any fun z => eqN 60 z d) = false
theorem enum_drop {xs : List D} {i : Nat} {d : D} (h : xs[i]? = some d) : (enumD xs).drop i = .tup [.int i, d] :: (enumD xs).drop (i + 1) := by
  have hi : i < (enumD xs).length := by
    rw [enumD_len]
    exact (List.getElem?_eq_some_iff.mp h).1
  have e : (enumD xs)[i]? = some (.tup [.int i, d]) := by
    unfold enumD
    rw [List.getElem?_map, List.getElem?_zipIdx, h]
    simp
  rw [List.drop_eq_getElem_cons hi]
  congr 1
  rw [List.getElem?_eq_getElem hi] at e
  exact Option.some.inj e
theorem loop_good {xs : List D} {own : Own} : ∀ n : Nat, (∀ i < n, Good xs i) → ∃ a b, forL (tgU [2, 3]) stepB (enumD xs) [some (.h 0), some (.d (.tup xs)), none, none] own = forL (tgU [2, 3]) stepB ((enumD xs).drop n) [some (.h 0), some (.d (.tup xs)), a, b] own
  | 0, _ => ⟨none, none, rfl⟩
  | n + 1, h => by
    obtain ⟨a, b, e⟩ := loop_good n fun i hi => h i (Nat.lt_succ_of_lt hi)
    obtain ⟨d, hd, h1, h2, h3, h4⟩ := h n (Nat.lt_succ_self n)
    have hl := (List.getElem?_eq_some_iff.mp hd).1
    refine ⟨some (.d (.int n)), some (.d d), ?_⟩
    rw [e, enum_drop hd, forL_1]
    have st := step_good (own := own) h1 (by omega) h2 h3 h4
    simp [st]
theorem init_ok {xs : List D} (h : ∀ i < xs.length, Good xs i) (hl : xs.length ≤ 4) : F_Plan_init [.h 0, .d (.tup xs)] [.ins 1 []] = some (.ok (.d .non), [.ins 1 [.d (.tup xs)]]) := by
  obtain ⟨a, b, e⟩ := loop_good (own := [.ins 1 []]) xs.length h
  have e0 : decide ((4 : Int) < xs.length) = false := by simp; omega
  have e2 : (enumD xs).drop xs.length = [] := List.drop_of_length_le (by rw [enumD_len]; exact Nat.le_refl _)
  rw [e2] at e
  unfold stepB at e
  simp [F_Plan_init, runDef, startD, mIsi, datV, tyOf, isTy, e0, e, putFld]
/-- what steps may be drawn of -/
def Steps (ss : List Int) : Prop := ss ≠ [] ∧ ss.length < 100 ∧ ∀ s ∈ ss, 1 ≤ s ∧ s ≤ 6
def lastB : SM := sIf (tE (eB (mIn true) (eV 7) (eV 3)))
    (sExpr (eMut mmApp (eV 3) (aCons (eV 7) aNil)))
    sNil
def partB : SM := (sSeq (sPar [5, 6] (aCons (eCallZ 2 F__law_pick (aCons (eV 0) (aCons (eK (.int 6)) aNil))) (aCons (eB mIx (eV 2) (eCallZ 2 F__law_pick (aCons (eV 0) (aCons (eCB (m1 mLen) (aCons (eV 2) aNil)) aNil)))) aNil)))
    (sSeq (sSet 7 (eTup (aCons (eB mIx (eLst (aCons (eK (.str "every")) (aCons (eK (.str "every_back")) aNil))) (eB mMod (eV 5) (eK (.int 2)))) (aCons (eV 6) (aCons (eCallZ 2 F__law_pick (aCons (eV 0) (aCons (eV 6) aNil))) aNil)))))
    (sSeq (sIf (tE (eB mGt (eV 5) (eK (.int 3))))
    (sSet 7 (eTup (aCons (eB mIx (eLst (aCons (eK (.str "cell")) (aCons (eK (.str "back")) aNil))) (eB mMod (eV 5) (eK (.int 2)))) (aCons (eCallZ 2 F__law_pick (aCons (eV 0) (aCons (eK (.int 6)) aNil))) aNil))))
    sNil)
    lastB)))
def tD (pts : List Pt) : D := .tup (pts.map Pt.toD)
def plan (pts : List Pt) : D := .obj 1 [tD pts]
theorem eq59 (x y : Pt) : eqN 59 x.toD y.toD = decide (x = y) := by
  rw [← eqN_mono 59 _ _ (pt_okN x) (pt_okN y), pt_eqN]
theorem eq_all : ∀ (p q : List Pt), eqAll (eqN 59) (p.map Pt.toD) (q.map Pt.toD) = decide (p = q)
  | [], [] => rfl
  | [], y :: q => rfl
  | x :: p, [] => rfl
  | x :: p, y :: q => by
    show (eqN 59 x.toD y.toD && eqAll (eqN 59) (p.map Pt.toD) (q.map Pt.toD)) = decide (x :: p = y :: q)
    rw [eq59, eq_all p q]
    by_cases c1 : x = y <;> by_cases c2 : p = q <;> simp [c1, c2]
end Ny
end T_Ny1
section T_Ny2
set_option Elab.async false
set_option linter.all false
set_option maxRecDepth 100000
set_option maxHeartbeats 4000000
set_option pp.maxSteps 2000
namespace Ny
open PySem Gx Pg
/-! ## counts of cells -/
/-- whether a part hits cell c of n -/
def hit (n c : Int) : Pt → Bool
  | .ev false s p => decide (c % s = p)
  | .ev true s p => decide ((n - 1 - c) % s = p)
  | .sh false j => decide (j = c)
  | .sh true j => decide (j = n - 1 - c)
def shot (pts : List Pt) (n c : Nat) : Bool := pts.any (hit n c)
def cellsN (pts : List Pt) (n : Nat) : List Nat := (List.range n).filter (shot pts n)
def cnt (pts : List Pt) (n : Nat) : Nat := (cellsN pts n).length
def cf (f : Nat → Bool) (n : Nat) : Nat := ((List.range n).filter f).length
/-- P is a multiple of the part's step -/
def Pt.dv (P : Nat) : Pt → Prop
  | .ev _ s _ => s ∣ (P : Int)
  | .sh _ _ => True
def Per (pts : List Pt) (P : Nat) : Prop := 0 < P ∧ ∀ x ∈ pts, x.ok ∧ x.dv P
/-- what a period more gives, from twelve cells on -/
def gain (pts : List Pt) (P n : Nat) : Nat := cf (fun i => shot pts (n + P) (6 + i)) P
end Ny
end T_Ny2
section T_Ny3
set_option Elab.async false
set_option linter.all false
set_option maxRecDepth 100000
set_option maxHeartbeats 4000000
set_option pp.maxSteps 2000
namespace Ny
open PySem Gx Pg
/-! ## the program's cells of a part -/
def cellsP (n : Nat) : Pt → List Int
  | .ev false s p => Gx.stepI p s (stepN p n s)
  | .ev true s p => Gx.stepI ((n : Int) - 1 - p) (-s) (stepN ((n : Int) - 1 - p) (-1) (-s))
  | .sh false j => if 0 ≤ j ∧ j < n then [j] else []
  | .sh true j => if 0 ≤ (n : Int) - 1 - j ∧ (n : Int) - 1 - j < n then [(n : Int) - 1 - j] else []
theorem fits {i : Int} (h : -1000000 ≤ i) (h2 : i ≤ 1000000) : Builtin.Range.rangeFitsLong i = true := by
  unfold Builtin.Range.rangeFitsLong
  rw [Bool.and_eq_true, decide_eq_true_eq, decide_eq_true_eq]
  exact ⟨Int.le_trans (by decide) h, Int.lt_of_le_of_lt h2 (by decide)⟩
/-! ## the keys of a dict of cells -/
def addK (ks : List Int) (c : Int) : List Int := if c ∈ ks then ks else ks ++ [c]
def kd (ks : List Int) : List D × List D := (ks.map D.int, ks.map fun _ => D.bl true)
def keysP (pts : List Pt) (n : Nat) : List Int := pts.foldl (fun ks x => (cellsP n x).foldl addK ks) []
end Ny
end T_Ny3
section T_Ny4
set_option Elab.async false
set_option linter.all false
set_option maxRecDepth 100000
set_option maxHeartbeats 4000000
set_option pp.maxSteps 2000
namespace Ny
open PySem Gx Pg Mx
def shotD (pts : List Pt) (n : Nat) : D := .dic (kd (keysP pts n)).1 (kd (keysP pts n)).2
def cellsI (pts : List Pt) (n : Nat) : List Int := (cellsN pts n).map fun c : Nat => (c : Int)
end Ny
end T_Ny4
section T_Ny5
set_option Elab.async false
set_option linter.all false
set_option maxRecDepth 100000
set_option maxHeartbeats 4000000
set_option pp.maxSteps 2000
namespace Ny
open PySem Gx Pg Mx
/-! ## the period -/
def perStep (P : Nat) : Pt → Nat
  | .ev _ s _ => Nat.lcm P s.toNat
  | .sh _ _ => P
def perN (pts : List Pt) : Nat := pts.foldl perStep 1
end Ny
end T_Ny5
section T_Ny6
set_option Elab.async false
set_option linter.all false
set_option maxRecDepth 100000
set_option maxHeartbeats 4000000
set_option pp.maxSteps 2000
namespace Ny
open PySem Gx Pg Mx
/-! ## what a period more gives, by the remainder -/
def gm (pts : List Pt) (P r : Nat) : Nat := gain pts P (r + 12 * P)
/-- the gain holds from n on -/
def okAt (pts : List Pt) (P n : Nat) : Prop := cnt pts (n + P) = cnt pts n + gm pts P (n % P)
instance (pts : List Pt) (P n : Nat) : Decidable (okAt pts P n) := inferInstanceAs (Decidable (_ = _))
def goN (pts : List Pt) (P : Nat) : Nat → Nat
  | 0 => 0
  | k + 1 => if okAt pts P k then goN pts P k else k + 1
def startN (pts : List Pt) (P : Nat) : Nat := goN pts P 12
/-! ## a dict with values by the key -/
theorem getK_ints {g : Nat → D} {r : Nat} : ∀ {l : List Nat}, r ∈ l → getK (.inl (r : Int)) (l.map fun k : Nat => D.int k) (l.map g) = some (g r)
  | [], h => by cases h
  | k :: l, h => by
    show (if (Sum.inl (r : Int) : L2.Key) = .inl (k : Int) then some (g k) else getK (.inl (r : Int)) (l.map fun k : Nat => D.int k) (l.map g)) = _
    by_cases e : r = k
    · subst e; rw [if_pos rfl]
    · rw [if_neg (fun z => e (by injection z with z; omega))]
      exact getK_ints (by rcases List.mem_cons.mp h with h | h; exact absurd h e; exact h)
def gkeys (P : Nat) : List Nat := (List.range P).map fun i => (12 + i) % P
def gainD (pts : List Pt) (P : Nat) : D := .dic ((gkeys P).map fun k : Nat => D.int k) ((gkeys P).map fun r => D.int (gm pts P r))
end Ny
end T_Ny6
section T_Ny7
set_option Elab.async false
set_option linter.all false
set_option maxRecDepth 100000
set_option maxHeartbeats 4000000
set_option pp.maxSteps 2000
namespace Ny
open PySem Gx Pg Mx
def numF (pts : List Pt) (i : Nat) : D := D.int (cnt pts i)
def numsD (pts : List Pt) (N : Nat) : D := .lst ((List.range N).map (numF pts))
def gmF (pts : List Pt) (P r : Nat) : D := D.int (gm pts P r)
/-- what count_of tells -/
def told (pts : List Pt) (P : Nat) : D := .tup [.int (startN pts P), .int P, .tup ((List.range P).map (gmF pts P)), .tup ((List.range (startN pts P + P)).map (numF pts))]
def cS (pts : List Pt) (P : Nat) (k : Nat) : Sl := [some (.d (plan pts)), some (.d (.int P)), some (.d (numsD pts (12 + 2 * P))), some (.d (gainD pts P)), some (.d (.int k)), none, none]
def condC : TM := tAnd (tE (eB mGt (eV 4) (eK (.int 0)))) (tE (eB mEq (eB mSub (eB mIx (eV 2) (eB mAdd (eB mSub (eV 4) (eK (.int 1))) (eV 1))) (eB mIx (eV 2) (eB mSub (eV 4) (eK (.int 1))))) (eB mIx (eV 3) (eB mMod (eB mSub (eV 4) (eK (.int 1))) (eV 1)))))
end Ny
end T_Ny7
section T_Ny8
set_option Elab.async false
set_option linter.all false
set_option maxRecDepth 100000
set_option maxHeartbeats 4000000
set_option pp.maxSteps 2000
namespace Ny
open PySem Gx Pg Mx
def shotB : SM := (sSeq (sIf (tAnd (tE (eB mEq (eB mIx (eV 3) (eK (.int 0))) (eK (.str "every")))) (tE (eB mEq (eB mMod (eV 2) (eB mIx (eV 3) (eK (.int 1)))) (eB mIx (eV 3) (eK (.int 2))))))
    (sRet (eK (.bl true)))
    sNil)
    (sSeq (sIf (tAnd (tE (eB mEq (eB mIx (eV 3) (eK (.int 0))) (eK (.str "every_back")))) (tE (eB mEq (eB mMod (eB mSub (eB mSub (eV 1) (eK (.int 1))) (eV 2)) (eB mIx (eV 3) (eK (.int 1)))) (eB mIx (eV 3) (eK (.int 2))))))
    (sRet (eK (.bl true)))
    sNil)
    (sIf (tOr (tE (eB mEq (eV 3) (eTup (aCons (eK (.str "cell")) (aCons (eV 2) aNil))))) (tE (eB mEq (eV 3) (eTup (aCons (eK (.str "back")) (aCons (eB mSub (eB mSub (eV 1) (eK (.int 1))) (eV 2)) aNil))))))
    (sRet (eK (.bl true)))
    sNil)))
end Ny
end T_Ny8
section T_Pg4
set_option Elab.async false
set_option linter.all false
set_option maxRecDepth 100000
set_option maxHeartbeats 8000000
set_option pp.maxSteps 300
namespace Pg
open PySem Gx
def F_first_place : FM := runDef 8
  ((sSeq (sSet 3 (eCallD 4 F_spans (aCons (eV 0) (aCons (eV 1) (aCons (eB mIx (eFld 0 1 (eV 0)) (eK (.int 0))) (aCons (eV 2) aNil))))))
    (sSeq (sIf (tE (eB mEq (eCB (m1 mLen) (aCons (eFld 0 1 (eV 0)) aNil)) (eK (.int 1))))
    (sRet (eIf (tE (eB mNe (eV 3) (eLst aNil))) (eTup (aCons (eB mIx (eV 3) (eK (.int 0))) aNil)) (eK .non)))
    sNil)
    (sSeq (sSet 4 (eCallD 4 F_spans (aCons (eV 0) (aCons (eV 1) (aCons (eB mIx (eFld 0 1 (eV 0)) (eK (.int 1))) (aCons (eV 2) aNil))))))
    (sSeq (sSet 5 (eB mEq (eB mIx (eFld 0 1 (eV 0)) (eK (.int 0))) (eB mIx (eFld 0 1 (eV 0)) (eK (.int 1)))))
    (sSeq (sFor (iSeq (eV 3)) (tgN 6) (sFor (iSeq (eV 4)) (tgN 7) (sIf (tAnd (tOr (tNot (tE (eV 5))) (tE (eB (mLtT (.U .I)) (eV 6) (eV 7)))) (tE (eCallD 4 F_can_both (aCons (eV 0) (aCons (eV 1) (aCons (eV 6) (aCons (eV 7) aNil)))))))
    (sRet (eTup (aCons (eV 6) (aCons (eV 7) aNil))))
    sNil)))
    (sRet (eK .non))))))))
def F_told_round : FM := runDef 7
  ((sSeq (sSet 3 (eV 2))
    (sSeq (sFor (iRg3 (aCons (eV 2) (aCons (eK (.int 0)) (aCons (eU mNeg (eK (.int 1))) aNil)))) (tgN 4) (sIf (tAnd (tE (eB mEq (eB mMod (eV 2) (eV 4)) (eK (.int 0)))) (tE (eCB (m1 mAll) (aCons (eLC (iRg2 (aCons (eV 1) (aCons (eB mAdd (eV 1) (eV 2)) aNil))) [6] (tgN 6) tTrue (eB mEq (eB mIx (eV 0) (eV 6)) (eB mIx (eV 0) (eB mAdd (eV 6) (eV 4))))) aNil))))
    (sSet 3 (eV 4))
    sNil))
    (sSeq (whL (tAnd (tE (eB mGt (eV 1) (eK (.int 0)))) (tE (eB mEq (eB mIx (eV 0) (eB mSub (eV 1) (eK (.int 1)))) (eB mIx (eV 0) (eB mAdd (eB mSub (eV 1) (eK (.int 1))) (eV 3)))))) (sAug (fun i j => i - j) 1 (eK (.int 1))) 1000)
    (sSeq (sSet 5 (eCB (m1 mSortI) (aCons (eLC (iRg2 (aCons (eV 1) (aCons (eB mAdd (eV 1) (eV 3)) aNil))) [6] (tgN 6) (tE (eB mIx (eV 0) (eV 6))) (eB mMod (eV 6) (eV 3))) aNil)))
    (sRet (eTup (aCons (eV 1) (aCons (eV 3) (aCons (eCB (m1 mTupC) (aCons (eV 5) aNil)) (aCons (eCB (m1 mTupC) (aCons (eLC (iRg1 (aCons (eV 1) aNil)) [6] (tgN 6) (tE (eB mIx (eV 0) (eV 6))) (eV 6)) aNil)) aNil)))))))))))
def F_escapes : FM := runDef 3
  ((sRet (eCallD 3 F_first_place (aCons (eV 1) (aCons (eV 2) (aCons (eCallD 2 F_shot_by (aCons (eV 0) (aCons (eV 2) aNil))) aNil))))))
def F_bound_of : FM := runDef 2
  ((sSeq (sSet 1 (eCallD 1 F_period_of (aCons (eV 0) aNil)))
    (sRet (eTup (aCons (eB mAdd (eB mMul (eK (.int 2)) (eV 1)) (eK (.int 23))) (aCons (eV 1) aNil))))))
def F_caught_round : FM := runDef 6
  ((sSeq (sUnp [2, 3] (eCallD 1 F_bound_of (aCons (eV 0) aNil)))
    (sSeq (sSet 4 (eLCO (iRg1 (aCons (eB mAdd (eV 2) (eV 3)) aNil)) [5] (tgN 5) tTrue (eB mIsN (eCallD 3 F_escapes (aCons (eV 0) (aCons (eV 1) (aCons (eV 5) aNil)))) (eK .non))))
    (sSeq (sExpr (eMut mmExt (eV 4) (aCons (eSl (eV 4) (oSo (eV 2)) oNo) aNil)))
    (sSeq (sExpr (eMut mmApp (eV 4) (aCons (eB mIx (eV 4) (eV 2)) aNil)))
    (sFrz 4 (sRet (eCallD 3 F_told_round (aCons (eV 4) (aCons (eV 2) (aCons (eV 3) aNil)))))))))))
def F_catches : FM := runDef 2
  ((sRet (eCallD 2 F_caught_round (aCons (eV 0) (aCons (eV 1) aNil)))))
def F_first_escape : FM := runDef 6
  ((sSeq (sUnp [2, 3] (eCallD 1 F_bound_of (aCons (eV 0) aNil)))
    (sSeq (sFor (iRg1 (aCons (eB mAdd (eV 2) (eV 3)) aNil)) (tgN 4) (sSeq (sSet 5 (eCallD 3 F_escapes (aCons (eV 0) (aCons (eV 1) (aCons (eV 4) aNil)))))
    (sIf (tE (eB mNotN (eV 5) (eK .non)))
    (sRet (eTup (aCons (eV 4) (aCons (eV 5) aNil))))
    sNil)))
    (sRet (eK .non)))))
def F__law_is_free : FM := runDef 3
  ((sRet (eB mEq (eLC (iSeq (eV 0)) [2] (tgN 2) (tE (eB (mIn false) (eV 2) (eV 1))) (eV 2)) (eLst aNil))))
def F__law_free : FM := runDef 10
  ((sSeq (sSet 3 (eCallD 2 F__law_cells (aCons (eV 2) (aCons (eV 1) aNil))))
    (sSeq (sSet 4 (eLstH aNil))
    (sSeq (sFor (iSeq (eB mIx (eV 0) (eK (.str "ships")))) (tgN 5) (sSeq (sSet 6 (eCallD 3 F__law_spans (aCons (eV 0) (aCons (eV 1) (aCons (eV 5) aNil)))))
    (sExpr (eMut mmApp (eV 4) (aCons (eLC (iSeq (eV 6)) [9] (tgN 9) (tE (eCallD 2 F__law_is_free (aCons (eV 9) (aCons (eV 3) aNil)))) (eV 9)) aNil)))))
    (sSeq (sIf (tE (eB mEq (eCB (m1 mLen) (aCons (eV 4) aNil)) (eK (.int 1))))
    (sRet (eIf (tE (eB mNe (eB mIx (eV 4) (eK (.int 0))) (eLst aNil))) (eTup (aCons (eB mIx (eB mIx (eV 4) (eK (.int 0))) (eK (.int 0))) aNil)) (eK .non)))
    sNil)
    (sSeq (sFor (iSeq (eB mIx (eV 4) (eK (.int 0)))) (tgN 7) (sFor (iSeq (eB mIx (eV 4) (eK (.int 1)))) (tgN 8) (sIf (tAnd (tOr (tE (eB mLt (eB mIx (eB mIx (eV 0) (eK (.str "ships"))) (eK (.int 0))) (eB mIx (eB mIx (eV 0) (eK (.str "ships"))) (eK (.int 1))))) (tE (eB (mLtT (.U .I)) (eV 7) (eV 8)))) (tE (eCallD 4 F__law_apart (aCons (eV 0) (aCons (eV 1) (aCons (eV 7) (aCons (eV 8) aNil)))))))
    (sRet (eTup (aCons (eV 7) (aCons (eV 8) aNil))))
    sNil)))
    (sRet (eK .non))))))))
def F__law_is_in : FM := runDef 6
  ((sSeq (sUnp [2, 3, 4, 5] (eV 0))
    (sRet (eIf (tE (eB mLt (eV 1) (eV 2))) (eB (mIn false) (eV 1) (eV 5)) (eB (mIn false) (eB mMod (eV 1) (eV 3)) (eV 4))))))
end Pg
end T_Pg4
section T_Ny9
set_option Elab.async false
set_option linter.all false
set_option maxRecDepth 100000
set_option maxHeartbeats 4000000
set_option pp.maxSteps 2000
namespace Ny
open PySem Gx Pg Mx
/-! ## ships put into a longer sea, and back -/
def cel (n f i : Nat) : Nat := (f + i) % n
def upC (P k c : Nat) : Nat := if c < k then c else c + P
def dnC (P k c : Nat) : Nat := if c < k then c else c - P
/-! ### ships -/
def okS (ring : Bool) (n L f : Nat) : Prop := if ring = true then f < n else f + L ≤ n
def frS (pts : List Pt) (n L f : Nat) : Prop := ∀ i < L, shot pts n (cel n f i) = false
def nxN (ring : Bool) (n x y : Nat) : Prop := (x + 1 = y ∨ y + 1 = x) ∨ (ring = true ∧ (x + n = y + 1 ∨ y + n = x + 1))
def apS (ring gap : Bool) (n a b f g : Nat) : Prop := ∀ i < a, ∀ j < b, cel n f i ≠ cel n g j ∧ (gap = true → ¬ nxN ring n (cel n f i) (cel n g j))
section
variable {pts : List Pt} {P n : Nat} {ring gap : Bool} (per : Per pts P)
include per
end
/-- where a ship forbids a cut -/
def forbU (n f L : Nat) : List Nat := (List.range (L - 1)).map fun i => cel n f i + 1
def forbD (N P f L : Nat) : List Nat := (List.range (P + L)).map fun m => (f + N - P + m) % N
section
variable {pts : List Pt} {P n : Nat} {ring gap : Bool} (per : Per pts P) (hn : 2 * P + 23 ≤ n)
include per hn
end
end Ny
end T_Ny9
section T_Ny10
set_option Elab.async false
set_option linter.all false
set_option maxRecDepth 100000
set_option maxHeartbeats 4000000
set_option pp.maxSteps 2000
namespace Ny
open PySem Gx Pg Mx
/-! ## the first pair -/
def pairF (ok : List Int → List Int → Bool) (A B : List (List Int)) : Option (List (List Int)) := A.findSome? fun one => (B.find? (ok one)).map fun two => [one, two]
section
variable {B : List (List Int)} {ok : List Int → List Int → Bool} {S : Option SV → Option SV → Sl} {own : Own} {i j : Nat} {src : IM} {p : SM}
end
/-! ## the first place -/
def okP (d : Fd) (n b : Nat) (one two : List Int) : Bool := later d b one two && canB d n one two
def freeM (d : Fd) (n : Nat) (shot : List Int) : Option (List (List Int)) := match d.b with
  | none => (spF d n d.a shot).head?.map fun c => [c]
  | some b => pairF (okP d n b) (spF d n d.a shot) (spF d n b shot)
def encP : Option (List (List Int)) → D
  | none => .non
  | some p => tT p
variable {d : Fd} {n : Nat}
end Ny
end T_Ny10
section T_Ny11
set_option Elab.async false
set_option linter.all false
set_option maxRecDepth 100000
set_option maxHeartbeats 4000000
set_option pp.maxSteps 2000
namespace Ny
open PySem Gx Pg Mx
/-! ## what comes round, as told_round tells it -/
section
variable (T : Nat → Bool) (S P : Nat)
def works (s : Nat) : Bool := decide (P % s = 0) && (List.range P).all fun i => T (S + i) == T (S + i + s)
def szN : Nat → Nat
  | 0 => P
  | k + 1 => if works T S P (P - k) = true then P - k else szN k
def szT : Nat := szN T S P P
def gsN (sz : Nat) : Nat → Nat
  | 0 => 0
  | k + 1 => if T k = T (k + sz) then gsN sz k else k + 1
def stT : Nat := gsN T (szT T S P) S
def remT : List Int := isort (((List.range (szT T S P)).filter fun i => T (stT T S P + i)).map fun i => (((stT T S P + i) % szT T S P : Nat) : Int))
def earT : List Int := ((List.range (stT T S P)).filter T).map fun n : Nat => (n : Int)
def toldT : D := .tup [.int (stT T S P), .int (szT T S P), tI (remT T S P), tI (earT T S P)]
def lsT (M : Nat) : D := .lst ((List.range M).map fun n => D.bl (T n))
end
section
variable {T : Nat → Bool} {S P : Nat}
section
variable (hP : 0 < P) (hper : ∀ n, S ≤ n → T (n + P) = T n)
include hP hper
end
/-! ### the run -/
def tS (T : Nat → Bool) (M S P : Nat) (start : Nat) (sz : Nat) (s4 s5 : Option SV) : Sl := [some (.d (lsT T M)), some (.d (.int start)), some (.d (.int P)), some (.d (.int sz)), s4, s5, none]
def szB : SM := (sIf (tAnd (tE (eB mEq (eB mMod (eV 2) (eV 4)) (eK (.int 0)))) (tE (eCB (m1 mAll) (aCons (eLC (iRg2 (aCons (eV 1) (aCons (eB mAdd (eV 1) (eV 2)) aNil))) [6] (tgN 6) tTrue (eB mEq (eB mIx (eV 0) (eV 6)) (eB mIx (eV 0) (eB mAdd (eV 6) (eV 4))))) aNil))))
    (sSet 3 (eV 4))
    sNil)
def goB : TM := (tAnd (tE (eB mGt (eV 1) (eK (.int 0)))) (tE (eB mEq (eB mIx (eV 0) (eB mSub (eV 1) (eK (.int 1)))) (eB mIx (eV 0) (eB mAdd (eB mSub (eV 1) (eK (.int 1))) (eV 3))))))
end
end Ny
end T_Ny11
section T_Ny12
set_option Elab.async false
set_option linter.all false
set_option maxRecDepth 100000
set_option maxHeartbeats 4000000
set_option pp.maxSteps 2000
namespace Ny
open PySem Gx Pg Mx
def fmP (d : Fd) (pts : List Pt) (n : Nat) : Option (List (List Int)) := freeM d n (cellsI pts n)
def tru (d : Fd) (pts : List Pt) (n : Nat) : Bool := (fmP d pts n).isNone
/-- there is a place without a shot cell -/
def Ex (d : Fd) (pts : List Pt) (n : Nat) : Prop := match d.b with
  | none => ∃ f, okS d.ring n d.a f ∧ frS pts n d.a f
  | some b => ∃ f g, okS d.ring n d.a f ∧ okS d.ring n b g ∧ frS pts n d.a f ∧ frS pts n b g ∧ apS d.ring d.gap n d.a b f g
end Ny
end T_Ny12
section T_Ny13
set_option Elab.async false
set_option linter.all false
set_option maxRecDepth 100000
set_option maxHeartbeats 4000000
set_option pp.maxSteps 2000
namespace Ny
open PySem Gx Pg Mx
section
variable {d : Fd} {pts : List Pt} (hd : d.ok) (ok : ∀ x ∈ pts, x.ok) (hl : pts.length ≤ 4)
def bS (pts : List Pt) : Nat := 2 * perN pts + 23
include ok in
include ok in
include hd ok hl
end
/-! ## the first escape -/
def escD (d : Fd) (pts : List Pt) (B : Nat) : D := match (List.range B).find? fun n => !tru d pts n with
  | none => .non
  | some n => .tup [.int n, encP (fmP d pts n)]
section
variable {d : Fd} {pts : List Pt} (hd : d.ok) (ok : ∀ x ∈ pts, x.ok) (hl : pts.length ≤ 4)
include hd ok hl
end
end Ny
end T_Ny13
section T_Ny14
set_option Elab.async false
set_option linter.all false
set_option maxRecDepth 100000
set_option maxHeartbeats 4000000
set_option pp.maxSteps 2000
namespace Ny
open PySem Gx Pg Mx
variable {d : Fd} {pts : List Pt} {n : Nat}
def fS (d : Fd) (n : Nat) (pts : List Pt) (s5 s6 s7 s8 : Option SV) : Sl := [some (.d d.dic), some (.d (.int n)), some (.d (tD pts)), some (.d (lI (cellsI pts n))), some (.h 0), s5, s6, s7, s8, none]
def frB : SM := (sSeq (sSet 6 (eCallD 3 F__law_spans (aCons (eV 0) (aCons (eV 1) (aCons (eV 5) aNil)))))
    (sExpr (eMut mmApp (eV 4) (aCons (eLC (iSeq (eV 6)) [9] (tgN 9) (tE (eCallD 2 F__law_is_free (aCons (eV 9) (aCons (eV 3) aNil)))) (eV 9)) aNil))))
def spL (d : Fd) (n : Nat) (pts : List Pt) (L : Nat) : D := .lst ((Mx.spF d n L (cellsI pts n)).map tI)
/-! ## is in -/
section
variable {T : Nat → Bool} {S P : Nat}
def inT (T : Nat → Bool) (S P n : Nat) : Bool := if n < stT T S P then decide ((n : Int) ∈ earT T S P) else decide (((n % szT T S P : Nat) : Int) ∈ remT T S P)
end
end Ny
end T_Ny14
section T_Pg6
set_option Elab.async false
set_option linter.all false
set_option maxRecDepth 100000
set_option maxHeartbeats 8000000
set_option pp.maxSteps 300
namespace Pg
open PySem Gx
def F__wall : FM := runDef 1
  ((whL (tE (eK (.bl true))) sNil 1000))
def F_places : FM := runDef 2
  ((sSeq (sExpr (eCallD 2 F_check_number (aCons (eV 1) (aCons (eK (.int 40)) aNil))))
    (sRet (eCallD 3 F_all_places (aCons (eV 0) (aCons (eV 1) (aCons eDic0 aNil)))))))
def F_is_over : FM := runDef 5
  ((sRet (eCB (m1 mAll) (aCons (eLC (iSeq (eV 0)) [2] (tgN 2) tTrue (eCB (m1 mAll) (aCons (eLC2 (iSeq (eV 2)) [3, 4] (tgN 3) tTrue (iSeq (eV 3)) [4] (tgN 4) tTrue (eB (mIn false) (eV 4) (eV 1))) aNil))) aNil))))
def F_Game_init : FM := runDef 3
  ((sSeq (sExpr (eCallD 2 F_check_number (aCons (eV 2) (aCons (eK (.int 40)) aNil))))
    (sSeq (sFldS 2 0 (eV 0) (eV 1))
    (sSeq (sFldS 2 1 (eV 0) (eV 2))
    (sSeq (sFldS 2 2 (eV 0) (eLstH aNil))
    (sSeq (sFldS 2 3 (eV 0) (eLstH (aCons (eCallD 3 F_all_places (aCons (eV 1) (aCons (eV 2) (aCons eDic0 aNil)))) aNil)))
    (sIf (tE (eB mEq (eB mIx (eFld 2 3 (eV 0)) (eK (.int 0))) (eLst aNil)))
    (sRaise 17 aNil)
    sNil)))))))
def F_Game_left : FM := runDef 1
  ((sRet (eCB (m1 mLen) (aCons (eB mIx (eFld 2 3 (eV 0)) (eU mNeg (eK (.int 1)))) aNil))))
def F__law_first_state : FM := runDef 1
  ((sRet (eB mAdd (eTup (aCons (eK (.int 0)) aNil)) (eB mRepT (eTup (aCons (eU mNeg (eK (.int 1))) aNil)) (eCB (m1 mLen) (aCons (eB mIx (eV 0) (eK (.str "ships"))) aNil))))))
def F__law_behind : FM := runDef 8
  ((sSeq (sSet 3 (eIf (tE (eV 2)) (eK (.int 0)) (eCB (m2 mMin2) (aCons (eB mAdd (eB mIx (eV 1) (eK (.int 0))) (eK (.int 1))) (aCons (eK (.int 4)) aNil)))))
    (sSeq (sSet 4 (eLCO (iSeq (eSl (eV 1) (oSo (eK (.int 1))) oNo)) [7] (tgN 7) tTrue (eIf (tE (eB mLt (eV 7) (eK (.int 0)))) (eV 7) (eCB (m2 mMin2) (aCons (eB mAdd (eV 7) (eK (.int 1))) (aCons (eK (.int 9)) aNil))))))
    (sSeq (sFor (iRg1 (aCons (eCB (m1 mLen) (aCons (eV 4) aNil)) aNil)) (tgN 5) (sIf (tAnd (tE (eB mGe (eV 3) (eB mIx (eB mIx (eV 0) (eK (.str "ships"))) (eV 5)))) (tE (eB mLt (eB mIx (eV 4) (eV 5)) (eK (.int 0)))))
    (sPutL (eV 4) (eV 5) (eK (.int 0)))
    sNil))
    (sSeq (sIf (tE (eB mEq (eCB (m1 mLen) (aCons (eV 4) aNil)) (eK (.int 1))))
    (sRet (eIf (tE (eB mGe (eB mIx (eV 4) (eK (.int 0))) (eK (.int 0)))) (eK .non) (eTup (aCons (eV 3) (aCons (eB mIx (eV 4) (eK (.int 0))) aNil)))))
    sNil)
    (sSeq (sFor (iRg1 (aCons (eK (.int 2)) aNil)) (tgN 5) (sSeq (sSet 6 (eB mIx (eB mIx (eV 0) (eK (.str "ships"))) (eB mSub (eK (.int 1)) (eV 5))))
    (sIf (tAnd (tE (eB mGe (eV 3) (eV 6))) (tE (eB mGe (eB mIx (eV 4) (eV 5)) (eB mAdd (eV 6) (eB mIx (eV 0) (eK (.str "gap")))))))
    (sRet (eK .non))
    sNil)))
    (sRet (eTup (aCons (eV 3) (aCons (eB mIx (eV 4) (eK (.int 0))) (aCons (eB mIx (eV 4) (eK (.int 1))) aNil)))))))))))
def F__law_row_numbers : FM := runDef 10
  ((sSeq (sPar [2, 3] (aCons (eDispN (eCallD 1 F__law_first_state (aCons (eV 0) aNil)) (eK (.int 0))) (aCons (eLstH aNil) aNil)))
    (sSeq (sFor (iRg1 (aCons (eB mAdd (eV 1) (eK (.int 1))) aNil)) (tgN 4) (sSeq (sExpr (eMut mmApp (eV 3) (aCons (eCB (m1 mMinL) (aCons (eLstVal (eV 2)) aNil)) aNil)))
    (sSeq (sSet 5 eDigH)
    (sSeq (sFor (iKeyN (eV 2)) (tgN 6) (sFor (iRg1 (aCons (eK (.int 2)) aNil)) (tgN 7) (sSeq (sSet 8 (eCallD 3 F__law_behind (aCons (eV 0) (aCons (eV 6) (aCons (eB mEq (eV 7) (eK (.int 1))) aNil)))))
    (sIf (tE (eB mNotN (eV 8) (eK .non)))
    (sSeq (sSet 9 (eB mAdd (eB mIxN (eV 2) (eV 6)) (eV 7)))
    (sPutN (eV 5) (eV 8) (eCB (m2 mMin2) (aCons (eGetN (eV 5) (eV 8) (eV 9)) (aCons (eV 9) aNil)))))
    sNil))))
    (sFrzN 5 (sSet 2 (eV 5)))))))
    (sRet (eV 3)))))
def F__law_room : FM := runDef 1
  ((sSeq (sIf (tE (eB mEq (eCB (m1 mLen) (aCons (eB mIx (eV 0) (eK (.str "ships"))) aNil)) (eK (.int 1))))
    (sRet (eB mIx (eB mIx (eV 0) (eK (.str "ships"))) (eK (.int 0))))
    sNil)
    (sRet (eB mAdd (eCB (m1 mSum) (aCons (eCB (m1 mLstC) (aCons (eB mIx (eV 0) (eK (.str "ships"))) aNil)) aNil)) (eB mMul (eB mIx (eV 0) (eK (.str "gap"))) (eIf (tE (eB mEq (eB mIx (eV 0) (eK (.str "shape"))) (eK (.str "ring")))) (eK (.int 2)) (eK (.int 1))))))))
def F__law_numbers : FM := runDef 4
  ((sSeq (sSet 2 (eCallD 2 F__law_row_numbers (aCons (eV 0) (aCons (eV 1) aNil))))
    (sSeq (sIf (tE (eB mEq (eB mIx (eV 0) (eK (.str "shape"))) (eK (.str "row"))))
    (sRet (eV 2))
    sNil)
    (sRet (eLC (iRg1 (aCons (eB mAdd (eV 1) (eK (.int 1))) aNil)) [3] (tgN 3) tTrue (eIf (tE (eB mLt (eV 3) (eCallD 1 F__law_room (aCons (eV 0) aNil)))) (eK (.int 0)) (eB mAdd (eK (.int 1)) (eB mIx (eV 2) (eB mSub (eV 3) (eK (.int 1)))))))))))
def F__law_seen : FM := runDef 12
  ((sSeq (sPar [3, 4, 5] (aCons (eCallD 2 F__law_places (aCons (eV 1) (aCons (eV 2) aNil))) (aCons (eLstH aNil) (aCons (eLstRH (rg1 (eV 2))) aNil))))
    (sSeq (sSet 6 (eIf (tE (eB mNe (eV 3) (eLst aNil))) (eB mIx (eV 3) (eCallZ 2 F__law_pick (aCons (eV 0) (aCons (eCB (m1 mLen) (aCons (eV 3) aNil)) aNil)))) (eTup aNil)))
    (sSeq (sFor (iRg1 (aCons (eCallZ 2 F__law_pick (aCons (eV 0) (aCons (eK (.int 7)) aNil))) aNil)) (tgN 7) (sIf (tE (eB mNe (eV 5) (eLst aNil)))
    (sSeq (sSet 8 (eMut mmPopAt (eV 5) (aCons (eCallZ 2 F__law_pick (aCons (eV 0) (aCons (eCB (m1 mLen) (aCons (eV 5) aNil)) aNil))) aNil)))
    (sSeq (sSet 9 (eCallD 3 F__law_word (aCons (eV 6) (aCons (eV 8) (aCons (eLCH 5000 (eV 4) [10, 11] (tgU [10, 11]) tTrue (eV 10)) aNil)))))
    (sSeq (sIf (tE (eB mEq (eCallZ 2 F__law_pick (aCons (eV 0) (aCons (eK (.int 12)) aNil))) (eK (.int 0))))
    (sSet 9 (eB mIx (eLst (aCons (eK (.str "miss")) (aCons (eK (.str "hit")) (aCons (eK (.str "sunk")) aNil)))) (eCallZ 2 F__law_pick (aCons (eV 0) (aCons (eK (.int 3)) aNil)))))
    sNil)
    (sExpr (eMut mmApp (eV 4) (aCons (eTup (aCons (eV 8) (aCons (eV 9) aNil))) aNil))))))
    sNil))
    (sRet (eV 4))))))
end Pg
end T_Pg6
section T_Dz1
set_option Elab.async false
set_option linter.all false
set_option maxRecDepth 100000
set_option maxHeartbeats 4000000
set_option pp.maxSteps 2000
namespace Dz
open PySem Gx Pg Mx Ny
/-! ## dicts keyed by states -/
section
variable {S β : Type} [DecidableEq S]
def look (s : S) : List (S × β) → Option β
  | [] => none
  | p :: r => if p.1 = s then some p.2 else look s r
def upd (s : S) (v : β) : List (S × β) → List (S × β)
  | [] => [(s, v)]
  | p :: r => if p.1 = s then (p.1, v) :: r else p :: upd s v r
theorem look_pos {s : S} {p : S × β} {r : List (S × β)} (h : p.1 = s) : look s (p :: r) = some p.2 := if_pos h
theorem look_neg {s : S} {p : S × β} {r : List (S × β)} (h : ¬ p.1 = s) : look s (p :: r) = look s r := if_neg h
theorem upd_pos {s : S} {v : β} {p : S × β} {r : List (S × β)} (h : p.1 = s) : upd s v (p :: r) = (p.1, v) :: r := if_pos h
theorem upd_neg {s : S} {v : β} {p : S × β} {r : List (S × β)} (h : ¬ p.1 = s) : upd s v (p :: r) = p :: upd s v r := if_neg h
theorem look_upd (s t : S) (v : β) : ∀ l : List (S × β), look t (upd s v l) = if s = t then some v else look t l
  | [] => by
    show (if s = t then some v else none) = _
    rfl
  | p :: r => by
    by_cases h : p.1 = s
    · rw [upd_pos h]
      by_cases h2 : s = t
      · rw [look_pos (show (p.1, v).1 = t from h.trans h2), if_pos h2]
      · rw [look_neg (show ¬ (p.1, v).1 = t from fun z => h2 (h.symm.trans z)), if_neg h2, look_neg (fun z => h2 (h.symm.trans z))]
    · rw [upd_neg h]
      by_cases h3 : p.1 = t
      · rw [look_pos h3, look_pos h3, if_neg (fun z => h (h3.trans z.symm))]
      · rw [look_neg h3, look_neg h3, look_upd]
theorem upd_len (s : S) (v : β) (l : List (S × β)) : (upd s v l).length ≤ l.length + 1 := by
  induction l with
  | nil => exact Nat.le_refl _
  | cons p r ih =>
    by_cases h : p.1 = s
    · rw [upd_pos h, List.length_cons, List.length_cons]; omega
    · rw [upd_neg h, List.length_cons, List.length_cons]; omega
/-- an encoding of states as keys -/
structure Enc (S : Type) where
  e : S → D
  k : S → NK
  nk : ∀ s, nkT (e s) = some (k s)
  inj : ∀ s t, k s = k t → s = t
variable (E : Enc S)
theorem eqK_enc (s t : S) : eqK (E.k s) (E.e t) = decide (t = s) := by
  have h := eqK_some (k := E.k s) (E.nk t)
  by_cases c : t = s
  · rw [decide_eq_true c]; exact h.mpr (by rw [c])
  · rw [decide_eq_false c]
    cases z : eqK (E.k s) (E.e t) with
    | false => rfl
    | true => exact absurd (E.inj _ _ (h.mp z)) c
def keyE (l : List (S × β)) : List D := l.map fun p => E.e p.1
def valE (f : β → D) (l : List (S × β)) : List D := l.map fun p => f p.2
theorem getN_enc (f : β → D) (s : S) : ∀ l : List (S × β), getN (E.k s) (keyE E l) (valE f l) = (look s l).map f
  | [] => rfl
  | p :: r => by
    show (if eqK (E.k s) (E.e p.1) = true then some (f p.2) else getN (E.k s) (keyE E r) (valE f r)) = _
    rw [eqK_enc]
    by_cases c : p.1 = s
    · rw [decide_eq_true c, if_pos rfl, look_pos c]; rfl
    · rw [decide_eq_false c, if_neg (by decide), look_neg c, getN_enc f s r]
theorem putND_enc (f : β → D) (s : S) (v : β) : ∀ l : List (S × β), putND (E.e s) (E.k s) (f v) (keyE E l) (valE f l) = (keyE E (upd s v l), valE f (upd s v l))
  | [] => rfl
  | p :: r => by
    show (if eqK (E.k s) (E.e p.1) = true then (E.e p.1 :: keyE E r, f v :: valE f r) else (E.e p.1 :: (putND (E.e s) (E.k s) (f v) (keyE E r) (valE f r)).1, f p.2 :: (putND (E.e s) (E.k s) (f v) (keyE E r) (valE f r)).2)) = _
    rw [eqK_enc]
    by_cases c : p.1 = s
    · rw [decide_eq_true c, if_pos rfl, upd_pos c]; rfl
    · rw [decide_eq_false c, if_neg (by decide), upd_neg c, putND_enc f s v r]; rfl
/-- the dict as locked data -/
def dicE (f : β → D) (l : List (S × β)) : D := .dic (.ty 6 :: keyE E l) (valE f l)
theorem ixN_own {own : Own} {k : Nat} {f : β → D} {l : List (S × β)} {s : S} {v : β} (hk : own[k]? = some (.dig (keyE E l) (valE f l))) (h : look s l = some v) : mIxN own (.h k) (.d (E.e s)) = some (f v) := by
  unfold mIxN digV
  simp only [hk, Option.bind_some, E.nk, getN_enc, h, Option.map_some]
theorem inN_own {own : Own} {k : Nat} {f : β → D} {l : List (S × β)} {s : S} {neg : Bool} (hk : own[k]? = some (.dig (keyE E l) (valE f l))) : mInN neg own (.d (E.e s)) (.h k) = some (.bl ((look s l).isSome != neg)) := by
  unfold mInN digV
  simp only [hk, Option.bind_some, E.nk, getN_enc, Option.map_some, Option.isSome_map]
theorem keyE_len (l : List (S × β)) : (keyE E l).length = l.length := by simp [keyE]
end
end Dz
end T_Dz1
section T_L11a
set_option Elab.async false
set_option linter.all false
set_option maxRecDepth 100000
set_option maxHeartbeats 8000000
set_option pp.maxSteps 300
namespace K11
open PySem PySem.Spec PyProof.Rows L2 Gx Pg

def top (i : Nat) : Stmt := PySem.Challenge.pw_shipsrow_k11_whole_sinking.main.body.getD i (.Pass ⟨0, 0, 0, 0⟩)
abbrev LO : List Nat := [0]
/-- what the written part says -/
structure Facts (K : PySem.W.Frag) (mg : Str → Option Value) (ct : Nat → Addr) : Prop where
  b_abs : mg "abs" = none
  b_all : mg "all" = none
  b_any : mg "any" = none
  b_bool : mg "bool" = none
  b_int : mg "int" = none
  b_isinstance : mg "isinstance" = none
  b_len : mg "len" = none
  b_max : mg "max" = none
  b_min : mg "min" = none
  b_range : mg "range" = none
  b_sorted : mg "sorted" = none
  b_str : mg "str" = none
  b_tuple : mg "tuple" = none
  c_HIT : ∃ t, mg "HIT" = some (.str "hit" t)
  c_MISS : ∃ t, mg "MISS" = some (.str "miss" t)
  c_MOST_LENGTH : ∃ t, mg "MOST_LENGTH" = some (.int 4 t)
  c_MOST_SINK : ∃ t, mg "MOST_SINK" = some (.int 6 t)
  c_RING : ∃ t, mg "RING" = some (.str "ring" t)
  c_ROW : ∃ t, mg "ROW" = some (.str "row" t)
  c_SHAPES : TupC K mg "SHAPES" ["ring", "row"]
  c_SUNK : ∃ t, mg "SUNK" = some (.str "sunk" t)
  k0 : Cls K (ct 0)
  k4 : Cls K (ct 4)
  n0_form : NoAttr K (ct 0) "form"
  n0_lengths : NoAttr K (ct 0) "lengths"
  n0_room : NoAttr K (ct 0) "room"
  n4_known : NoAttr K (ct 4) "known"
  n4_many : NoAttr K (ct 4) "many"
section
variable {P : Program} {w : World} {K : PySem.W.Frag} {mg : Str → Option Value} {base : Heap} {ct : Nat → Addr}
theorem sc_is_integer : FnScope ["value"] ["value"] (defScope (top 11)) := ⟨rfl, rfl, rfl, by decide +kernel, rfl, by decide +kernel, by decide +kernel⟩
theorem ok_is_integer {f : Addr} {fd : FuncData} (M : Facts K mg ct)  (F : Fun K "is_integer" "is_integer" (top 11) f fd) :
    FnOk P w K mg base (L2.CX P w) 1 f fd ["value"] (spF ⟨K, ct⟩ 1 F_is_integer) :=
  def_ok2 (k := 0) F sc_is_integer rfl fun cdv A outer s H E B hr tk po cx =>
    (rss_one (rs_ret (r_and (r_cb call_isi ob_isi M.b_isinstance (ra_cons (r_v 0 (pv 0)) (ra_cons (r_ty 0 M.b_int) ra_nil))) (r_one (r_not (r_cb call_isi ob_isi M.b_isinstance (ra_cons (r_v 0 (pv 0)) (ra_cons (r_ty 1 M.b_bool) ra_nil))))))))
theorem sc_is_from : FnScope ["value", "low", "high"] ["value", "low", "high"] (defScope (top 12)) := ⟨rfl, rfl, rfl, by decide +kernel, rfl, by decide +kernel, by decide +kernel⟩
theorem ok_is_from {f : Addr} {fd : FuncData} (M : Facts K mg ct) (c_is_integer : Cal P w K mg base ⟨K, ct⟩ 1 "is_integer" 1 F_is_integer) (F : Fun K "is_from" "is_from" (top 12) f fd) :
    FnOk P w K mg base (L2.CX P w) 2 f fd ["value", "low", "high"] (spF ⟨K, ct⟩ 3 F_is_from) :=
  def_ok2 (k := 1) F sc_is_from rfl fun cdv A outer s H E B hr tk po cx =>
    (rss_one (rs_ret (r_and (r_call c_is_integer hr (by decide) cx (ra_cons (r_v 0 (pv 0)) ra_nil)) (r_one (r_ch op_le o2_le op_le o2_le (r_v 1 (pv 1)) (r_v 0 (pv 0)) (r_v 2 (pv 2)))))))
theorem sc_is_one_of : FnScope ["value", "some"] ["value", "some"] (defScope (top 13)) := ⟨rfl, rfl, rfl, by decide +kernel, rfl, by decide +kernel, by decide +kernel⟩
theorem ok_is_one_of {f : Addr} {fd : FuncData} (M : Facts K mg ct)  (F : Fun K "is_one_of" "is_one_of" (top 13) f fd) :
    FnOk P w K mg base (L2.CX P w) 1 f fd ["value", "some"] (spF ⟨K, ct⟩ 2 F_is_one_of) :=
  def_ok2 (k := 0) F sc_is_one_of rfl fun cdv A outer s H E B hr tk po cx =>
    (rss_one (rs_ret (r_and (r_cb call_isi ob_isi M.b_isinstance (ra_cons (r_v 0 (pv 0)) (ra_cons (r_ty 2 M.b_str) ra_nil))) (r_one (r_cmp (op_inA hr.u65) o2_in (r_v 0 (pv 0)) (r_v 1 (pv 1)) (by rfl))))))
theorem sc_Fleet_init : FnScope ["self", "shape", "ships", "gap", "length"] ["self", "shape", "ships", "gap"] (defScope (inClass (top 14) 0)) := ⟨rfl, rfl, rfl, by decide +kernel, rfl, by decide +kernel, by decide +kernel⟩
theorem ok_Fleet_init {f : Addr} {fd : FuncData} (M : Facts K mg ct) (c_is_one_of : Cal P w K mg base ⟨K, ct⟩ 1 "is_one_of" 2 F_is_one_of) (c_is_from : Cal P w K mg base ⟨K, ct⟩ 2 "is_from" 3 F_is_from) (x_BadGap : Xc P w K mg base "BadGap" (ct 12) (flds 12)) (x_BadShape : Xc P w K mg base "BadShape" (ct 10) (flds 10)) (x_BadShips : Xc P w K mg base "BadShips" (ct 11) (flds 11)) (F : Fun K "__init__" "Fleet.__init__" (inClass (top 14) 0) f fd) :
    FnOk P w K mg base (L2.CX P w) 3 f fd ["self", "shape", "ships", "gap"] (spF ⟨K, ct⟩ 4 F_Fleet_init) :=
  def_ok2 (k := 2) F sc_Fleet_init rfl fun cdv A outer s H E B hr tk po cx =>
    (rss_cons (rs_if (rt_not (rt_val (r_call c_is_one_of hr (by decide) cx (ra_cons (r_v 1 (pv 1)) (ra_cons (r_gt M.c_SHAPES) ra_nil)))))
      (rss_one (rs_raise0 x_BadShape (by decide) (hr.mono (by decide)) rfl tk))
      rss_nil)
      (rss_cons (rs_if ((rw_or (rt_not (rt_val (r_cb call_isi ob_isi M.b_isinstance (ra_cons (r_v 2 (pv 2)) (ra_cons (r_ty 3 M.b_tuple) ra_nil))))) (rw_or1 (rt_not (rt_ch op_le o2_le op_le o2_le r_int (r_cb call_lenA ob_len M.b_len (ra_cons (r_v 2 (pv 2)) ra_nil)) r_int))))).pt
      (rss_one (rs_raise0 x_BadShips (by decide) (hr.mono (by decide)) rfl tk))
      rss_nil)
      (rss_cons (rs_if ((rw_or (rt_not (rt_val (r_cb (cr_all rfl) ob_all M.b_all (ra_cons (r_lc sc_Fleet_init.nd (ri_seq (r_v 2 (pv 2))) (blkOk_by (own := [(("length" : Str), 4)]) rfl) (fun _ _ _ _ _ => pg_name (i := 4) sc_Fleet_init.nd rfl (by first | exact Or.inl rfl | exact Or.inr rfl)) (og_n 4) (by decide) (fun _ _ _ _ _ _ => rpt_nil) (fun _ _ _ _ _ _ => (r_call c_is_from hr (by decide) cx_blk (ra_cons (r_v 4 (pv 4)) (ra_cons r_int (ra_cons (r_ci 4 M.c_MOST_LENGTH) ra_nil)))))) ra_nil)))) (rw_or1 (rt_cmp op_gt o2_gt (r_ix (ix_A hr.u1) o2_ix (r_v 2 (pv 2)) r_int) (r_ix (ix_A hr.u1) o2_ix (r_v 2 (pv 2)) (r_neg r_int)) (nomark _))))).pt
      (rss_one (rs_raise0 x_BadShips (by decide) (hr.mono (by decide)) rfl tk))
      rss_nil)
      (rss_cons (rs_if (rt_not (rt_val (r_call c_is_from hr (by decide) cx (ra_cons (r_v 3 (pv 3)) (ra_cons r_int (ra_cons r_int ra_nil))))))
      (rss_one (rs_raise0 x_BadGap (by decide) (hr.mono (by decide)) rfl tk))
      rss_nil)
      (rss_cons (rs_fld 0 0 M.k0 M.n0_form (r_v 0 (pv 0)) (r_v 1 (pv 1)))
      (rss_cons (rs_fld 0 1 M.k0 M.n0_lengths (r_v 0 (pv 0)) (r_v 2 (pv 2)))
      (rss_one (rs_fld 0 2 M.k0 M.n0_room (r_v 0 (pv 0)) (r_v 3 (pv 3))))))))))
theorem sc_check_number : FnScope ["value", "high"] ["value", "high"] (defScope (top 15)) := ⟨rfl, rfl, rfl, by decide +kernel, rfl, by decide +kernel, by decide +kernel⟩
theorem ok_check_number {f : Addr} {fd : FuncData} (M : Facts K mg ct) (c_is_from : Cal P w K mg base ⟨K, ct⟩ 2 "is_from" 3 F_is_from) (x_BadNumber : Xc P w K mg base "BadNumber" (ct 13) (flds 13)) (F : Fun K "check_number" "check_number" (top 15) f fd) :
    FnOk P w K mg base (L2.CX P w) 3 f fd ["value", "high"] (spF ⟨K, ct⟩ 2 F_check_number) :=
  def_ok2 (k := 2) F sc_check_number rfl fun cdv A outer s H E B hr tk po cx =>
    (rss_one (rs_if (rt_not (rt_val (r_call c_is_from hr (by decide) cx (ra_cons (r_v 0 (pv 0)) (ra_cons r_int (ra_cons (r_v 1 (pv 1)) ra_nil))))))
      (rss_one (rs_raise0 x_BadNumber (by decide) (hr.mono (by decide)) rfl tk))
      rss_nil))
theorem sc_spans : FnScope ["fleet", "n", "length", "shot", "some", "many", "first", "at", "cells", "cell"] ["fleet", "n", "length", "shot"] (defScope (top 16)) := ⟨rfl, rfl, rfl, by decide +kernel, rfl, by decide +kernel, by decide +kernel⟩
theorem ok_spans {f : Addr} {fd : FuncData} (M : Facts K mg ct)  (F : Fun K "spans" "spans" (top 16) f fd) :
    FnOk P w K mg base (L2.CX P w) 1 f fd ["fleet", "n", "length", "shot"] (spF ⟨K, ct⟩ 4 F_spans) :=
  def_ok2 (k := 0) F sc_spans rfl fun cdv A outer s H E B hr tk po cx =>
    (rss_cons (rs_if (rt_cmp (op_eqD hr.u64) o2_eq (r_fld 0 0 M.k0 M.n0_form (r_v 0 (pv 0))) (r_cs "row" M.c_ROW) (nomark _))
      (rss_one (rs_setLc sc_spans.nd (ri_rg1 M.b_range (ra_cons (r_bin op_addA o2_add (r_sub (r_v 1 (pv 1)) (r_v 2 (pv 2))) r_int) ra_nil)) (blkOk_by (own := [(("first" : Str), 6)]) rfl) (fun _ _ _ _ _ => pg_name (i := 6) sc_spans.nd rfl (by first | exact Or.inl rfl | exact Or.inr rfl)) (og_n 6) (by decide) (fun _ _ _ _ _ _ => rpt_nil) (fun _ _ _ _ _ _ => (r_tupR M.b_tuple (rr_2 M.b_range (r_v 6 (pv 6)) (r_bin op_addA o2_add (r_v 6 (pv 6)) (r_v 2 (pv 2))))))))
      (rss_cons (rs_set sc_spans.nd (r_if (rt_cmp op_gt o2_gt (r_v 2 (pv 2)) (r_v 1 (pv 1)) (nomark _)) r_int (r_if (rt_cmp (op_eqD hr.u64) o2_eq (r_v 2 (pv 2)) (r_v 1 (pv 1)) (nomark _)) r_int (r_v 1 (pv 1)))))
      (rss_one (rs_set sc_spans.nd (r_cb (call_sortT .UI hr.u80) ob_sortT M.b_sorted (ra_cons (r_lc sc_spans.nd (ri_rg1 M.b_range (ra_cons (r_v 5 (pv 5)) ra_nil)) (blkOk_by (own := [(("first" : Str), 6)]) rfl) (fun _ _ _ _ _ => pg_name (i := 6) sc_spans.nd rfl (by first | exact Or.inl rfl | exact Or.inr rfl)) (og_n 6) (by decide) (fun _ _ _ _ _ _ => rpt_nil) (fun _ _ _ _ _ _ => (r_ct call_tuple_of ob_tup M.b_tuple (ra_cons (r_cb cr_sortedI ob_sortI M.b_sorted (ra_cons (r_lc sc_spans.nd (ri_rg1 M.b_range (ra_cons (r_v 2 (pv 2)) ra_nil)) (blkOk_by (own := [(("at" : Str), 7)]) rfl) (fun _ _ _ _ _ => pg_name (i := 7) sc_spans.nd rfl (by first | exact Or.inl rfl | exact Or.inr rfl)) (og_n 7) (by decide) (fun _ _ _ _ _ _ => rpt_nil) (fun _ _ _ _ _ _ => (r_mod (r_bin op_addA o2_add (r_v 6 (pv 6)) (r_v 7 (pv 7))) (r_v 1 (pv 1))))) ra_nil)) ra_nil)))) ra_nil))))))
      (rss_one (rs_ret (r_lc sc_spans.nd (ri_seq (r_v 4 (pv 4))) (blkOk_by (own := [(("cells" : Str), 8)]) rfl) (fun _ _ _ _ _ => pg_name (i := 8) sc_spans.nd rfl (by first | exact Or.inl rfl | exact Or.inr rfl)) (og_n 8) (by decide) (fun _ _ _ _ _ _ => (rpt_one (rt_not (rt_val (r_cb (cr_any rfl) ob_any M.b_any (ra_cons (r_lc sc_spans.nd (ri_seq (r_v 8 (pv 8))) (blkOk_by (own := [(("cell" : Str), 9)]) rfl) (fun _ _ _ _ _ => pg_name (i := 9) sc_spans.nd rfl (by first | exact Or.inl rfl | exact Or.inr rfl)) (og_n 9) (by decide) (fun _ _ _ _ _ _ => rpt_nil) (fun _ _ _ _ _ _ => (r_cmp (op_inA hr.u65) o2_in (r_v 9 (pv 9)) (r_v 3 (pv 3)) (by rfl)))) ra_nil)))))) (fun _ _ _ _ _ _ => (r_v 8 (pv 8)))))))
theorem sc_are_next : FnScope ["fleet", "n", "one", "other"] ["fleet", "n", "one", "other"] (defScope (top 17)) := ⟨rfl, rfl, rfl, by decide +kernel, rfl, by decide +kernel, by decide +kernel⟩
theorem ok_are_next {f : Addr} {fd : FuncData} (M : Facts K mg ct)  (F : Fun K "are_next" "are_next" (top 17) f fd) :
    FnOk P w K mg base (L2.CX P w) 1 f fd ["fleet", "n", "one", "other"] (spF ⟨K, ct⟩ 4 F_are_next) :=
  def_ok2 (k := 0) F sc_are_next rfl fun cdv A outer s H E B hr tk po cx =>
    (rss_one (rs_ret (r_or (r_cmp (op_eqD hr.u64) o2_eq (r_cb call_abs ob_abs M.b_abs (ra_cons (r_sub (r_v 2 (pv 2)) (r_v 3 (pv 3))) ra_nil)) r_int (nomark _)) (r_one (r_and (r_cmp (op_eqD hr.u64) o2_eq (r_fld 0 0 M.k0 M.n0_form (r_v 0 (pv 0))) (r_cs "ring" M.c_RING) (nomark _)) (r_one (r_cmp (op_eqD hr.u64) o2_eq (r_cb call_abs ob_abs M.b_abs (ra_cons (r_sub (r_v 2 (pv 2)) (r_v 3 (pv 3))) ra_nil)) (r_sub (r_v 1 (pv 1)) r_int) (nomark _))))))))
theorem sc_can_both : FnScope ["fleet", "n", "one", "other", "cell", "far"] ["fleet", "n", "one", "other"] (defScope (top 18)) := ⟨rfl, rfl, rfl, by decide +kernel, rfl, by decide +kernel, by decide +kernel⟩
theorem ok_can_both {f : Addr} {fd : FuncData} (M : Facts K mg ct) (c_are_next : Cal P w K mg base ⟨K, ct⟩ 1 "are_next" 4 F_are_next) (F : Fun K "can_both" "can_both" (top 18) f fd) :
    FnOk P w K mg base (L2.CX P w) 2 f fd ["fleet", "n", "one", "other"] (spF ⟨K, ct⟩ 4 F_can_both) :=
  def_ok2 (k := 1) F sc_can_both rfl fun cdv A outer s H E B hr tk po cx =>
    (rss_cons (rs_if (rt_val (r_cb (cr_any rfl) ob_any M.b_any (ra_cons (r_lc sc_can_both.nd (ri_seq (r_v 2 (pv 2))) (blkOk_by (own := [(("cell" : Str), 4)]) rfl) (fun _ _ _ _ _ => pg_name (i := 4) sc_can_both.nd rfl (by first | exact Or.inl rfl | exact Or.inr rfl)) (og_n 4) (by decide) (fun _ _ _ _ _ _ => rpt_nil) (fun _ _ _ _ _ _ => (r_cmp (op_inA hr.u65) o2_in (r_v 4 (pv 4)) (r_v 3 (pv 3)) (by rfl)))) ra_nil)))
      (rss_one (rs_ret r_bl))
      rss_nil)
      (rss_one (rs_ret (r_or (r_cmp (op_eqD hr.u64) o2_eq (r_fld 0 2 M.k0 M.n0_room (r_v 0 (pv 0))) r_int (nomark _)) (r_one (r_not (r_cb (cr_any rfl) ob_any M.b_any (ra_cons (r_lc2 sc_can_both.nd (ri_seq (r_v 2 (pv 2))) (blkOk_by (own := [(("cell" : Str), 4), (("far" : Str), 5)]) rfl) (fun _ _ _ _ _ => pg_name (i := 4) sc_can_both.nd rfl (by first | exact Or.inl rfl | exact Or.inr rfl)) (og_n 4) (by decide) (fun _ _ _ _ _ _ => rpt_nil) (fun _ _ _ _ _ _ => (ri_seq (r_v 3 (pv 3)))) (by decide) (fun _ _ _ _ _ => pg_name (i := 5) sc_can_both.nd rfl (by first | exact Or.inl rfl | exact Or.inr rfl)) (og_n 5) (by decide) (fun _ _ _ _ _ _ => rpt_nil) (fun _ _ _ _ _ _ => (r_call c_are_next hr (by decide) cx_blk (ra_cons (r_v 0 (pv 0)) (ra_cons (r_v 1 (pv 1)) (ra_cons (r_v 4 (pv 4)) (ra_cons (r_v 5 (pv 5)) ra_nil))))))) ra_nil))))))))
theorem sc_all_places : FnScope ["fleet", "n", "shot", "firsts", "seconds", "is_same", "found", "one", "some", "other"] ["fleet", "n", "shot"] (defScope (top 19)) := ⟨rfl, rfl, rfl, by decide +kernel, rfl, by decide +kernel, by decide +kernel⟩
theorem ok_all_places {f : Addr} {fd : FuncData} (M : Facts K mg ct) (c_spans : Cal P w K mg base ⟨K, ct⟩ 1 "spans" 4 F_spans) (c_can_both : Cal P w K mg base ⟨K, ct⟩ 2 "can_both" 4 F_can_both) (F : Fun K "all_places" "all_places" (top 19) f fd) :
    FnOk P w K mg base (L2.CX P w) 3 f fd ["fleet", "n", "shot"] (spF ⟨K, ct⟩ 3 F_all_places) :=
  def_ok2 (k := 2) F sc_all_places rfl fun cdv A outer s H E B hr tk po cx =>
    (rss_cons (rs_set sc_all_places.nd (r_call c_spans hr (by decide) cx (ra_cons (r_v 0 (pv 0)) (ra_cons (r_v 1 (pv 1)) (ra_cons (r_ix (ix_A hr.u1) o2_ix (r_fld 0 1 M.k0 M.n0_lengths (r_v 0 (pv 0))) r_int) (ra_cons (r_v 2 (pv 2)) ra_nil))))))
      (rss_cons (rs_if (rt_cmp (op_eqD hr.u64) o2_eq (r_cb call_lenA ob_len M.b_len (ra_cons (r_fld 0 1 M.k0 M.n0_lengths (r_v 0 (pv 0))) ra_nil)) r_int (nomark _))
      (rss_one (rs_ret (r_lc sc_all_places.nd (ri_seq (r_v 3 (pv 3))) (blkOk_by (own := [(("one" : Str), 7)]) rfl) (fun _ _ _ _ _ => pg_name (i := 7) sc_all_places.nd rfl (by first | exact Or.inl rfl | exact Or.inr rfl)) (og_n 7) (by decide) (fun _ _ _ _ _ _ => rpt_nil) (fun _ _ _ _ _ _ => (r_tup (ra_cons (r_v 7 (pv 7)) ra_nil))))))
      rss_nil)
      (rss_cons (rs_set sc_all_places.nd (r_call c_spans hr (by decide) cx (ra_cons (r_v 0 (pv 0)) (ra_cons (r_v 1 (pv 1)) (ra_cons (r_ix (ix_A hr.u1) o2_ix (r_fld 0 1 M.k0 M.n0_lengths (r_v 0 (pv 0))) r_int) (ra_cons (r_v 2 (pv 2)) ra_nil))))))
      (rss_cons (rs_set sc_all_places.nd (r_cmp (op_eqD hr.u64) o2_eq (r_ix (ix_A hr.u1) o2_ix (r_fld 0 1 M.k0 M.n0_lengths (r_v 0 (pv 0))) r_int) (r_ix (ix_A hr.u1) o2_ix (r_fld 0 1 M.k0 M.n0_lengths (r_v 0 (pv 0))) r_int) (nomark _)))
      (rss_cons (rs_set sc_all_places.nd (r_lstH ra_nil))
      (rss_cons (rs_for po (ri_seq (r_v 3 (pv 3))) (pg_name (i := 7) sc_all_places.nd rfl (by first | exact Or.inl rfl | exact Or.inr rfl)) (og_n 7) (rss_cons (rs_setLc sc_all_places.nd (ri_seq (r_v 4 (pv 4))) (blkOk_by (own := [(("other" : Str), 9)]) rfl) (fun _ _ _ _ _ => pg_name (i := 9) sc_all_places.nd rfl (by first | exact Or.inl rfl | exact Or.inr rfl)) (og_n 9) (by decide) (fun _ _ _ _ _ _ => (rpt_one ((rw_or (rt_not (rt_val (r_v 5 (pv 5)))) (rw_or1 (rt_cmp (op_ltS hr.u64) o2_ltS (r_v 7 (pv 7)) (r_v 9 (pv 9)) (nomark _))))).pt)) (fun _ _ _ _ _ _ => (r_v 9 (pv 9))))
      (rss_one (rs_expr (r_mut PySem.F.slot_list_extend PySem.F.type_list_extend mt_extend om_ext (r_v 6 (pv 6)) (ra_cons (r_lc sc_all_places.nd (ri_seq (r_v 8 (pv 8))) (blkOk_by (own := [(("other" : Str), 9)]) rfl) (fun _ _ _ _ _ => pg_name (i := 9) sc_all_places.nd rfl (by first | exact Or.inl rfl | exact Or.inr rfl)) (og_n 9) (by decide) (fun _ _ _ _ _ _ => (rpt_one (rt_val (r_call c_can_both hr (by decide) cx_blk (ra_cons (r_v 0 (pv 0)) (ra_cons (r_v 1 (pv 1)) (ra_cons (r_v 7 (pv 7)) (ra_cons (r_v 9 (pv 9)) ra_nil)))))))) (fun _ _ _ _ _ _ => (r_tup (ra_cons (r_v 7 (pv 7)) (ra_cons (r_v 9 (pv 9)) ra_nil))))) ra_nil))))))
      (rss_one (rs_ret (r_v 6 (pv 6))))))))))
theorem sc_word_at : FnScope ["place", "cell", "shot", "ship", "one"] ["place", "cell", "shot"] (defScope (top 24)) := ⟨rfl, rfl, rfl, by decide +kernel, rfl, by decide +kernel, by decide +kernel⟩
theorem ok_word_at {f : Addr} {fd : FuncData} (M : Facts K mg ct)  (F : Fun K "word_at" "word_at" (top 24) f fd) :
    FnOk P w K mg base (L2.CX P w) 1 f fd ["place", "cell", "shot"] (spF ⟨K, ct⟩ 3 F_word_at) :=
  def_ok2 (k := 0) F sc_word_at rfl fun cdv A outer s H E B hr tk po cx =>
    (rss_cons (rs_for po (ri_seq (r_v 0 (pv 0))) (pg_name (i := 3) sc_word_at.nd rfl (by first | exact Or.inl rfl | exact Or.inr rfl)) (og_n 3) (rss_one (rs_if (rt_cmp (op_inA hr.u65) o2_in (r_v 1 (pv 1)) (r_v 3 (pv 3)) (by rfl))
      (rss_one (rs_ret (r_if (rt_val (r_cb (cr_all rfl) ob_all M.b_all (ra_cons (r_lc sc_word_at.nd (ri_seq (r_v 3 (pv 3))) (blkOk_by (own := [(("one" : Str), 4)]) rfl) (fun _ _ _ _ _ => pg_name (i := 4) sc_word_at.nd rfl (by first | exact Or.inl rfl | exact Or.inr rfl)) (og_n 4) (by decide) (fun _ _ _ _ _ _ => rpt_nil) (fun _ _ _ _ _ _ => (r_or (r_cmp (op_eqD hr.u64) o2_eq (r_v 4 (pv 4)) (r_v 1 (pv 1)) (nomark _)) (r_one (r_cmp (op_inA hr.u65) o2_in (r_v 4 (pv 4)) (r_v 2 (pv 2)) (by rfl)))))) ra_nil))) (r_cs "sunk" M.c_SUNK) (r_cs "hit" M.c_HIT))))
      rss_nil)))
      (rss_one (rs_ret (r_cs "miss" M.c_MISS))))
theorem sc_parted : FnScope ["some", "cell", "shot", "found", "place"] ["some", "cell", "shot"] (defScope (top 25)) := ⟨rfl, rfl, rfl, by decide +kernel, rfl, by decide +kernel, by decide +kernel⟩
theorem ok_parted {f : Addr} {fd : FuncData} (M : Facts K mg ct) (c_word_at : Cal P w K mg base ⟨K, ct⟩ 1 "word_at" 3 F_word_at) (F : Fun K "parted" "parted" (top 25) f fd) :
    FnOk P w K mg base (L2.CX P w) 2 f fd ["some", "cell", "shot"] (spF ⟨K, ct⟩ 3 F_parted) :=
  def_ok2 (k := 1) F sc_parted rfl fun cdv A outer s H E B hr tk po cx =>
    (rss_cons (rs_set sc_parted.nd r_dicH)
      (rss_cons (rs_for po (ri_seq (r_v 0 (pv 0))) (pg_name (i := 4) sc_parted.nd rfl (by first | exact Or.inl rfl | exact Or.inr rfl)) (og_n 4) (rss_one (rs_expr (r_mut PySem.F.slot_list_append PySem.F.type_list_append mt_append om_app (r_setd (r_v 3 (pv 3)) (r_call c_word_at hr (by decide) cx (ra_cons (r_v 4 (pv 4)) (ra_cons (r_v 1 (pv 1)) (ra_cons (r_v 2 (pv 2)) ra_nil)))) (r_lstH ra_nil)) (ra_cons (r_v 4 (pv 4)) ra_nil)))))
      (rss_frzD 3 (rss_one (rs_ret (r_v 3 (pv 3)))))))
theorem sc_Sinking_init : FnScope ["self", "n"] ["self", "n"] (defScope (inClass (top 28) 0)) := ⟨rfl, rfl, rfl, by decide +kernel, rfl, by decide +kernel, by decide +kernel⟩
def F_Sinking_init : FM := runDef 2
  ((sSeq (sFldS 4 0 (eV 0) (eV 1))
    (sFldS 4 1 (eV 0) eDigH)))
theorem ok_Sinking_init {f : Addr} {fd : FuncData} (M : Facts K mg ct)  (F : Fun K "__init__" "Sinking.__init__" (inClass (top 28) 0) f fd) :
    FnOk P w K mg base (L2.CX P w) 1 f fd ["self", "n"] (spF ⟨K, ct⟩ 2 F_Sinking_init) :=
  def_ok2 (k := 0) F sc_Sinking_init rfl fun cdv A outer s H E B hr tk po cx =>
    (rss_cons (rs_fld 4 0 M.k4 M.n4_many (r_v 0 (pv 0)) (r_v 1 (pv 1)))
      (rss_one (rs_fld 4 1 M.k4 M.n4_known (r_v 0 (pv 0)) r_digH)))
theorem sc_Sinking_worst : FnScope ["self", "some", "shot", "cell", "later", "rest"] ["self", "some", "shot", "cell"] (defScope (inClass (top 28) 2)) := ⟨rfl, rfl, rfl, by decide +kernel, rfl, by decide +kernel, by decide +kernel⟩
def F_Sinking_worstO (FR_Sinking_best : FM) : FM := runDef 6
  ((sSeq (sSet 4 (eCpyK (eV 2) (eV 3) (eK (.bl true))))
    (sRet (eCB (m1 mMaxL) (aCons (eLC (iVal (eCallD 3 F_parted (aCons (eV 1) (aCons (eV 3) (aCons (eV 2) aNil))))) [5] (tgN 5) tTrue (eMethW 4 3 FR_Sinking_best (eV 0) (aCons (eV 5) (aCons (eV 4) aNil)))) aNil)))))
theorem ok_Sinking_worst {f : Addr} {fd : FuncData} {m : Nat} {FR_Sinking_best : FM} (M : Facts K mg ct) (c_parted : Cal P w K mg base ⟨K, ct⟩ 2 "parted" 3 F_parted) (mw_Sinking_best : Mw P w K mg base ⟨K, ct⟩ (m + 10) 4 "best" 3 FR_Sinking_best) (F : Fun K "worst" "Sinking.worst" (inClass (top 28) 2) f fd) :
    FnOk P w K mg base (L2.CX P w) (m + 10 + 1) f fd ["self", "some", "shot", "cell"] (spF ⟨K, ct⟩ 4 (F_Sinking_worstO FR_Sinking_best)) :=
  def_ok2 (k := m + 10) F sc_Sinking_worst rfl fun cdv A outer s H E B hr tk po cx =>
    (rss_cons (rs_set sc_Sinking_worst.nd (r_cpyK (fun _ => (r_v 2 (pv 2))) (fun _ => (r_v 3 (pv 3))) (fun _ => r_bl)))
      (rss_one (rs_ret (r_cb (cr_max rfl) ob_maxL M.b_max (ra_cons (r_lc sc_Sinking_worst.nd (ri_values (r_call c_parted hr (by omega) cx (ra_cons (r_v 1 (pv 1)) (ra_cons (r_v 3 (pv 3)) (ra_cons (r_v 2 (pv 2)) ra_nil))))) (blkOk_by (own := [(("rest" : Str), 5)]) rfl) (fun _ _ _ _ _ => pg_name (i := 5) sc_Sinking_worst.nd rfl (by first | exact Or.inl rfl | exact Or.inr rfl)) (og_n 5) (by decide) (fun _ _ _ _ _ _ => rpt_nil) (fun _ _ _ _ _ _ => (r_methW mw_Sinking_best hr (by omega) cx_blk (r_v 0 (pv 0)) (ra_cons (r_v 5 (pv 5)) (ra_cons (r_v 4 (pv 4)) ra_nil))))) ra_nil)))))
theorem sc_Sinking_best : FnScope ["self", "some", "shot", "mark", "rest", "place", "ship", "cell"] ["self", "some", "shot"] (defScope (inClass (top 28) 1)) := ⟨rfl, rfl, rfl, by decide +kernel, rfl, by decide +kernel, by decide +kernel⟩
def F_Sinking_bestO (FR_Sinking_worst : FM) : FM := runDef 8
  ((sSeq (sIf (tE (eCB (m1 mAll) (aCons (eLC (iSeq (eV 1)) [5] (tgN 5) tTrue (eCB (m1 mAll) (aCons (eLC2 (iSeq (eV 5)) [6, 7] (tgN 6) tTrue (iSeq (eV 6)) [7] (tgN 7) tTrue (eB (mIn false) (eV 7) (eV 2))) aNil))) aNil)))
    (sRet (eK (.int 0)))
    sNil)
    (sSeq (sSet 3 (eTup (aCons (eCB (m1 mTupC) (aCons (eV 1) aNil)) (aCons (eCB (m1 mTupC) (aCons (eCB (m1 mSortK) (aCons (eV 2) aNil)) aNil)) aNil))))
    (sSeq (sIf (tE (eB (mInN true) (eV 3) (eFld 4 1 (eV 0))))
    (sSeq (sSet 4 (eLC (iRg1 (aCons (eFld 4 0 (eV 0)) aNil)) [7] (tgN 7) (tE (eB (mIn true) (eV 7) (eV 2))) (eV 7)))
    (sPutN (eFld 4 1 (eV 0)) (eV 3) (eB mAdd (eK (.int 1)) (eCB (m1 mMinL) (aCons (eLC (iSeq (eV 4)) [7] (tgN 7) tTrue (eMethW 4 4 FR_Sinking_worst (eV 0) (aCons (eV 1) (aCons (eV 2) (aCons (eV 7) aNil))))) aNil)))))
    sNil)
    (sRet (eB mIxN (eFld 4 1 (eV 0)) (eV 3)))))))
def F_Sinking_best : Nat → FM
  | 0 => noF
  | j + 1 => F_Sinking_bestO (F_Sinking_worstO (F_Sinking_best j))
theorem ok_Sinking_best {f : Addr} {fd : FuncData} {m : Nat} {FR_Sinking_worst : FM} (M : Facts K mg ct) (mw_Sinking_worst : Mw P w K mg base ⟨K, ct⟩ (m + 10) 4 "worst" 4 FR_Sinking_worst) (F : Fun K "best" "Sinking.best" (inClass (top 28) 1) f fd) :
    FnOk P w K mg base (L2.CX P w) (m + 10 + 1) f fd ["self", "some", "shot"] (spF ⟨K, ct⟩ 3 (F_Sinking_bestO FR_Sinking_worst)) :=
  def_ok2 (k := m + 10) F sc_Sinking_best rfl fun cdv A outer s H E B hr tk po cx =>
    (rss_cons (rs_if (rt_val (r_cb (cr_all rfl) ob_all M.b_all (ra_cons (r_lc sc_Sinking_best.nd (ri_seq (r_v 1 (pv 1))) (blkOk_by (own := [(("place" : Str), 5)]) rfl) (fun _ _ _ _ _ => pg_name (i := 5) sc_Sinking_best.nd rfl (by first | exact Or.inl rfl | exact Or.inr rfl)) (og_n 5) (by decide) (fun _ _ _ _ _ _ => rpt_nil) (fun _ _ _ _ _ _ => (r_cb (cr_all rfl) ob_all M.b_all (ra_cons (r_lc2 sc_Sinking_best.nd (ri_seq (r_v 5 (pv 5))) (blkOk_by (own := [(("ship" : Str), 6), (("cell" : Str), 7)]) rfl) (fun _ _ _ _ _ => pg_name (i := 6) sc_Sinking_best.nd rfl (by first | exact Or.inl rfl | exact Or.inr rfl)) (og_n 6) (by decide) (fun _ _ _ _ _ _ => rpt_nil) (fun _ _ _ _ _ _ => (ri_seq (r_v 6 (pv 6)))) (by decide) (fun _ _ _ _ _ => pg_name (i := 7) sc_Sinking_best.nd rfl (by first | exact Or.inl rfl | exact Or.inr rfl)) (og_n 7) (by decide) (fun _ _ _ _ _ _ => rpt_nil) (fun _ _ _ _ _ _ => (r_cmp (op_inA hr.u65) o2_in (r_v 7 (pv 7)) (r_v 2 (pv 2)) (by rfl)))) ra_nil)))) ra_nil)))
      (rss_one (rs_ret r_int))
      rss_nil)
      (rss_cons (rs_set sc_Sinking_best.nd (r_tup (ra_cons (r_ct call_tuple_of ob_tup M.b_tuple (ra_cons (r_v 1 (pv 1)) ra_nil)) (ra_cons (r_ct call_tuple_of ob_tup M.b_tuple (ra_cons (r_cb (cr_sortK rfl) ob_sortK M.b_sorted (ra_cons (r_v 2 (pv 2)) ra_nil)) ra_nil)) ra_nil))))
      (rss_cons (rs_if (rt_cmp (op_ninN hr.u9) o2_ninN (r_v 3 (pv 3)) (r_fld 4 1 M.k4 M.n4_known (r_v 0 (pv 0))) (by rfl))
      (rss_cons (rs_setLc sc_Sinking_best.nd (ri_rg1 M.b_range (ra_cons (r_fld 4 0 M.k4 M.n4_many (r_v 0 (pv 0))) ra_nil)) (blkOk_by (own := [(("cell" : Str), 7)]) rfl) (fun _ _ _ _ _ => pg_name (i := 7) sc_Sinking_best.nd rfl (by first | exact Or.inl rfl | exact Or.inr rfl)) (og_n 7) (by decide) (fun _ _ _ _ _ _ => (rpt_one (rt_cmp (op_ninA hr.u65) o2_nin (r_v 7 (pv 7)) (r_v 2 (pv 2)) (by rfl)))) (fun _ _ _ _ _ _ => (r_v 7 (pv 7))))
      (rss_one (rs_putN hr.u9 (r_fld 4 1 M.k4 M.n4_known (r_v 0 (pv 0))) (r_v 3 (pv 3)) (r_bin op_addA o2_add r_int (r_cb (cr_min rfl) ob_minL M.b_min (ra_cons (r_lc sc_Sinking_best.nd (ri_seq (r_v 4 (pv 4))) (blkOk_by (own := [(("cell" : Str), 7)]) rfl) (fun _ _ _ _ _ => pg_name (i := 7) sc_Sinking_best.nd rfl (by first | exact Or.inl rfl | exact Or.inr rfl)) (og_n 7) (by decide) (fun _ _ _ _ _ _ => rpt_nil) (fun _ _ _ _ _ _ => (r_methW mw_Sinking_worst hr (by omega) cx_blk (r_v 0 (pv 0)) (ra_cons (r_v 1 (pv 1)) (ra_cons (r_v 2 (pv 2)) (ra_cons (r_v 7 (pv 7)) ra_nil)))))) ra_nil))))))
      rss_nil)
      (rss_one (rs_ret (r_ix (ix_N hr.u9) o2_ixN (r_fld 4 1 M.k4 M.n4_known (r_v 0 (pv 0))) (r_v 3 (pv 3))))))))
theorem sc_to_sink : FnScope ["fleet", "n", "some"] ["fleet", "n"] (defScope (top 29)) := ⟨rfl, rfl, rfl, by decide +kernel, rfl, by decide +kernel, by decide +kernel⟩
def F_to_sink : FM := runDef 3
  ((sSeq (sExpr (eCallD 2 F_check_number (aCons (eV 1) (aCons (eK (.int 6)) aNil))))
    (sSeq (sSet 2 (eCallD 3 F_all_places (aCons (eV 0) (aCons (eV 1) (aCons eDic0 aNil)))))
    (sRet (eIf (tE (eB mNe (eV 2) (eLst aNil))) (eMethW 4 3 (F_Sinking_best 7) (eMakeW 4 1 F_Sinking_init (aCons (eV 1) aNil)) (aCons (eV 2) (aCons eDic0 aNil))) (eK .non))))))
theorem ok_to_sink {f : Addr} {fd : FuncData} (M : Facts K mg ct) (c_check_number : Cal P w K mg base ⟨K, ct⟩ 3 "check_number" 2 F_check_number) (c_all_places : Cal P w K mg base ⟨K, ct⟩ 3 "all_places" 3 F_all_places) (m_Sinking : Ma P w K mg base ⟨K, ct⟩ 1 "Sinking" 4 1 F_Sinking_init) (mw_Sinking_best : Mw P w K mg base ⟨K, ct⟩ 24 4 "best" 3 (F_Sinking_best 7)) (F : Fun K "to_sink" "to_sink" (top 29) f fd) :
    FnOk P w K mg base (L2.CX P w) 25 f fd ["fleet", "n"] (spF ⟨K, ct⟩ 2 F_to_sink) :=
  def_ok2 (k := 24) F sc_to_sink rfl fun cdv A outer s H E B hr tk po cx =>
    (rss_cons (rs_expr (r_call c_check_number hr (by decide) cx (ra_cons (r_v 1 (pv 1)) (ra_cons (r_ci 6 M.c_MOST_SINK) ra_nil))))
      (rss_cons (rs_set sc_to_sink.nd (r_call c_all_places hr (by decide) cx (ra_cons (r_v 0 (pv 0)) (ra_cons (r_v 1 (pv 1)) (ra_cons r_dic0 ra_nil)))))
      (rss_one (rs_ret (r_if (rt_cmp (op_neD hr.u64) o2_ne (r_v 2 (pv 2)) (r_lst ra_nil) (nomark _)) (r_methW mw_Sinking_best hr (by decide) cx (r_makeW m_Sinking hr (by decide) cx (ra_cons (r_v 1 (pv 1)) ra_nil)) (ra_cons (r_v 2 (pv 2)) (ra_cons r_dic0 ra_nil))) r_non)))))
theorem sc__law_pick : FnScope ["_law_row", "_law_many", "_law_cell", "_law_found"] ["_law_row", "_law_many"] (defScope (top 32)) := ⟨rfl, rfl, rfl, by decide +kernel, rfl, by decide +kernel, by decide +kernel⟩
theorem ok__law_pick {f : Addr} {fd : FuncData} (M : Facts K mg ct)  (F : Fun K "_law_pick" "_law_pick" (top 32) f fd) :
    FnOk P w K mg base (L2.CX P w) 1 f fd ["_law_row", "_law_many"] (spF ⟨K, ct⟩ 2 F__law_pick) :=
  def_ok2 (k := 0) F sc__law_pick rfl fun cdv A outer s H E B hr tk po cx =>
    (rss_cons (rs_if (rt_cmp (op_eqD hr.u64) o2_eq (r_ix (ix_A hr.u1) o2_ix (r_v 0 (pv 0)) r_int) r_int (nomark _))
      (rss_one (rs_if (rt_cmp op_lt o2_lt (r_ix (ix_A hr.u1) o2_ix (r_v 0 (pv 0)) r_int) (r_cb call_lenA ob_len M.b_len (ra_cons (r_ix (ix_A hr.u1) o2_ix (r_v 0 (pv 0)) r_int) ra_nil)) (nomark _))
      (rss_cons (rs_set sc__law_pick.nd (r_ix (ix_A hr.u1) o2_ix (r_ix (ix_A hr.u1) o2_ix (r_v 0 (pv 0)) r_int) (r_ix (ix_A hr.u1) o2_ix (r_v 0 (pv 0)) r_int)))
      (rss_cons (rs_putL (r_v 0 (pv 0)) r_int (r_bin op_addA o2_add (r_ix (ix_A hr.u1) o2_ix (r_v 0 (pv 0)) r_int) r_int))
      (rss_one (rs_if (rt_cmp op_ge o2_ge (r_v 2 (pv 2)) (r_pow r_int r_int) (nomark _))
      (rss_one (rs_putL (r_v 0 (pv 0)) r_int (r_v 2 (pv 2))))
      (rss_one (rs_putL (r_v 0 (pv 0)) r_int (r_mod (r_ct call_int1 ob_int M.b_int (ra_cons (r_bin op_addA o2_add (r_bin op_addA o2_add (r_mul (r_ix (ix_A hr.u1) o2_ix (r_v 0 (pv 0)) r_int) r_int) (r_mul (r_v 2 (pv 2)) r_int)) r_int) ra_nil)) r_int)))))))
      (rss_one (rs_putL (r_v 0 (pv 0)) r_int (r_mod (r_ct call_int1 ob_int M.b_int (ra_cons (r_bin op_addA o2_add (r_mul (r_ix (ix_A hr.u1) o2_ix (r_v 0 (pv 0)) r_int) r_int) r_int) ra_nil)) r_int)))))
      rss_nil)
      (rss_cons (rs_if (rt_cmp op_gt o2_gt (r_ix (ix_A hr.u1) o2_ix (r_v 0 (pv 0)) r_int) r_int (nomark _))
      (rss_cons (rs_set sc__law_pick.nd (r_mod (r_ct call_int1 ob_int M.b_int (ra_cons (r_ix (ix_A hr.u1) o2_ix (r_v 0 (pv 0)) r_int) ra_nil)) (r_v 1 (pv 1))))
      (rss_cons (rs_putL (r_v 0 (pv 0)) r_int (r_fdiv (r_ix (ix_A hr.u1) o2_ix (r_v 0 (pv 0)) r_int) (r_v 1 (pv 1))))
      (rss_one (rs_ret (r_v 3 (pv 3))))))
      rss_nil)
      (rss_one (rs_ret (r_mod (r_mod (r_ct call_int1 ob_int M.b_int (ra_cons (r_mul (r_ix (ix_A hr.u1) o2_ix (r_v 0 (pv 0)) r_int) r_int) ra_nil)) r_int) (r_v 1 (pv 1)))))))
theorem sc__law_fleet : FnScope ["_law_row", "_law_one", "_law_two", "_law_ships"] ["_law_row"] (defScope (top 33)) := ⟨rfl, rfl, rfl, by decide +kernel, rfl, by decide +kernel, by decide +kernel⟩
theorem ok__law_fleet {f : Addr} {fd : FuncData} (M : Facts K mg ct) (c__law_pick : Cal P w K mg base ⟨K, ct⟩ 1 "_law_pick" 2 F__law_pick) (F : Fun K "_law_fleet" "_law_fleet" (top 33) f fd) :
    FnOk P w K mg base (L2.CX P w) 2 f fd ["_law_row"] (spF ⟨K, ct⟩ 1 F__law_fleet) :=
  def_ok2 (k := 1) F sc__law_fleet rfl fun cdv A outer s H E B hr tk po cx =>
    (rss_cons (rs_par sc__law_fleet.nd (ra_cons (r_bin op_addA o2_add r_int (r_callZ c__law_pick hr (by decide) cx (ra_cons (r_v 0 (pv 0)) (ra_cons r_int ra_nil)))) (ra_cons (r_bin op_addA o2_add r_int (r_callZ c__law_pick hr (by decide) cx (ra_cons (r_v 0 (pv 0)) (ra_cons r_int ra_nil)))) ra_nil)))
      (rss_cons (rs_set sc__law_fleet.nd (r_ix (ix_A hr.u1) o2_ix (r_lst (ra_cons (r_tup (ra_cons (r_v 1 (pv 1)) ra_nil)) (ra_cons (r_tup (ra_cons (r_cb (call_min2 rfl) ob_min2 M.b_min (ra_cons (r_v 1 (pv 1)) (ra_cons (r_v 2 (pv 2)) ra_nil))) (ra_cons (r_cb (call_max2 rfl) ob_max2 M.b_max (ra_cons (r_v 1 (pv 1)) (ra_cons (r_v 2 (pv 2)) ra_nil))) ra_nil))) (ra_cons (r_tup (ra_cons (r_v 1 (pv 1)) (ra_cons (r_v 1 (pv 1)) ra_nil))) ra_nil)))) (r_callZ c__law_pick hr (by decide) cx (ra_cons (r_v 0 (pv 0)) (ra_cons r_int ra_nil)))))
      (rss_one (rs_ret (r_disp (.cons (fun _ => r_str) (fun _ => (r_ix (ix_A hr.u1) o2_ix (r_lst (ra_cons r_str (ra_cons r_str ra_nil))) (r_callZ c__law_pick hr (by decide) (cxB cx) (ra_cons (r_v 0 (pv 0)) (ra_cons r_int ra_nil))))) (.cons (fun _ => r_str) (fun _ => (r_v 3 (pv 3))) (.cons (fun _ => r_str) (fun _ => (r_callZ c__law_pick hr (by decide) (cxB cx) (ra_cons (r_v 0 (pv 0)) (ra_cons r_int ra_nil)))) .nil))))))))
theorem sc__law_made : FnScope ["_law_d"] ["_law_d"] (defScope (top 34)) := ⟨rfl, rfl, rfl, by decide +kernel, rfl, by decide +kernel, by decide +kernel⟩
theorem ok__law_made {f : Addr} {fd : FuncData} (M : Facts K mg ct) (m_Fleet : Ma P w K mg base ⟨K, ct⟩ 3 "Fleet" 0 3 F_Fleet_init) (F : Fun K "_law_made" "_law_made" (top 34) f fd) :
    FnOk P w K mg base (L2.CX P w) 5 f fd ["_law_d"] (spF ⟨K, ct⟩ 1 F__law_made) :=
  def_ok2 (k := 4) F sc__law_made rfl fun cdv A outer s H E B hr tk po cx =>
    (rss_one (rs_ret (r_makeD m_Fleet hr (by decide) cx (ra_cons (r_ix (ix_A hr.u1) o2_ix (r_v 0 (pv 0)) r_str) (ra_cons (r_ix (ix_A hr.u1) o2_ix (r_v 0 (pv 0)) r_str) (ra_cons (r_ix (ix_A hr.u1) o2_ix (r_v 0 (pv 0)) r_str) ra_nil))))))
theorem sc__law_spans : FnScope ["_law_d", "_law_n", "_law_size", "_law_found", "_law_first", "_law_ship", "_law_k"] ["_law_d", "_law_n", "_law_size"] (defScope (top 35)) := ⟨rfl, rfl, rfl, by decide +kernel, rfl, by decide +kernel, by decide +kernel⟩
theorem ok__law_spans {f : Addr} {fd : FuncData} (M : Facts K mg ct)  (F : Fun K "_law_spans" "_law_spans" (top 35) f fd) :
    FnOk P w K mg base (L2.CX P w) 1 f fd ["_law_d", "_law_n", "_law_size"] (spF ⟨K, ct⟩ 3 F__law_spans) :=
  def_ok2 (k := 0) F sc__law_spans rfl fun cdv A outer s H E B hr tk po cx =>
    (rss_cons (rs_set sc__law_spans.nd (r_lstH ra_nil))
      (rss_cons (rs_for po (ri_rg1 M.b_range (ra_cons (r_v 1 (pv 1)) ra_nil)) (pg_name (i := 4) sc__law_spans.nd rfl (by first | exact Or.inl rfl | exact Or.inr rfl)) (og_n 4) (rss_one (rs_if ((rw_or (rt_cmp op_le o2_le (r_bin op_addA o2_add (r_v 4 (pv 4)) (r_v 2 (pv 2))) (r_v 1 (pv 1)) (nomark _)) (rw_or1 ((rw_and (rt_cmp (op_eqD hr.u64) o2_eq (r_ix (ix_A hr.u1) o2_ix (r_v 0 (pv 0)) r_str) r_str (nomark _)) (rw_and1 (rt_cmp op_le o2_le (r_v 2 (pv 2)) (r_v 1 (pv 1)) (nomark _))))).pt))).pt
      (rss_cons (rs_set sc__law_spans.nd (r_ct call_tuple_of ob_tup M.b_tuple (ra_cons (r_cb cr_sortedI ob_sortI M.b_sorted (ra_cons (r_lc sc__law_spans.nd (ri_rg1 M.b_range (ra_cons (r_v 2 (pv 2)) ra_nil)) (blkOk_by (own := [(("_law_k" : Str), 6)]) rfl) (fun _ _ _ _ _ => pg_name (i := 6) sc__law_spans.nd rfl (by first | exact Or.inl rfl | exact Or.inr rfl)) (og_n 6) (by decide) (fun _ _ _ _ _ _ => rpt_nil) (fun _ _ _ _ _ _ => (r_mod (r_bin op_addA o2_add (r_v 4 (pv 4)) (r_v 6 (pv 6))) (r_v 1 (pv 1))))) ra_nil)) ra_nil)))
      (rss_one (rs_if (rt_cmp (op_ninA hr.u65) o2_nin (r_v 5 (pv 5)) (r_v 3 (pv 3)) (by rfl))
      (rss_one (rs_expr (r_mut PySem.F.slot_list_append PySem.F.type_list_append mt_append om_app (r_v 3 (pv 3)) (ra_cons (r_v 5 (pv 5)) ra_nil))))
      rss_nil)))
      rss_nil)))
      (rss_one (rs_ret (r_cb (call_sortT .UI hr.u80) ob_sortT M.b_sorted (ra_cons (r_v 3 (pv 3)) ra_nil))))))
theorem sc__law_apart : FnScope ["_law_d", "_law_n", "_law_one", "_law_two", "_law_cell", "_law_sides", "_law_side"] ["_law_d", "_law_n", "_law_one", "_law_two"] (defScope (top 36)) := ⟨rfl, rfl, rfl, by decide +kernel, rfl, by decide +kernel, by decide +kernel⟩
theorem ok__law_apart {f : Addr} {fd : FuncData} (M : Facts K mg ct)  (F : Fun K "_law_apart" "_law_apart" (top 36) f fd) :
    FnOk P w K mg base (L2.CX P w) 1 f fd ["_law_d", "_law_n", "_law_one", "_law_two"] (spF ⟨K, ct⟩ 4 F__law_apart) :=
  def_ok2 (k := 0) F sc__law_apart rfl fun cdv A outer s H E B hr tk po cx =>
    (rss_cons (rs_for po (ri_seq (r_v 2 (pv 2))) (pg_name (i := 4) sc__law_apart.nd rfl (by first | exact Or.inl rfl | exact Or.inr rfl)) (og_n 4) (rss_cons (rs_if (rt_cmp (op_inA hr.u65) o2_in (r_v 4 (pv 4)) (r_v 3 (pv 3)) (by rfl))
      (rss_one (rs_ret r_bl))
      rss_nil)
      (rss_one (rs_if (rt_cmp (op_eqD hr.u64) o2_eq (r_ix (ix_A hr.u1) o2_ix (r_v 0 (pv 0)) r_str) r_int (nomark _))
      (rss_cons (rs_set sc__law_apart.nd (r_lst (ra_cons (r_sub (r_v 4 (pv 4)) r_int) (ra_cons (r_bin op_addA o2_add (r_v 4 (pv 4)) r_int) ra_nil))))
      (rss_cons (rs_if (rt_cmp (op_eqD hr.u64) o2_eq (r_ix (ix_A hr.u1) o2_ix (r_v 0 (pv 0)) r_str) r_str (nomark _))
      (rss_one (rs_set sc__law_apart.nd (r_lst (ra_cons (r_mod (r_sub (r_v 4 (pv 4)) r_int) (r_v 1 (pv 1))) (ra_cons (r_mod (r_bin op_addA o2_add (r_v 4 (pv 4)) r_int) (r_v 1 (pv 1))) ra_nil)))))
      rss_nil)
      (rss_one (rs_if (rt_cmp (op_neD hr.u64) o2_ne (r_lc sc__law_apart.nd (ri_seq (r_v 5 (pv 5))) (blkOk_by (own := [(("_law_side" : Str), 6)]) rfl) (fun _ _ _ _ _ => pg_name (i := 6) sc__law_apart.nd rfl (by first | exact Or.inl rfl | exact Or.inr rfl)) (og_n 6) (by decide) (fun _ _ _ _ _ _ => (rpt_one (rt_cmp (op_inA hr.u65) o2_in (r_v 6 (pv 6)) (r_v 3 (pv 3)) (by rfl)))) (fun _ _ _ _ _ _ => (r_v 6 (pv 6)))) (r_lst ra_nil) (nomark _))
      (rss_one (rs_ret r_bl))
      rss_nil))))
      rss_nil))))
      (rss_one (rs_ret r_bl)))
theorem sc__law_places : FnScope ["_law_d", "_law_n", "_law_some", "_law_found", "_law_one", "_law_two", "_law_size", "_law_ship"] ["_law_d", "_law_n"] (defScope (top 37)) := ⟨rfl, rfl, rfl, by decide +kernel, rfl, by decide +kernel, by decide +kernel⟩
theorem ok__law_places {f : Addr} {fd : FuncData} (M : Facts K mg ct) (c__law_spans : Cal P w K mg base ⟨K, ct⟩ 1 "_law_spans" 3 F__law_spans) (c__law_apart : Cal P w K mg base ⟨K, ct⟩ 1 "_law_apart" 4 F__law_apart) (F : Fun K "_law_places" "_law_places" (top 37) f fd) :
    FnOk P w K mg base (L2.CX P w) 2 f fd ["_law_d", "_law_n"] (spF ⟨K, ct⟩ 2 F__law_places) :=
  def_ok2 (k := 1) F sc__law_places rfl fun cdv A outer s H E B hr tk po cx =>
    (rss_cons (rs_setLc sc__law_places.nd (ri_seq (r_ix (ix_A hr.u1) o2_ix (r_v 0 (pv 0)) r_str)) (blkOk_by (own := [(("_law_size" : Str), 6)]) rfl) (fun _ _ _ _ _ => pg_name (i := 6) sc__law_places.nd rfl (by first | exact Or.inl rfl | exact Or.inr rfl)) (og_n 6) (by decide) (fun _ _ _ _ _ _ => rpt_nil) (fun _ _ _ _ _ _ => (r_call c__law_spans hr (by decide) cx_blk (ra_cons (r_v 0 (pv 0)) (ra_cons (r_v 1 (pv 1)) (ra_cons (r_v 6 (pv 6)) ra_nil))))))
      (rss_cons (rs_if (rt_cmp (op_eqD hr.u64) o2_eq (r_cb call_lenA ob_len M.b_len (ra_cons (r_v 2 (pv 2)) ra_nil)) r_int (nomark _))
      (rss_one (rs_ret (r_lc sc__law_places.nd (ri_seq (r_ix (ix_A hr.u1) o2_ix (r_v 2 (pv 2)) r_int)) (blkOk_by (own := [(("_law_ship" : Str), 7)]) rfl) (fun _ _ _ _ _ => pg_name (i := 7) sc__law_places.nd rfl (by first | exact Or.inl rfl | exact Or.inr rfl)) (og_n 7) (by decide) (fun _ _ _ _ _ _ => rpt_nil) (fun _ _ _ _ _ _ => (r_tup (ra_cons (r_v 7 (pv 7)) ra_nil))))))
      rss_nil)
      (rss_cons (rs_set sc__law_places.nd (r_lstH ra_nil))
      (rss_cons (rs_for po (ri_seq (r_ix (ix_A hr.u1) o2_ix (r_v 2 (pv 2)) r_int)) (pg_name (i := 4) sc__law_places.nd rfl (by first | exact Or.inl rfl | exact Or.inr rfl)) (og_n 4) (rss_one (rs_for po (ri_seq (r_ix (ix_A hr.u1) o2_ix (r_v 2 (pv 2)) r_int)) (pg_name (i := 5) sc__law_places.nd rfl (by first | exact Or.inl rfl | exact Or.inr rfl)) (og_n 5) (rss_one (rs_if ((rw_and (rt_val (r_call c__law_apart hr (by decide) cx (ra_cons (r_v 0 (pv 0)) (ra_cons (r_v 1 (pv 1)) (ra_cons (r_v 4 (pv 4)) (ra_cons (r_v 5 (pv 5)) ra_nil)))))) (rw_and1 ((rw_or (rt_cmp op_lt o2_lt (r_ix (ix_A hr.u1) o2_ix (r_ix (ix_A hr.u1) o2_ix (r_v 0 (pv 0)) r_str) r_int) (r_ix (ix_A hr.u1) o2_ix (r_ix (ix_A hr.u1) o2_ix (r_v 0 (pv 0)) r_str) r_int) (nomark _)) (rw_or1 (rt_cmp (op_ltS hr.u64) o2_ltS (r_v 4 (pv 4)) (r_v 5 (pv 5)) (nomark _))))).pt))).pt
      (rss_one (rs_expr (r_mut PySem.F.slot_list_append PySem.F.type_list_append mt_append om_app (r_v 3 (pv 3)) (ra_cons (r_tup (ra_cons (r_v 4 (pv 4)) (ra_cons (r_v 5 (pv 5)) ra_nil))) ra_nil))))
      rss_nil)))))
      (rss_one (rs_ret (r_cb (call_sortT (.UU .I) hr.u80) ob_sortT M.b_sorted (ra_cons (r_v 3 (pv 3)) ra_nil))))))))
theorem sc__law_word : FnScope ["_law_place", "_law_cell", "_law_shot", "_law_ship", "_law_rest", "_law_one"] ["_law_place", "_law_cell", "_law_shot"] (defScope (top 38)) := ⟨rfl, rfl, rfl, by decide +kernel, rfl, by decide +kernel, by decide +kernel⟩
theorem ok__law_word {f : Addr} {fd : FuncData} (M : Facts K mg ct)  (F : Fun K "_law_word" "_law_word" (top 38) f fd) :
    FnOk P w K mg base (L2.CX P w) 1 f fd ["_law_place", "_law_cell", "_law_shot"] (spF ⟨K, ct⟩ 3 F__law_word) :=
  def_ok2 (k := 0) F sc__law_word rfl fun cdv A outer s H E B hr tk po cx =>
    (rss_cons (rs_for po (ri_seq (r_v 0 (pv 0))) (pg_name (i := 3) sc__law_word.nd rfl (by first | exact Or.inl rfl | exact Or.inr rfl)) (og_n 3) (rss_one (rs_if (rt_cmp (op_inA hr.u65) o2_in (r_v 1 (pv 1)) (r_v 3 (pv 3)) (by rfl))
      (rss_cons (rs_setLc sc__law_word.nd (ri_seq (r_v 3 (pv 3))) (blkOk_by (own := [(("_law_one" : Str), 5)]) rfl) (fun _ _ _ _ _ => pg_name (i := 5) sc__law_word.nd rfl (by first | exact Or.inl rfl | exact Or.inr rfl)) (og_n 5) (by decide) (fun _ _ _ _ _ _ => (rpt_one ((rw_and (rt_cmp (op_neD hr.u64) o2_ne (r_v 5 (pv 5)) (r_v 1 (pv 1)) (nomark _)) (rw_and1 (rt_cmp (op_ninA hr.u65) o2_nin (r_v 5 (pv 5)) (r_v 2 (pv 2)) (by rfl))))).pt)) (fun _ _ _ _ _ _ => (r_v 5 (pv 5))))
      (rss_one (rs_ret (r_if (rt_cmp (op_neD hr.u64) o2_ne (r_v 4 (pv 4)) (r_lst ra_nil) (nomark _)) r_str r_str))))
      rss_nil)))
      (rss_one (rs_ret r_str)))
theorem sc__law_sunk : FnScope ["_law_some", "_law_shot", "_law_place", "_law_ship", "_law_cell"] ["_law_some", "_law_shot"] (defScope (top 39)) := ⟨rfl, rfl, rfl, by decide +kernel, rfl, by decide +kernel, by decide +kernel⟩
def F__law_sunk : FM := runDef 5
  ((sSeq (sFor (iSeq (eV 0)) (tgN 2) (sFor (iSeq (eV 2)) (tgN 3) (sIf (tE (eB mNe (eLC (iSeq (eV 3)) [4] (tgN 4) (tE (eB (mIn true) (eV 4) (eV 1))) (eV 4)) (eLst aNil)))
    (sRet (eK (.bl false)))
    sNil)))
    (sRet (eK (.bl true)))))
theorem ok__law_sunk {f : Addr} {fd : FuncData} (M : Facts K mg ct)  (F : Fun K "_law_sunk" "_law_sunk" (top 39) f fd) :
    FnOk P w K mg base (L2.CX P w) 1 f fd ["_law_some", "_law_shot"] (spF ⟨K, ct⟩ 2 F__law_sunk) :=
  def_ok2 (k := 0) F sc__law_sunk rfl fun cdv A outer s H E B hr tk po cx =>
    (rss_cons (rs_for po (ri_seq (r_v 0 (pv 0))) (pg_name (i := 2) sc__law_sunk.nd rfl (by first | exact Or.inl rfl | exact Or.inr rfl)) (og_n 2) (rss_one (rs_for po (ri_seq (r_v 2 (pv 2))) (pg_name (i := 3) sc__law_sunk.nd rfl (by first | exact Or.inl rfl | exact Or.inr rfl)) (og_n 3) (rss_one (rs_if (rt_cmp (op_neD hr.u64) o2_ne (r_lc sc__law_sunk.nd (ri_seq (r_v 3 (pv 3))) (blkOk_by (own := [(("_law_cell" : Str), 4)]) rfl) (fun _ _ _ _ _ => pg_name (i := 4) sc__law_sunk.nd rfl (by first | exact Or.inl rfl | exact Or.inr rfl)) (og_n 4) (by decide) (fun _ _ _ _ _ _ => (rpt_one (rt_cmp (op_ninA hr.u65) o2_nin (r_v 4 (pv 4)) (r_v 1 (pv 1)) (by rfl)))) (fun _ _ _ _ _ _ => (r_v 4 (pv 4)))) (r_lst ra_nil) (nomark _))
      (rss_one (rs_ret r_bl))
      rss_nil)))))
      (rss_one (rs_ret r_bl)))
theorem sc__law_best_shots : FnScope ["_law_n", "_law_some", "_law_shot", "_law_known", "_law_mark", "_law_found", "_law_cell", "_law_rests", "_law_place", "_law_rest", "_law_one", "_law_word_here"] ["_law_n", "_law_some", "_law_shot", "_law_known"] (defScope (top 40)) := ⟨rfl, rfl, rfl, by decide +kernel, rfl, by decide +kernel, by decide +kernel⟩
def F__law_best_shotsO (FR__law_best_shots : FM) : FM := runDef 12
  ((sSeq (sIf (tE (eCallD 2 F__law_sunk (aCons (eV 1) (aCons (eV 2) aNil))))
    (sRet (eK (.int 0)))
    sNil)
    (sSeq (sSet 4 (eTup (aCons (eCB (m1 mTupC) (aCons (eV 1) aNil)) (aCons (eCB (m1 mTupC) (aCons (eCB (m1 mSortI) (aCons (eV 2) aNil)) aNil)) aNil))))
    (sSeq (sIf (tE (eB (mInN true) (eV 4) (eV 3)))
    (sSeq (sSet 5 (eLstH aNil))
    (sSeq (sFor (iSeq (eLC (iRg1 (aCons (eV 0) aNil)) [10] (tgN 10) (tE (eB (mIn true) (eV 10) (eV 2))) (eV 10))) (tgN 6) (sSeq (sSet 7 eDicH)
    (sSeq (sFor (iSeq (eV 1)) (tgN 8) (sSeq (sSet 9 (eSetd (eV 7) (eCallD 3 F__law_word (aCons (eV 8) (aCons (eV 6) (aCons (eV 2) aNil)))) (eLstH aNil)))
    (sExpr (eMut mmApp (eV 9) (aCons (eV 8) aNil)))))
    (sFrzD 7 (sExpr (eMut mmApp (eV 5) (aCons (eCB (m1 mMaxL) (aCons (eLC (iKey (eV 7)) [11] (tgN 11) tTrue (eCallY 4 FR__law_best_shots (aCons (eV 0) (aCons (eB mIx (eV 7) (eV 11)) (aCons (eB mAdd (eV 2) (eLst (aCons (eV 6) aNil))) (aCons (eV 3) aNil)))))) aNil)) aNil)))))))
    (sPutN (eV 3) (eV 4) (eB mAdd (eK (.int 1)) (eCB (m1 mMinL) (aCons (eV 5) aNil))))))
    sNil)
    (sRet (eB mIxN (eV 3) (eV 4)))))))
def F__law_best_shots : Nat → FM
  | 0 => noF
  | j + 1 => F__law_best_shotsO (F__law_best_shots j)
theorem ok__law_best_shots {f : Addr} {fd : FuncData} {m : Nat} {FR__law_best_shots : FM} (M : Facts K mg ct) (c__law_sunk : Cal P w K mg base ⟨K, ct⟩ 1 "_law_sunk" 2 F__law_sunk) (c__law_word : Cal P w K mg base ⟨K, ct⟩ 1 "_law_word" 3 F__law_word) (c__law_best_shots : Cal P w K mg base ⟨K, ct⟩ (m + 10) "_law_best_shots" 4 FR__law_best_shots) (F : Fun K "_law_best_shots" "_law_best_shots" (top 40) f fd) :
    FnOk P w K mg base (L2.CX P w) (m + 10 + 1) f fd ["_law_n", "_law_some", "_law_shot", "_law_known"] (spF ⟨K, ct⟩ 4 (F__law_best_shotsO FR__law_best_shots)) :=
  def_ok2 (k := m + 10) F sc__law_best_shots rfl fun cdv A outer s H E B hr tk po cx =>
    (rss_cons (rs_if (rt_val (r_call c__law_sunk hr (by omega) cx (ra_cons (r_v 1 (pv 1)) (ra_cons (r_v 2 (pv 2)) ra_nil))))
      (rss_one (rs_ret r_int))
      rss_nil)
      (rss_cons (rs_set sc__law_best_shots.nd (r_tup (ra_cons (r_ct call_tuple_of ob_tup M.b_tuple (ra_cons (r_v 1 (pv 1)) ra_nil)) (ra_cons (r_ct call_tuple_of ob_tup M.b_tuple (ra_cons (r_cb cr_sortedI ob_sortI M.b_sorted (ra_cons (r_v 2 (pv 2)) ra_nil)) ra_nil)) ra_nil))))
      (rss_cons (rs_if (rt_cmp (op_ninN hr.u9) o2_ninN (r_v 4 (pv 4)) (r_v 3 (pv 3)) (by rfl))
      (rss_cons (rs_set sc__law_best_shots.nd (r_lstH ra_nil))
      (rss_cons (rs_for po (ri_seq (r_lc sc__law_best_shots.nd (ri_rg1 M.b_range (ra_cons (r_v 0 (pv 0)) ra_nil)) (blkOk_by (own := [(("_law_one" : Str), 10)]) rfl) (fun _ _ _ _ _ => pg_name (i := 10) sc__law_best_shots.nd rfl (by first | exact Or.inl rfl | exact Or.inr rfl)) (og_n 10) (by decide) (fun _ _ _ _ _ _ => (rpt_one (rt_cmp (op_ninA hr.u65) o2_nin (r_v 10 (pv 10)) (r_v 2 (pv 2)) (by rfl)))) (fun _ _ _ _ _ _ => (r_v 10 (pv 10))))) (pg_name (i := 6) sc__law_best_shots.nd rfl (by first | exact Or.inl rfl | exact Or.inr rfl)) (og_n 6) (rss_cons (rs_set sc__law_best_shots.nd r_dicH)
      (rss_cons (rs_for po (ri_seq (r_v 1 (pv 1))) (pg_name (i := 8) sc__law_best_shots.nd rfl (by first | exact Or.inl rfl | exact Or.inr rfl)) (og_n 8) (rss_cons (rs_set sc__law_best_shots.nd (r_setd (r_v 7 (pv 7)) (r_call c__law_word hr (by omega) cx (ra_cons (r_v 8 (pv 8)) (ra_cons (r_v 6 (pv 6)) (ra_cons (r_v 2 (pv 2)) ra_nil)))) (r_lstH ra_nil)))
      (rss_one (rs_expr (r_mut PySem.F.slot_list_append PySem.F.type_list_append mt_append om_app (r_v 9 (pv 9)) (ra_cons (r_v 8 (pv 8)) ra_nil))))))
      (rss_frzD 7 (rss_one (rs_expr (r_mut PySem.F.slot_list_append PySem.F.type_list_append mt_append om_app (r_v 5 (pv 5)) (ra_cons (r_cb (cr_max rfl) ob_maxL M.b_max (ra_cons (r_lc sc__law_best_shots.nd (ri_key (r_v 7 (pv 7))) (blkOk_by (own := [(("_law_word_here" : Str), 11)]) rfl) (fun _ _ _ _ _ => pg_name (i := 11) sc__law_best_shots.nd rfl (by first | exact Or.inl rfl | exact Or.inr rfl)) (og_n 11) (by decide) (fun _ _ _ _ _ _ => rpt_nil) (fun _ _ _ _ _ _ => (r_callY c__law_best_shots hr (by omega) cx_blk (ra_cons (r_v 0 (pv 0)) (ra_cons (r_ix (ix_A hr.u1) o2_ix (r_v 7 (pv 7)) (r_v 11 (pv 11))) (ra_cons (r_bin op_addA o2_add (r_v 2 (pv 2)) (r_lst (ra_cons (r_v 6 (pv 6)) ra_nil))) (ra_cons (r_v 3 (pv 3)) ra_nil))))))) ra_nil)) ra_nil))))))))
      (rss_one (rs_putN hr.u9 (r_v 3 (pv 3)) (r_v 4 (pv 4)) (r_bin op_addA o2_add r_int (r_cb (cr_min rfl) ob_minL M.b_min (ra_cons (r_v 5 (pv 5)) ra_nil)))))))
      rss_nil)
      (rss_one (rs_ret (r_ix (ix_N hr.u9) o2_ixN (r_v 3 (pv 3)) (r_v 4 (pv 4))))))))
theorem sc_law : FnScope ["_law_script", "_law_row", "_law_d", "_law_n", "_law_some", "_law_due"] ["_law_script"] (defScope (top 41)) := ⟨rfl, rfl, rfl, by decide +kernel, rfl, by decide +kernel, by decide +kernel⟩
def L_law : SM := (sSeq (sSet 2 (eCallZ 1 F__law_fleet (aCons (eV 1) aNil)))
    (sSeq (sSet 3 (eCallZ 2 F__law_pick (aCons (eV 1) (aCons (eIf (tE (eB mEq (eCB (m1 mLen) (aCons (eB mIx (eV 2) (eK (.str "ships"))) aNil)) (eK (.int 1)))) (eK (.int 7)) (eK (.int 6))) aNil))))
    (sSeq (sSet 4 (eCallD 2 F__law_places (aCons (eV 2) (aCons (eV 3) aNil))))
    (sSeq (sSet 5 (eIf (tE (eB mNe (eV 4) (eLst aNil))) (eCallY 4 (F__law_best_shots 7) (aCons (eV 3) (aCons (eV 4) (aCons (eLst aNil) (aCons eDigH aNil))))) (eK .non)))
    (sRet (eB mEq (eCallD 2 F_to_sink (aCons (eCallD 1 F__law_made (aCons (eV 2) aNil)) (aCons (eV 3) aNil))) (eV 5)))))))
theorem ok_law {f : Addr} {fd : FuncData} (M : Facts K mg ct) (c__law_fleet : Cal P w K mg base ⟨K, ct⟩ 2 "_law_fleet" 1 F__law_fleet) (c__law_pick : Cal P w K mg base ⟨K, ct⟩ 1 "_law_pick" 2 F__law_pick) (c__law_places : Cal P w K mg base ⟨K, ct⟩ 2 "_law_places" 2 F__law_places) (c__law_best_shots : Cal P w K mg base ⟨K, ct⟩ 17 "_law_best_shots" 4 (F__law_best_shots 7)) (c_to_sink : Cal P w K mg base ⟨K, ct⟩ 25 "to_sink" 2 F_to_sink) (c__law_made : Cal P w K mg base ⟨K, ct⟩ 5 "_law_made" 1 F__law_made) (F : Fun K "law" "law" (top 41) f fd)
    (dr : ∃ (f' : Addr) (fd' : FuncData), mg "_law_draws" = some (.ref f') ∧ PySem.W.keepIn K (.ref f') = true ∧ Binds K fd' ["_law_script"] [] ∧ FnOk P w K mg base (L2.CX P w) 1 f' fd' ["_law_script"] (spDraw K))
    (hsem : ∀ ns : List Int, ns.length ≤ 63 → ∃ own', L_law (lawSl 6) (lawRow ns) = some (.rt (.d (.bl true)) own')) :
    FnOk P w K mg base (L2.CX P w) 26 f fd ["_law_script"] (spLaw K) :=
  law_of2 (ct := ct) (k := 25) (Lr := L_law) F sc_law (by decide) rfl rfl rfl rfl rfl dr rfl (fun _ => rfl) (fun cdv A outer s H E B hr tk po cx =>
    (rss_cons (rs_set sc_law.nd (r_callZ c__law_fleet hr (by decide) cx (ra_cons (r_v 1 (pv 1)) ra_nil)))
      (rss_cons (rs_set sc_law.nd (r_callZ c__law_pick hr (by decide) cx (ra_cons (r_v 1 (pv 1)) (ra_cons (r_if (rt_cmp (op_eqD hr.u64) o2_eq (r_cb call_lenA ob_len M.b_len (ra_cons (r_ix (ix_A hr.u1) o2_ix (r_v 2 (pv 2)) r_str) ra_nil)) r_int (nomark _)) r_int r_int) ra_nil))))
      (rss_cons (rs_set sc_law.nd (r_call c__law_places hr (by decide) cx (ra_cons (r_v 2 (pv 2)) (ra_cons (r_v 3 (pv 3)) ra_nil))))
      (rss_cons (rs_set sc_law.nd (r_if (rt_cmp (op_neD hr.u64) o2_ne (r_v 4 (pv 4)) (r_lst ra_nil) (nomark _)) (r_callY c__law_best_shots hr (by decide) cx (ra_cons (r_v 3 (pv 3)) (ra_cons (r_v 4 (pv 4)) (ra_cons (r_lst ra_nil) (ra_cons r_digH ra_nil))))) r_non))
      (rss_one (rs_ret (r_cmp (op_eqD hr.u64) o2_eq (r_call c_to_sink hr (by decide) cx (ra_cons (r_call c__law_made hr (by decide) cx (ra_cons (r_v 2 (pv 2)) ra_nil)) (ra_cons (r_v 3 (pv 3)) ra_nil))) (r_v 5 (pv 5)) (nomark _))))))))) hsem
end
end K11
end T_L11a
section T_Q11
set_option Elab.async false
set_option linter.all false
set_option maxRecDepth 100000
set_option maxHeartbeats 4000000
set_option pp.maxSteps 2000
namespace K11
open PySem Gx Pg Mx
/-! ## the least number of shots, in plain words -/
def overM (so : List Pl) (sh : List Int) : Bool := so.all fun p => p.flatten.all fun c => decide (c ∈ sh)
def grp (so : List Pl) (c : Int) (sh : List Int) (w : Wd) : List Pl := so.filter fun p => decide (wordM p c sh = w)
def valF (n : Nat) : Nat → List Pl → List Int → Int
  | 0, _, _ => 0
  | f + 1, so, sh => if overM so sh = true then 0 else 1 + (minI ((fcells n sh).map fun c => (maxI (so.map fun p => valF n f (grp so c sh (wordM p c sh)) (sh ++ [c]))).getD 0)).getD 0
def val (n : Nat) (so : List Pl) (sh : List Int) : Int := valF n (fcells n sh).length so sh
def wrst (n : Nat) (so : List Pl) (c : Int) (sh : List Int) : Int := (maxI (so.map fun p => val n (grp so c sh (wordM p c sh)) (sh ++ [c]))).getD 0
theorem fc_snoc {n : Nat} {sh : List Int} {c : Int} (h : c ∈ fcells n sh) : (fcells n (sh ++ [c])).length + 1 = (fcells n sh).length := by
  have e : fcells n (sh ++ [c]) = (fcells n sh).filter fun x => x != c := by
    unfold fcells
    rw [List.filter_filter]
    refine List.filter_congr fun x _ => ?_
    by_cases h1 : x ∈ sh
    · rw [decide_eq_true h1, decide_eq_true (List.mem_append_left _ h1)]; simp
    · by_cases h2 : x = c
      · subst h2; simp
      · rw [decide_eq_false h1, decide_eq_false (fun z => (List.mem_append.mp z).elim h1 fun z => h2 (List.mem_singleton.mp z))]
        simp [h2]
  have nd : (fcells n sh).Nodup := (rn_nodup n).sublist List.filter_sublist
  rw [e, ← List.Nodup.erase_eq_filter nd, List.length_erase_of_mem h]
  have := List.length_pos_of_mem h
  omega
theorem val_over {n : Nat} {so : List Pl} {sh : List Int} (h : overM so sh = true) : val n so sh = 0 := by
  unfold val
  cases (fcells n sh).length with
  | zero => rfl
  | succ k => exact if_pos h
theorem val_eq {n : Nat} {so : List Pl} {sh : List Int} (h : overM so sh = false) (hne : fcells n sh ≠ []) : val n so sh = 1 + (minI ((fcells n sh).map fun c => wrst n so c sh)).getD 0 := by
  have hp : 0 < (fcells n sh).length := List.length_pos_iff.mpr hne
  obtain ⟨k, hk⟩ : ∃ k, (fcells n sh).length = k + 1 := ⟨(fcells n sh).length - 1, by omega⟩
  unfold val
  rw [hk]
  show (if overM so sh = true then 0 else _) = _
  rw [h, if_neg (by decide)]
  congr 3
  refine List.map_congr_left fun c hc => ?_
  unfold wrst val
  have := fc_snoc hc
  rw [show (fcells n (sh ++ [c])).length = k by omega]
theorem overM_same {so : List Pl} {sh sh' : List Int} (h : ∀ c, c ∈ sh ↔ c ∈ sh') : overM so sh = overM so sh' := by
  unfold overM
  congr 1
  funext p
  congr 1
  funext c
  exact decide_eq_decide.mpr (h c)
theorem wordM_same {p : Pl} {c : Int} {sh sh' : List Int} (h : ∀ c, c ∈ sh ↔ c ∈ sh') : wordM p c sh = wordM p c sh' := by
  unfold wordM
  have : (fun x => !decide (x = c) && !decide (x ∈ sh)) = fun x => !decide (x = c) && !decide (x ∈ sh') := by
    funext x
    rw [decide_eq_decide.mpr (h x)]
  rw [this]
theorem fcells_same {n : Nat} {sh sh' : List Int} (h : ∀ c, c ∈ sh ↔ c ∈ sh') : fcells n sh = fcells n sh' := by
  unfold fcells
  congr 1
  funext x
  rw [decide_eq_decide.mpr (h x)]
theorem grp_same {so : List Pl} {c : Int} {sh sh' : List Int} {w : Wd} (h : ∀ c, c ∈ sh ↔ c ∈ sh') : grp so c sh w = grp so c sh' w := by
  unfold grp
  congr 1
  funext p
  rw [wordM_same h]
theorem valF_same {n : Nat} : ∀ (f : Nat) (so : List Pl) (sh sh' : List Int), (∀ c, c ∈ sh ↔ c ∈ sh') → valF n f so sh = valF n f so sh'
  | 0, _, _, _, _ => rfl
  | f + 1, so, sh, sh', h => by
    show (if overM so sh = true then 0 else _) = if overM so sh' = true then 0 else _
    rw [overM_same h, fcells_same h]
    congr 4
    refine List.map_congr_left fun c _ => ?_
    congr 2
    refine List.map_congr_left fun p _ => ?_
    rw [wordM_same h, grp_same h]
    exact valF_same f _ _ _ fun x => by rw [List.mem_append, List.mem_append, h x]
theorem val_same {n : Nat} {so : List Pl} {sh sh' : List Int} (h : ∀ c, c ∈ sh ↔ c ∈ sh') : val n so sh = val n so sh' := by
  unfold val
  rw [fcells_same h]
  exact valF_same _ _ _ _ h
/-- the groups' greatest value -/
theorem wrst_gs {n : Nat} {so : List Pl} {c : Int} {sh : List Int} {gs : List Gp} (h : so ≠ []) (g1 : ∀ g ∈ gs, g.2.2 = so.filter fun p => decide (wordM p c sh = g.1)) (g2 : ∀ g ∈ gs, ∃ p ∈ so, wordM p c sh = g.1) (g3 : ∀ p ∈ so, ∃ g ∈ gs, g.1 = wordM p c sh) :
    maxI (gs.map fun g => val n g.2.2 (sh ++ [c])) = some (wrst n so c sh) := by
  have e : maxI (so.map fun p => val n (grp so c sh (wordM p c sh)) (sh ++ [c])) = some (wrst n so c sh) := by
    unfold wrst
    cases so with
    | nil => exact absurd rfl h
    | cons => rfl
  rw [← e]
  refine maxI_eq (fun y hy => ?_) (fun y hy => ?_)
  · obtain ⟨g, hgm, rfl⟩ := List.mem_map.mp hy
    obtain ⟨p, hp, ew⟩ := g2 g hgm
    refine List.mem_map.mpr ⟨p, hp, ?_⟩
    rw [g1 g hgm, ew]
    rfl
  · obtain ⟨p, hp, rfl⟩ := List.mem_map.mp hy
    obtain ⟨g, hgm, ew⟩ := g3 p hp
    refine List.mem_map.mpr ⟨g, hgm, ?_⟩
    rw [g1 g hgm, ew]
    rfl
theorem min_some {xs : List Int} (h : xs ≠ []) : minI xs = some ((minI xs).getD 0) := by
  cases xs with
  | nil => exact absurd rfl h
  | cons => rfl
/-! ## what is known -/
abbrev Mk := List Pl × List Int
def kI (l : List Int) : NK := .tup (l.map .num)
def kP (p : Pl) : NK := .tup (p.map kI)
def kM (m : Mk) : NK := .tup [.tup (m.1.map kP), kI m.2]
def eM (m : Mk) : D := .tup [.tup (m.1.map tT), tI m.2]
theorem allN_map {α : Type} {f : D → Option NK} {e : α → D} {k : α → NK} (h : ∀ x, f (e x) = some (k x)) : ∀ l : List α, allN f (l.map e) = some (l.map k)
  | [] => rfl
  | x :: l => by
    show (f (e x)).bind (fun k => (allN f (l.map e)).map (k :: ·)) = _
    rw [h, allN_map h l]
    rfl
theorem nk_I (n : Nat) (l : List Int) : nkN (n + 1) (tI l) = some (kI l) := by
  show (allN (nkN n) (l.map D.int)).map NestedKey.tup = _
  rw [allN_map (k := fun i => .num i) (fun i => by cases n <;> rfl)]
  rfl
theorem nk_P (n : Nat) (p : Pl) : nkN (n + 2) (tT p) = some (kP p) := by
  show (allN (nkN (n + 1)) (p.map tI)).map NestedKey.tup = _
  rw [allN_map (nk_I n)]
  rfl
theorem nk_M (m : Mk) : nkT (eM m) = some (kM m) := by
  have h1 : nkN 7 (.tup (m.1.map tT)) = some (.tup (m.1.map kP)) := by
    show (allN (nkN 6) (m.1.map tT)).map NestedKey.tup = _
    rw [allN_map (nk_P 4)]
    rfl
  have h2 : nkN 7 (tI m.2) = some (kI m.2) := nk_I 6 m.2
  show (allN (nkN 7) [.tup (m.1.map tT), tI m.2]).map NestedKey.tup = _
  show ((nkN 7 (.tup (m.1.map tT))).bind fun k => ((nkN 7 (tI m.2)).bind fun k2 => (some []).map (k2 :: ·)).map (k :: ·)).map NestedKey.tup = _
  rw [h1, h2]
  rfl
theorem map_inj {α β : Type} {f : α → β} (h : ∀ a b, f a = f b → a = b) : ∀ {l m : List α}, l.map f = m.map f → l = m
  | [], [], _ => rfl
  | [], _ :: _, e => by cases e
  | _ :: _, [], e => by cases e
  | a :: l, b :: m, e => by
    obtain ⟨e1, e2⟩ := List.cons.inj e
    rw [h _ _ e1, map_inj h e2]
theorem kI_inj (a b : List Int) (h : kI a = kI b) : a = b := map_inj (fun x y e => NestedKey.num.inj e) (NestedKey.tup.inj h)
theorem kP_inj (a b : Pl) (h : kP a = kP b) : a = b := map_inj kI_inj (NestedKey.tup.inj h)
theorem kM_inj (a b : Mk) (h : kM a = kM b) : a = b := by
  obtain ⟨e1, e2⟩ := List.cons.inj (NestedKey.tup.inj h)
  obtain ⟨e3, _⟩ := List.cons.inj e2
  obtain ⟨a1, a2⟩ := a
  obtain ⟨b1, b2⟩ := b
  have h1 : a1 = b1 := map_inj kP_inj (NestedKey.tup.inj e1)
  have h2 : a2 = b2 := kI_inj _ _ e3
  rw [h1, h2]
def Em : Dz.Enc Mk := ⟨eM, kM, nk_M, kM_inj⟩
abbrev Kn := List (Mk × Int)
def knO (l : Kn) : O := .dig (Dz.keyE Em l) (Dz.valE D.int l)
/-- what is known is right -/
def Ok (n : Nat) (l : Kn) : Prop := ∀ so sh v, Dz.look (so, isort sh) l = some v → v = val n so sh
theorem ok_nil (n : Nat) : Ok n [] := fun _ _ _ h => by cases h
theorem isort_mem {a b : List Int} (h : isort a = isort b) (c : Int) : c ∈ a ↔ c ∈ b := by
  rw [← (isort_perm a).mem_iff, ← (isort_perm b).mem_iff, h]
theorem ok_put {n : Nat} {l : Kn} {so : List Pl} {sh : List Int} (h : Ok n l) : Ok n (Dz.upd (so, isort sh) (val n so sh) l) := fun so' sh' v e => by
  rw [Dz.look_upd] at e
  by_cases c : ((so, isort sh) : Mk) = (so', isort sh')
  · rw [if_pos c] at e
    cases e
    obtain ⟨e1, e2⟩ := Prod.mk.inj c
    subst e1
    exact val_same (isort_mem e2)
  · rw [if_neg c] at e
    exact h _ _ _ e
/-- how many more are known then -/
def Bd : Nat → Nat
  | 0 => 0
  | r + 1 => 1 + 3 * (r + 1) * Bd r
end K11
end T_Q11
section T_Q11b
set_option Elab.async false
set_option linter.all false
set_option maxRecDepth 100000
set_option maxHeartbeats 4000000
set_option pp.maxSteps 2000
namespace K11
open PySem Gx Pg Mx
/-! ## the shots with one more -/
theorem trues_succ (n : Nat) : trues (n + 1) = trues n ++ [.bl true] := List.replicate_succ'
theorem has_int {i : Int} : ∀ (l : List Int), hasK (.inl i) (l.map D.int) = decide (i ∈ l)
  | [] => rfl
  | x :: l => by
    show (decide (keyOf (D.int x) = some (Sum.inl i)) || hasK (.inl i) (l.map D.int)) = _
    rw [has_int l]
    by_cases c : i = x
    · subst c
      rw [decide_eq_true (show keyOf (D.int i) = some (Sum.inl i) from rfl), decide_eq_true List.mem_cons_self]; rfl
    · rw [decide_eq_false (show ¬ keyOf (D.int x) = some (Sum.inl i) from fun z => c (Sum.inl.inj (Option.some.inj z)).symm), Bool.false_or]
      exact decide_eq_decide.mpr ⟨List.mem_cons_of_mem _, fun h => (List.mem_cons.mp h).resolve_left c⟩
theorem put_new {i : Int} {l : List Int} (h : i ∉ l) : putKD (.inl i) (.bl true) (l.map D.int) (trues l.length) = ((l ++ [i]).map D.int, trues (l ++ [i]).length) := by
  unfold putKD
  rw [has_int, decide_eq_false h, if_neg (by decide), List.map_append, List.length_append, List.length_singleton, trues_succ]
  rfl
theorem merge_new : ∀ (l acc : List Int), (acc ++ l).Nodup → mergeD (l.map fun i => ((Sum.inl i : L2.Key), D.bl true)) (acc.map D.int, trues acc.length) = ((acc ++ l).map D.int, trues (acc ++ l).length)
  | [], acc, _ => by rw [List.append_nil]; rfl
  | i :: l, acc, h => by
    have hi : i ∉ acc := fun z => (List.nodup_append.mp h).2.2 i z i List.mem_cons_self rfl
    show mergeD (l.map fun i => ((Sum.inl i : L2.Key), D.bl true)) (putKD (.inl i) (.bl true) (acc.map D.int) (trues acc.length)) = _
    rw [put_new hi]
    have e : acc ++ i :: l = (acc ++ [i]) ++ l := by simp
    rw [e] at h ⊢
    exact merge_new l (acc ++ [i]) h
theorem keys_int : ∀ l : List Int, keysOf (l.map D.int) = some (l.map Sum.inl)
  | [] => rfl
  | i :: l => by
    show (keyOf (D.int i)).bind (fun k => (keysOf (l.map D.int)).map (k :: ·)) = _
    rw [keys_int l]
    rfl
theorem zip_trues : ∀ l : List Int, (l.map (Sum.inl : Int → L2.Key)).zip (trues l.length) = l.map fun i => ((Sum.inl i : L2.Key), D.bl true)
  | [] => rfl
  | i :: l => by
    show ((Sum.inl i : L2.Key) :: l.map Sum.inl).zip (D.bl true :: trues l.length) = _
    rw [List.zip_cons_cons, zip_trues l]
    rfl
theorem cpy_int {l : List Int} (nd : l.Nodup) (hl : l.length ≤ 1000) : cpyD (.dic (l.map D.int) (trues l.length)) = some (l.map D.int, trues l.length) := by
  have h6 : six (l.map D.int) = false := by cases l <;> rfl
  have hu : unM (l.map D.int) = l.map D.int := by cases l <;> rfl
  show (if six (l.map D.int) = true then none else (keysOf (unM (l.map D.int))).bind fun js => if js.length ≤ 1000 ∧ js.length = (trues l.length).length then some (mergeD (js.zip (trues l.length)) ([], [])) else none) = _
  rw [h6, if_neg (by decide), hu, keys_int]
  show (if (l.map Sum.inl).length ≤ 1000 ∧ (l.map Sum.inl).length = (trues l.length).length then some (mergeD ((l.map (Sum.inl : Int → L2.Key)).zip (trues l.length)) ([], [])) else none) = _
  rw [if_pos ⟨by rw [List.length_map]; exact hl, by simp [trues]⟩, zip_trues]
  have := merge_new l [] (by simpa using nd)
  exact congrArg some this
theorem e_Cpy {fo fk : EM} {sd : Sl} {own : Own} {l : List Int} {c : Int} (hf : fo sd own = some (.ok (.d (.dic (l.map D.int) (trues l.length))), own)) (hk : fk sd own = some (.ok (.d (.int c)), own)) (nd : l.Nodup) (hl : l.length ≤ 1000) (hc : c ∉ l) :
    eCpyK fo fk (eK (.bl true)) sd own = some (.ok (.d (.dic ((l ++ [c]).map D.int) (trues (l ++ [c]).length))), own) := by
  unfold eCpyK
  rw [s_bind_ok hf]
  have e1 : (M.ask fun _ => cpyD (.dic (l.map D.int) (trues l.length))) sd own = some (.ok (l.map D.int, trues l.length), own) := by rw [s_ask, cpy_int nd hl]
  show M.bind (M.ask fun _ => cpyD (.dic (l.map D.int) (trues l.length))) _ sd own = _
  rw [s_bind_ok e1, s_bind_ok hk]
  show some (Rz.ok (SV.d (.dic (putKD (.inl c) (.bl true) (l.map D.int) (trues l.length)).1 (putKD (.inl c) (.bl true) (l.map D.int) (trues l.length)).2)), own) = _
  rw [put_new hc]
/-! ## a comprehension whose items change what is known -/
theorem lc_st {α : Type} {enc : α → D} {tg : GM} {t : TM} {f : EM} {sd0 : Sl} (J : Nat → Own → Prop) (g : α → D) : ∀ (xs : List α) (own : Own), J xs.length own →
    (∀ x ∈ xs, ∀ i own, J (i + 1) own → ∃ sd1 own', tg (enc x) sd0 = some sd1 ∧ t sd1 own = some (.ok true, own) ∧ f sd1 own = some (.ok (.d (g x)), own') ∧ J i own') →
    ∃ own', lcL tg t f sd0 (xs.map enc) own = some (xs.map g, own') ∧ J 0 own'
  | [], own, h, _ => ⟨own, rfl, h⟩
  | x :: xs, own, h, st => by
    obtain ⟨sd1, o1, e1, e2, e3, h1⟩ := st x List.mem_cons_self xs.length own h
    obtain ⟨o2, e4, h2⟩ := lc_st J g xs o1 h1 fun y hy => st y (List.mem_cons_of_mem _ hy)
    refine ⟨o2, ?_, h2⟩
    rw [List.map_cons]
    unfold lcL
    simp only [e1, e2, e3, e4]
    rfl
theorem e_LCst {α : Type} {enc : α → D} {src : IM} {vs : List Nat} {tg : GM} {t : TM} {f : EM} {sd : Sl} {own : Own} {xs : List α} (J : Nat → Own → Prop) (g : α → D) (hs : src sd own = some (.ok (xs.map enc), own)) (hz : xs.length < sizeLine) (h0 : J xs.length own)
    (st : ∀ x ∈ xs, ∀ i own, J (i + 1) own → ∃ sd1 own', tg (enc x) (wipeD sd vs) = some sd1 ∧ t sd1 own = some (.ok true, own) ∧ f sd1 own = some (.ok (.d (g x)), own') ∧ J i own') :
    ∃ own', eLC src vs tg t f sd own = some (.ok (.d (.lst (xs.map g))), own') ∧ J 0 own' := by
  obtain ⟨o, e, h⟩ := lc_st J g xs own h0 st
  refine ⟨o, ?_, h⟩
  unfold eLC
  rw [s_bind_ok hs, List.length_map, if_pos hz, e]
theorem e_Ints {m : List Int → Option Int} {f : EM} {sd : Sl} {own o1 : Own} {is : List Int} {v : Int} (h : f sd own = some (.ok (.d (.lst (is.map D.int))), o1)) (hm : m is = some v) : eCB (m1 (mInts fun is => (m is).map D.int)) (aCons f aNil) sd own = some (.ok (.d (.int v)), o1) := by
  refine e_C1 h ?_
  show ((some (is.map D.int)).bind fun ds => (intsD ds).bind fun is => (m is).map D.int) = _
  rw [Option.bind_some, intsD_of, Option.bind_some, hm]
  rfl
/-! ## the program's trial -/
structure St (n k k1 : Nat) (l : Kn) (own : Own) : Prop where
  a : own[k]? = some (.ins 4 [.d (.int n), .h k1])
  b : own[k1]? = some (knO l)
  ne : k1 ≠ k
theorem St.put {n k k1 : Nat} {l l' : Kn} {own : Own} (h : St n k k1 l own) : St n k k1 l' (own.set k1 (knO l')) :=
  ⟨by rw [List.getElem?_set_ne h.ne]; exact h.a, by rw [List.getElem?_set_self (List.getElem?_eq_some_iff.mp h.b).1], h.ne⟩
structure Fine (n : Nat) (so : List Pl) (sh : List Int) : Prop where
  ne : so ≠ []
  len : so.length ≤ 1000
  sm : ∀ p ∈ so, (∀ s ∈ p, s.length ≤ 1000) ∧ p.flatten.length ≤ 1000
  cl : ∀ p ∈ so, ∀ c ∈ p.flatten, 0 ≤ c ∧ c < n
  good : Good n sh
  hn : n ≤ 6
theorem Fine.sh {n : Nat} {so : List Pl} {sh : List Int} (h : Fine n so sh) : sh.length ≤ 6 := by
  have : sh.length ≤ (rn n).length := h.good.1.length_le_of_subset fun c hc => by
    obtain ⟨h1, h2⟩ := h.good.2 c hc
    unfold rn
    exact List.mem_map.mpr ⟨c.toNat, List.mem_range.mpr (by omega), by omega⟩
  rw [rn_len] at this
  have := h.hn
  omega
theorem fc_mem {n : Nat} {sh : List Int} {c : Int} (h : c ∈ fcells n sh) : (0 ≤ c ∧ c < n) ∧ c ∉ sh := by
  unfold fcells rn at h
  obtain ⟨h1, h2⟩ := List.mem_filter.mp h
  obtain ⟨i, hi, rfl⟩ := List.mem_map.mp h1
  have := List.mem_range.mp hi
  exact ⟨by omega, by simpa using h2⟩
theorem Fine.later {n : Nat} {so so' : List Pl} {sh : List Int} {c : Int} (h : Fine n so sh) (hc : c ∈ fcells n sh) (hs : ∀ p ∈ so', p ∈ so) (hl : so'.length ≤ so.length) (hne : so' ≠ []) : Fine n so' (sh ++ [c]) := by
  obtain ⟨h1, h2⟩ := fc_mem hc
  refine ⟨hne, Nat.le_trans hl h.len, fun p hp => h.sm p (hs p hp), fun p hp => h.cl p (hs p hp), ⟨List.nodup_append.mpr ⟨h.good.1, by simp, fun a ha b hb z => ?_⟩, fun x hx => ?_⟩, h.hn⟩
  · rw [List.mem_singleton.mp hb] at z
    exact h2 (z ▸ ha)
  · rcases List.mem_append.mp hx with hx | hx
    · exact h.good.2 x hx
    · rw [List.mem_singleton.mp hx]; exact h1
def RunB (n : Nat) (F : FM) (m : Nat) : Prop := ∀ so sh own k k1 l, Fine n so sh → (fcells n sh).length < m → St n k k1 l own → Ok n l → l.length + Bd (fcells n sh).length ≤ 1000000 →
  ∃ l', F [.h k, .d (.lst (so.map tT)), .d (.dic (sh.map D.int) (trues sh.length))] own = some (.ok (.d (.int (val n so sh))), own.set k1 (knO l')) ∧ Ok n l' ∧ l'.length ≤ l.length + Bd (fcells n sh).length
theorem e_MethW4 {k : Nat} {N : Nat} {Ff : FM} {fo : EM} {a : AM} {sd : Sl} {own : Own} {svs : List SV} {ys : List SV} {r : Rz SV} {o2 : Own} (hf : fo sd own = some (.ok (.h k), own)) (hk : own[k]? = some (.ins 4 svs)) (ha : a sd own = some (.ok ys, own)) (hl : ys.length + 1 = N) (h : Ff (.h k :: ys) own = some (r, o2)) :
    eMethW 4 N Ff fo a sd own = some (r, o2) := by
  unfold eMethW
  have a0 : (M.ask fun own => insV 4 own (.h k)) sd own = some (.ok (), own) := by
    rw [s_ask]
    show (match own[k]? with | some (.ins c' _) => if c' = 4 then some () else none | _ => none).map _ = _
    rw [hk]
    rfl
  rw [s_bind_ok hf, s_bind_ok a0, s_bind_ok ha]
  unfold callW
  rw [if_pos (by simpa using hl), h]
theorem worst_run {n j : Nat} {F : FM} (RB : RunB n F j) {so : List Pl} {sh : List Int} {c : Int} {own : Own} {k k1 : Nat} {l : Kn} (Fi : Fine n so sh) (hc : c ∈ fcells n sh) (hj : (fcells n sh).length ≤ j) (S : St n k k1 l own) (O : Ok n l) (hB : l.length + 3 * Bd ((fcells n sh).length - 1) ≤ 1000000) :
    ∃ l', F_Sinking_worstO F [.h k, .d (.lst (so.map tT)), .d (.dic (sh.map D.int) (trues sh.length)), .d (.int c)] own = some (.ok (.d (.int (wrst n so c sh))), own.set k1 (knO l')) ∧ Ok n l' ∧ l'.length ≤ l.length + 3 * Bd ((fcells n sh).length - 1) := by
  have hr := fc_snoc hc
  have hcn := (fc_mem hc).2
  have h6 := Fi.sh
  obtain ⟨gs, o, e, g0, g1, g2, g3⟩ := parted_run (c := c) (k := sh.length) (ps := so) rfl (fun p hp => (Fi.sm p hp).1) (Nat.le_trans Fi.len (by decide))
  have cp : ∀ sd own, callD 3 F_parted [.d (.lst (so.map tT)), .d (.int c), .d (.dic (sh.map D.int) (trues sh.length))] sd own = some (.ok (.d (parD gs)), own) := cD (ds := [.lst (so.map tT), .int c, .dic (sh.map D.int) (trues sh.length)]) rfl rfl e
  have wg := wrst_gs (n := n) Fi.ne g1 g2 g3
  generalize hb : (fcells n sh).length - 1 = r at hB ⊢
  have er : (fcells n (sh ++ [c])).length = r := by omega
  unfold F_Sinking_worstO
  have s1 := e_Cpy (fo := eV 2) (fk := eV 3) (sd := [some (.h k), some (.d (.lst (so.map tT))), some (.d (.dic (sh.map D.int) (trues sh.length))), some (.d (.int c)), none, none]) (own := own) (l := sh) (c := c) rfl rfl Fi.good.1 (by omega) hcn
  have lc := e_LCst (enc := fun g : Gp => D.lst (g.2.2.map tT)) (src := iVal (eCallD 3 F_parted (aCons (eV 1) (aCons (eV 3) (aCons (eV 2) aNil))))) (vs := [5]) (tg := tgN 5) (t := tTrue) (f := eMethW 4 3 F (eV 0) (aCons (eV 5) (aCons (eV 4) aNil)))
    (sd := [some (.h k), some (.d (.lst (so.map tT))), some (.d (.dic (sh.map D.int) (trues sh.length))), some (.d (.int c)), some (.d (.dic ((sh ++ [c]).map D.int) (trues (sh ++ [c]).length))), none]) (own := own) (xs := gs)
    (fun i o => ∃ l', o = own.set k1 (knO l') ∧ Ok n l' ∧ l'.length + i * Bd r ≤ l.length + gs.length * Bd r) (fun g => D.int (val n g.2.2 (sh ++ [c])))
    (e_iVal (ks := gKs gs) (e_CallD (xs := [.d (.lst (so.map tT)), .d (.int c), .d (.dic (sh.map D.int) (trues sh.length))]) rfl cp)) (small (by omega))
    ⟨l, by
      apply List.ext_getElem?
      intro i
      by_cases hi : k1 = i
      · subst hi; rw [List.getElem?_set_self (List.getElem?_eq_some_iff.mp S.b).1]; exact S.b
      · rw [List.getElem?_set_ne hi], O, Nat.le_refl _⟩
    (fun g hg i o ⟨l1, ho, O1, hl1⟩ => by
      have hge := g1 g hg
      have hne : g.2.2 ≠ [] := fun z => by
        obtain ⟨p, hp, ew⟩ := g2 g hg
        have : p ∈ g.2.2 := by rw [hge]; exact List.mem_filter.mpr ⟨hp, by simpa using ew⟩
        rw [z] at this
        cases this
      have Fi' : Fine n g.2.2 (sh ++ [c]) := Fi.later hc (fun p hp => by rw [hge] at hp; exact (List.mem_filter.mp hp).1) (by rw [hge]; exact List.length_filter_le _ _) hne
      have S1 : St n k k1 l1 o := by rw [ho]; exact S.put
      have hm : (i + 1) * Bd r = i * Bd r + Bd r := Nat.succ_mul _ _
      have h3 : gs.length * Bd r ≤ 3 * Bd r := Nat.mul_le_mul_right _ g0
      obtain ⟨l2, e2, O2, hl2⟩ := RB g.2.2 (sh ++ [c]) o k k1 l1 Fi' (by omega) S1 O1 (by rw [er]; omega)
      rw [er] at hl2
      refine ⟨_, _, rfl, rfl, e_MethW4 (k := k) (ys := [.d (.lst (g.2.2.map tT)), .d (.dic ((sh ++ [c]).map D.int) (trues (sh ++ [c]).length))]) rfl S1.a rfl rfl e2, l2, by rw [ho, List.set_set], O2, by omega⟩)
  obtain ⟨o2, e2, l', rfl, O', hl'⟩ := lc
  rw [show gs.map (fun g => D.int (val n g.2.2 (sh ++ [c]))) = (gs.map fun g => val n g.2.2 (sh ++ [c])).map D.int by rw [List.map_map]; rfl] at e2
  have h3 : gs.length * Bd r ≤ 3 * Bd r := Nat.mul_le_mul_right _ g0
  refine ⟨l', run_rt ((st_Seq ((st_Set s1).trans rfl)).trans (st_Ret (e_Ints (m := maxI) e2 wg))), O', by omega⟩
end K11
end T_Q11b
section T_Q11c
set_option Elab.async false
set_option linter.all false
set_option maxRecDepth 100000
set_option maxHeartbeats 4000000
set_option pp.maxSteps 2000
namespace K11
open PySem Gx Pg Mx
theorem st_SeqRt {p q : SM} {sd : Sl} {own o1 : Own} {s : SV} (h : p sd own = some (.rt s o1)) : sSeq p q sd own = some (.rt s o1) := by
  rw [s_sSeq, h]
theorem flat_true : ∀ (p : Pl) (g : Int → D), ((p.filter fun _ => true).flatMap fun s => (s.filter fun _ => true).map g) = p.flatten.map g
  | [], _ => rfl
  | s :: p, g => by
    have hs : s.filter (fun _ => true) = s := List.filter_eq_self.mpr fun _ _ => rfl
    rw [List.filter_cons_of_pos rfl, List.flatMap_cons, flat_true p g, List.flatten_cons, List.map_append, hs]
theorem st_Put {fo fi fv : EM} {sd : Sl} {own o1 : Own} {k : Nat} {l : Kn} {m : Mk} {v : Int} (hv : fv sd own = some (.ok (.d (.int v)), o1)) (ho : fo sd o1 = some (.ok (.h k), o1)) (hi : fi sd o1 = some (.ok (.d (eM m)), o1)) (hk : o1[k]? = some (knO l)) (hl : l.length ≤ 1000000) :
    sPutN fo fi fv sd own = some (.nx sd (o1.set k (knO (Dz.upd m v l)))) := by
  unfold sPutN
  rw [s_Sbind, hv]
  simp only
  rw [s_Sbind, ho]
  simp only
  rw [s_Sbind, hi]
  simp only
  have hk : o1[k]? = some (.dig (Dz.keyE Em l) (Dz.valE D.int l)) := hk
  have hz : (Dz.keyE Em l).length < sizeLine := by rw [Dz.keyE_len, sizeL]; omega
  unfold putGK
  simp only [hk, nk_M, Option.bind_some, if_pos hz, Option.map_some]
  have := Dz.putND_enc Em D.int m v l
  have : putND (eM m) (kM m) (.int v) (Dz.keyE Em l) (Dz.valE D.int l) = (Dz.keyE Em (Dz.upd m v l), Dz.valE D.int (Dz.upd m v l)) := this
  rw [this]
  rfl
def bS (n k : Nat) (so : List Pl) (sh : List Int) (s3 s4 : Option SV) : Sl := [some (.h k), some (.d (.lst (so.map tT))), some (.d (.dic (sh.map D.int) (trues sh.length))), s3, s4, none, none, none]
theorem e_over {n k : Nat} {so : List Pl} {sh : List Int} {own : Own} (Fi : Fine n so sh) : eCB (m1 mAll) (aCons (eLC (iSeq (eV 1)) [5] (tgN 5) tTrue (eCB (m1 mAll) (aCons (eLC2 (iSeq (eV 5)) [6, 7] (tgN 6) tTrue (iSeq (eV 6)) [7] (tgN 7) tTrue (eB (mIn false) (eV 7) (eV 2))) aNil))) aNil) (bS n k so sh none none) own = some (.ok (.d (.bl (overM so sh))), own) := by
  refine e_C1 (e_LC0 (enc := tT) (fun p : Pl => D.bl (p.flatten.all fun c => decide (c ∈ sh))) (e_iSeqL rfl) (small (Nat.le_trans Fi.len (by decide))) fun p hpm => ⟨_, rfl, ?_⟩) (all_bl _ _)
  have e := e_LC2 (enc := tI) (enc1 := D.int) (src := iSeq (eV 5)) (src1 := iSeq (eV 6)) (vs := [6, 7]) (vs1 := [7]) (tg := tgN 6) (t := tTrue) (tg1 := tgN 7) (t1 := tTrue) (f := eB (mIn false) (eV 7) (eV 2)) (xs := p) (sd := [some (.h k), some (.d (.lst (so.map tT))), some (.d (.dic (sh.map D.int) (trues sh.length))), none, none, some (.d (tT p)), none, none]) (own := own)
    (fun _ => true) id (fun _ _ => true) (fun _ x => D.bl (decide (x ∈ sh))) (e_iSeqT rfl) (fun s hs => ⟨_, rfl, rfl, fun _ => ⟨e_iSeqT rfl, fun x hx => ⟨_, rfl, rfl, fun _ => e_B rfl rfl (by rw [in_dI (by simp [trues])]; simp)⟩⟩⟩) (by
      show ((p.filter fun _ => true).flatMap fun s => (s.filter fun _ => true).map fun x => D.bl (decide (x ∈ sh))).length < sizeLine
      rw [flat_true, List.length_map]
      exact small (Nat.le_trans (Fi.sm p hpm).2 (by decide)))
  refine e_C1 e ?_
  show mAll own (.d (.lst ((p.filter fun _ => true).flatMap fun s => (s.filter fun _ => true).map fun x => D.bl (decide (x ∈ sh))))) = _
  rw [flat_true]
  exact all_bl _ _
theorem e_mark {n k : Nat} {so : List Pl} {sh : List Int} {own : Own} : eTup (aCons (eCB (m1 mTupC) (aCons (eV 1) aNil)) (aCons (eCB (m1 mTupC) (aCons (eCB (m1 mSortK) (aCons (eV 2) aNil)) aNil)) aNil)) (bS n k so sh none none) own = some (.ok (.d (eM (so, isort sh))), own) := by
  have s1 : eCB (m1 mSortK) (aCons (eV 2) aNil) (bS n k so sh none none) own = some (.ok (.d (lI (isort sh))), own) := e_C1 (x := .d (.dic (sh.map D.int) (trues sh.length))) rfl (by
    show (intsD (sh.map D.int)).map (fun is => D.lst ((isort is).map D.int)) = _
    rw [intsD_of]
    rfl)
  have s2 : eCB (m1 mTupC) (aCons (eCB (m1 mSortK) (aCons (eV 2) aNil)) aNil) (bS n k so sh none none) own = some (.ok (.d (tI (isort sh))), own) := e_C1 s1 rfl
  have s3 : eCB (m1 mTupC) (aCons (eV 1) aNil) (bS n k so sh none none) own = some (.ok (.d (.tup (so.map tT))), own) := e_C1 (x := .d (.lst (so.map tT))) rfl rfl
  rw [s_eTup, s_bind_ok (a_c s3 (a_1 s2))]
  rfl
theorem open_cell {n : Nat} {so : List Pl} {sh : List Int} (Fi : Fine n so sh) (h : overM so sh = false) : fcells n sh ≠ [] := fun z => by
  unfold overM at h
  rw [List.all_eq_false] at h
  obtain ⟨p, hp, h2⟩ := h
  have h2 : (p.flatten.all fun c => decide (c ∈ sh)) = false := by simpa using h2
  rw [List.all_eq_false] at h2
  obtain ⟨c, hc, h3⟩ := h2
  obtain ⟨a, b⟩ := Fi.cl p hp c hc
  have : c ∈ fcells n sh := by
    unfold fcells rn
    refine List.mem_filter.mpr ⟨List.mem_map.mpr ⟨c.toNat, List.mem_range.mpr (by omega), by omega⟩, by simpa using h3⟩
  rw [z] at this
  cases this
theorem set_same {n k k1 : Nat} {l : Kn} {own : Own} (S : St n k k1 l own) : own.set k1 (knO l) = own := by
  apply List.ext_getElem?
  intro i
  by_cases hi : k1 = i
  · subst hi; rw [List.getElem?_set_self (List.getElem?_eq_some_iff.mp S.b).1]; exact S.b.symm
  · rw [List.getElem?_set_ne hi]
theorem e_Known {n k k1 : Nat} {l : Kn} {own : Own} {sd : Sl} (S : St n k k1 l own) (h : sd[0]? = some (some (.h k))) : eFld 4 1 (eV 0) sd own = some (.ok (.h k1), own) := by
  unfold eFld
  rw [s_bind_ok (e_V h), s_ask]
  simp only [S.a, if_true]
  rfl
theorem best_run {n j : Nat} {F : FM} (RB : RunB n F j) : RunB n (F_Sinking_bestO (F_Sinking_worstO F)) (j + 1) := by
  intro so sh own k k1 l Fi hj S O hB
  have h6 := Fi.sh
  have ov := e_over (k := k) (own := own) Fi
  cases ho : overM so sh with
  | true =>
    rw [ho] at ov
    refine ⟨l, ?_, O, by omega⟩
    rw [set_same S, val_over ho]
    exact run_rt (st_SeqRt ((st_IfT (t_E ov)).trans rfl))
  | false =>
    rw [ho] at ov
    have hne := open_cell Fi ho
    have start : ∀ {r}, (sSeq (sIf (tE (eB (mInN true) (eV 3) (eFld 4 1 (eV 0))))
      (sSeq (sSet 4 (eLC (iRg1 (aCons (eFld 4 0 (eV 0)) aNil)) [7] (tgN 7) (tE (eB (mIn true) (eV 7) (eV 2))) (eV 7)))
      (sPutN (eFld 4 1 (eV 0)) (eV 3) (eB mAdd (eK (.int 1)) (eCB (m1 mMinL) (aCons (eLC (iSeq (eV 4)) [7] (tgN 7) tTrue (eMethW 4 4 (F_Sinking_worstO F) (eV 0) (aCons (eV 1) (aCons (eV 2) (aCons (eV 7) aNil))))) aNil)))))
      sNil)
      (sRet (eB mIxN (eFld 4 1 (eV 0)) (eV 3)))) (bS n k so sh (some (.d (eM (so, isort sh)))) none) own = some (.rt (.d (.int (val n so sh))) r) →
      F_Sinking_bestO (F_Sinking_worstO F) [.h k, .d (.lst (so.map tT)), .d (.dic (sh.map D.int) (trues sh.length))] own = some (.ok (.d (.int (val n so sh))), r) := fun {r} h =>
      run_rt ((st_Seq (st_IfSkip (t_E ov))).trans ((st_Seq ((st_Set e_mark).trans rfl)).trans h))
    have cin : tE (eB (mInN true) (eV 3) (eFld 4 1 (eV 0))) (bS n k so sh (some (.d (eM (so, isort sh)))) none) own = some (.ok ((Dz.look (so, isort sh) l).isSome != true), own) := t_E (e_B (x := .d (eM (so, isort sh))) rfl (e_Known S rfl) (Dz.inN_own Em S.b))
    cases hlk : Dz.look (so, isort sh) l with
    | some v =>
      rw [hlk] at cin
      have hv := O so sh v hlk
      refine ⟨l, ?_, O, by omega⟩
      rw [set_same S]
      refine start ((st_Seq (st_IfSkip cin)).trans (st_Ret ?_))
      rw [← hv]
      exact e_B (y := .d (eM (so, isort sh))) (e_Known S rfl) rfl (Dz.ixN_own Em S.b hlk)
    | none =>
      rw [hlk] at cin
      have n0 : eFld 4 0 (eV 0) (bS n k so sh (some (.d (eM (so, isort sh)))) none) own = some (.ok (.d (.int n)), own) := by
        unfold eFld
        rw [s_bind_ok (e_V (h := rfl)), s_ask]
        simp only [S.a, if_true]
        rfl
      have cl : eLC (iRg1 (aCons (eFld 4 0 (eV 0)) aNil)) [7] (tgN 7) (tE (eB (mIn true) (eV 7) (eV 2))) (eV 7) (bS n k so sh (some (.d (eM (so, isort sh)))) none) own = some (.ok (.d (lI (fcells n sh))), own) := by
        have := e_LCf (enc := D.int) (enc1 := D.int) (vs := [7]) (tg := tgN 7) (t := tE (eB (mIn true) (eV 7) (eV 2))) (f := eV 7) (sd := bS n k so sh (some (.d (eM (so, isort sh)))) none) (own := own) (fun c => !decide (c ∈ sh)) id (e_iRn n0 (by have := Fi.hn; omega)) (small (by rw [rn_len]; have := Fi.hn; omega))
          (fun c hc => ⟨_, rfl, t_E (e_B rfl rfl (mIn_dicI rfl)), fun _ => rfl⟩)
        rw [List.map_id] at this
        exact this
      have hr : 0 < (fcells n sh).length := List.length_pos_iff.mpr hne
      have hBd : Bd (fcells n sh).length = 1 + (fcells n sh).length * (3 * Bd ((fcells n sh).length - 1)) := by
        obtain ⟨r, er⟩ : ∃ r, (fcells n sh).length = r + 1 := ⟨(fcells n sh).length - 1, by omega⟩
        rw [er]
        show 1 + 3 * (r + 1) * Bd r = 1 + (r + 1) * (3 * Bd r)
        rw [Nat.mul_comm 3 (r + 1), Nat.mul_assoc]
      have lc := e_LCst (enc := D.int) (src := iSeq (eV 4)) (vs := [7]) (tg := tgN 7) (t := tTrue) (f := eMethW 4 4 (F_Sinking_worstO F) (eV 0) (aCons (eV 1) (aCons (eV 2) (aCons (eV 7) aNil))))
        (sd := bS n k so sh (some (.d (eM (so, isort sh)))) (some (.d (lI (fcells n sh))))) (own := own) (xs := fcells n sh)
        (fun i o => ∃ l', o = own.set k1 (knO l') ∧ Ok n l' ∧ l'.length + i * (3 * Bd ((fcells n sh).length - 1)) ≤ l.length + (fcells n sh).length * (3 * Bd ((fcells n sh).length - 1))) (fun c => D.int (wrst n so c sh))
        (e_iSeqL rfl) (small (by have := fc_len (n := n) (sh := sh); have := Fi.hn; omega)) ⟨l, (set_same S).symm, O, Nat.le_refl _⟩
        (fun c hc i o ⟨l1, hoo, O1, hl1⟩ => by
          have S1 : St n k k1 l1 o := by rw [hoo]; exact S.put
          have hm : (i + 1) * (3 * Bd ((fcells n sh).length - 1)) = i * (3 * Bd ((fcells n sh).length - 1)) + 3 * Bd ((fcells n sh).length - 1) := Nat.succ_mul _ _
          obtain ⟨l2, e2, O2, hl2⟩ := worst_run RB (own := o) (k := k) (k1 := k1) Fi hc (by omega) S1 O1 (by omega)
          exact ⟨_, _, rfl, rfl, e_MethW4 (k := k) (ys := [.d (.lst (so.map tT)), .d (.dic (sh.map D.int) (trues sh.length)), .d (.int c)]) rfl S1.a rfl rfl e2, l2, by rw [hoo, List.set_set], O2, by omega⟩)
      obtain ⟨o2, e2, l', rfl, O', hl'⟩ := lc
      rw [show (fcells n sh).map (fun c => D.int (wrst n so c sh)) = ((fcells n sh).map fun c => wrst n so c sh).map D.int by rw [List.map_map]; rfl] at e2
      have mn := e_Ints (m := minI) e2 (min_some (by simpa using hne))
      have ad := e_B (m := mAdd) (f := eK (.int 1)) (x := .d (.int 1)) (own := own) (o1 := own) rfl mn (d := .int (val n so sh)) (by rw [val_eq ho hne]; rfl)
      have S' : St n k k1 l' (own.set k1 (knO l')) := S.put
      have pt := st_Put (fo := eFld 4 1 (eV 0)) (fi := eV 3) (k := k1) (m := (so, isort sh)) ad (e_Known S' rfl) rfl S'.b (by omega)
      rw [List.set_set] at pt
      have S2 : St n k k1 (Dz.upd (so, isort sh) (val n so sh) l') (own.set k1 (knO (Dz.upd (so, isort sh) (val n so sh) l'))) := S.put
      have hul := Dz.upd_len (so, isort sh) (val n so sh) l'
      refine ⟨Dz.upd (so, isort sh) (val n so sh) l', start ((st_Seq ((st_IfT cin).trans ((st_Seq ((st_Set cl).trans rfl)).trans pt))).trans (st_Ret ?_)), ok_put O', by omega⟩
      exact e_B (y := .d (eM (so, isort sh))) (e_Known S2 rfl) rfl (Dz.ixN_own Em S2.b (by rw [Dz.look_upd, if_pos rfl]))
theorem best_all (n : Nat) : ∀ j, RunB n (F_Sinking_best j) j
  | 0 => fun so sh own k k1 l _ h => absurd h (by omega)
  | j + 1 => best_run (best_all n j)
end K11
end T_Q11c
section T_Q11d
set_option Elab.async false
set_option linter.all false
set_option maxRecDepth 100000
set_option maxHeartbeats 4000000
set_option pp.maxSteps 2000
namespace K11
open PySem Gx Pg Mx
/-! ## all is sunk, said by the law -/

def loS (so : List Pl) (sh : List Int) (s2 s3 s4 : Option SV) : Sl := [some (.d (.lst (so.map tT))), some (.d (lI sh)), s2, s3, s4]
def loI : SM := (sIf (tE (eB mNe (eLC (iSeq (eV 3)) [4] (tgN 4) (tE (eB (mIn true) (eV 4) (eV 1))) (eV 4)) (eLst aNil))) (sRet (eK (.bl false))) sNil)
theorem lo_in {so : List Pl} {sh : List Int} {own : Own} : ∀ (p : Pl) (s2 s3 : Option SV), (∀ s ∈ p, s.length ≤ 1000) →
    (p.flatten.all (fun c => decide (c ∈ sh)) = true ∧ ∃ s3', forL (tgN 3) loI (p.map tI) (loS so sh s2 s3 none) own = some (.nx (loS so sh s2 s3' none) own)) ∨ (p.flatten.all (fun c => decide (c ∈ sh)) = false ∧ forL (tgN 3) loI (p.map tI) (loS so sh s2 s3 none) own = some (.rt (.d (.bl false)) own))
  | [], s2, s3, _ => .inl ⟨rfl, s3, rfl⟩
  | s :: p, s2, s3, h => by
    have hs := h s List.mem_cons_self
    have e0 : tgN 3 (tI s) (loS so sh s2 s3 none) = some (loS so sh s2 (some (.d (tI s))) none) := rfl
    have lc : eLC (iSeq (eV 3)) [4] (tgN 4) (tE (eB (mIn true) (eV 4) (eV 1))) (eV 4) (loS so sh s2 (some (.d (tI s))) none) own = some (.ok (.d (lI (s.filter fun c => !decide (c ∈ sh)))), own) := by
      have := e_LCf (enc := D.int) (enc1 := D.int) (vs := [4]) (tg := tgN 4) (t := tE (eB (mIn true) (eV 4) (eV 1))) (f := eV 4) (xs := s) (sd := loS so sh s2 (some (.d (tI s))) none) (own := own) (fun c => !decide (c ∈ sh)) id (e_iSeqT (f := eV 3) rfl) (small (by omega)) (fun c hc => ⟨_, rfl, t_E (e_B rfl rfl (by rw [in_lI]; cases decide (c ∈ sh) <;> rfl)), fun _ => rfl⟩)
      rw [List.map_id] at this
      exact this
    have cd : tE (eB mNe (eLC (iSeq (eV 3)) [4] (tgN 4) (tE (eB (mIn true) (eV 4) (eV 1))) (eV 4)) (eLst aNil)) (loS so sh s2 (some (.d (tI s))) none) own = some (.ok (!decide ((s.filter fun c => !decide (c ∈ sh)) = [])), own) := t_E (e_B lc rfl ne_nil)
    have hall : decide ((s.filter fun c => !decide (c ∈ sh)) = []) = s.all fun c => decide (c ∈ sh) := by
      have : ((s.filter fun c => !decide (c ∈ sh)) = []) ↔ (s.all fun c => decide (c ∈ sh)) = true := by
        rw [List.filter_eq_nil_iff, List.all_eq_true]
        exact ⟨fun h x hx => by have := h x hx; simpa using this, fun h x hx => by have := h x hx; simpa using this⟩
      by_cases c : (s.filter fun c => !decide (c ∈ sh)) = []
      · rw [decide_eq_true c, this.mp c]
      · rw [decide_eq_false c]
        cases hh : s.all fun c => decide (c ∈ sh) with
        | true => exact absurd (this.mpr hh) c
        | false => rfl
    rw [hall] at cd
    rw [List.map_cons, forL_1, e0, List.flatten_cons, List.all_append]
    cases hh : s.all fun c => decide (c ∈ sh) with
    | true =>
      rw [hh] at cd
      have st : loI (loS so sh s2 (some (.d (tI s))) none) own = some (.nx (loS so sh s2 (some (.d (tI s))) none) own) := st_IfSkip cd
      simp only [st]
      rcases lo_in (own := own) p s2 (some (.d (tI s))) (fun t ht => h t (List.mem_cons_of_mem _ ht)) with ⟨a, s3', e⟩ | ⟨a, e⟩
      · exact .inl ⟨by rw [a]; rfl, s3', e⟩
      · exact .inr ⟨by rw [a]; rfl, e⟩
    | false =>
      rw [hh] at cd
      have st : loI (loS so sh s2 (some (.d (tI s))) none) own = some (.rt (.d (.bl false)) own) := st_IfT cd
      simp only [st]
      exact .inr ⟨rfl, trivial⟩
theorem lover_loop {so : List Pl} {sh : List Int} {own : Own} : ∀ (ps : List Pl) (s2 s3 : Option SV), (∀ p ∈ ps, ∀ s ∈ p, s.length ≤ 1000) →
    (overM ps sh = true ∧ ∃ s2' s3', forL (tgN 2) (sFor (iSeq (eV 2)) (tgN 3) loI) (ps.map tT) (loS so sh s2 s3 none) own = some (.nx (loS so sh s2' s3' none) own)) ∨ (overM ps sh = false ∧ forL (tgN 2) (sFor (iSeq (eV 2)) (tgN 3) loI) (ps.map tT) (loS so sh s2 s3 none) own = some (.rt (.d (.bl false)) own))
  | [], s2, s3, _ => .inl ⟨rfl, s2, s3, rfl⟩
  | p :: ps, s2, s3, h => by
    have e0 : tgN 2 (tT p) (loS so sh s2 s3 none) = some (loS so sh (some (.d (tT p))) s3 none) := rfl
    rw [List.map_cons, forL_1, e0]
    have hov : overM (p :: ps) sh = (p.flatten.all (fun c => decide (c ∈ sh)) && overM ps sh) := rfl
    rw [hov]
    rcases lo_in (so := so) (sh := sh) (own := own) p (some (.d (tT p))) s3 (h p List.mem_cons_self) with ⟨a, s3', e⟩ | ⟨a, e⟩
    · have st : sFor (iSeq (eV 2)) (tgN 3) loI (loS so sh (some (.d (tT p))) s3 none) own = some (.nx (loS so sh (some (.d (tT p))) s3' none) own) := st_For (e_iSeqT rfl) e
      simp only [st]
      rw [a]
      rcases lover_loop ps (some (.d (tT p))) s3' (fun q hq => h q (List.mem_cons_of_mem _ hq)) with ⟨b, t2, t3, e2⟩ | ⟨b, e2⟩
      · exact .inl ⟨by rw [b]; rfl, t2, t3, e2⟩
      · exact .inr ⟨by rw [b]; rfl, e2⟩
    · have st : sFor (iSeq (eV 2)) (tgN 3) loI (loS so sh (some (.d (tT p))) s3 none) own = some (.rt (.d (.bl false)) own) := st_For (e_iSeqT rfl) e
      simp only [st]
      rw [a]
      exact .inr ⟨rfl, trivial⟩
theorem c_lsunk {so : List Pl} {sh : List Int} (hp : ∀ p ∈ so, ∀ s ∈ p, s.length ≤ 1000) (sd : Sl) (own : Own) : callD 2 F__law_sunk [.d (.lst (so.map tT)), .d (lI sh)] sd own = some (.ok (.d (.bl (overM so sh))), own) := by
  refine cD (ds := [.lst (so.map tT), lI sh]) (o1 := []) rfl rfl ?_ sd own
  unfold F__law_sunk
  refine run_rt ?_
  rcases lover_loop (so := so) (sh := sh) (own := []) so none none hp with ⟨a, s2, s3, e⟩ | ⟨a, e⟩
  · rw [a]
    exact (st_Seq (st_For (e_iSeqL rfl) e)).trans rfl
  · rw [a]
    exact st_SeqRt (st_For (src := iSeq (eV 0)) (sd := loS so sh none none none) (own := []) (e_iSeqL rfl) e)
/-! ## the answers' groups, in an object at any place -/
structure PJ (j : Nat) (c : Int) (sh : List Int) (pre : List Pl) (gs : List Gp) (own : Own) : Prop where
  o0 : own[j]? = some (gsObj gs)
  ob : ∀ g ∈ gs, own[g.2.1]? = some (.lst (g.2.2.map tT)) ∧ j < g.2.1
  nd : (gs.map (·.2.1)).Nodup
  kd : (gs.map (·.1)).Nodup
  con : ∀ g ∈ gs, g.2.2 = pre.filter fun p => decide (wordM p c sh = g.1)
  mem : ∀ g ∈ gs, ∃ p ∈ pre, wordM p c sh = g.1
  all : ∀ p ∈ pre, ∃ g ∈ gs, g.1 = wordM p c sh
def lS (n : Nat) (so : D) (sh : List Int) (s4 : Option SV) (c : Int) (j : Nat) (s8 s9 : Option SV) : Sl := [some (.d (.int n)), some (.d so), some (.d (lI sh)), some (.h 0), s4, some (.h 1), some (.d (.int c)), some (.h j), s8, s9, none, none]
def ljE : EM := (eSetd (eV 7) (eCallD 3 F__law_word (aCons (eV 8) (aCons (eV 6) (aCons (eV 2) aNil)))) (eLstH aNil))
def ljB : SM := (sSeq (sSet 9 ljE) (sExpr (eMut mmApp (eV 9) (aCons (eV 8) aNil))))
def pjRes (j : Nat) (own : Own) (gs : List Gp) (w : Wd) : Option Gp → SV × Own
  | some g => (.h g.2.1, own ++ [.lst []])
  | none => (.h own.length, (own ++ [O.lst []]).set j (O.dih (gKs gs ++ [D.str w.s]) (gHs gs ++ [SV.h own.length])))
theorem dih_at {own : Own} {gs : List Gp} {j : Nat} (h : own[j]? = some (gsObj gs)) : dihV own j = some (gKs gs, gHs gs) := by
  unfold dihV
  rw [h]
  cases gs <;> rfl
theorem pj_setd {j n : Nat} {c : Int} {so : D} {sh : List Int} {p : Pl} {gs : List Gp} {own : Own} {s4 s9 : Option SV} (hp : ∀ s ∈ p, s.length ≤ 1000) (h0 : own[j]? = some (gsObj gs)) (hl : gs.length ≤ 1000) :
    ljE (lS n so sh s4 c j (some (.d (tT p))) s9) own = some (.ok (pjRes j own gs (wordM p c sh) (gs.find? fun g => decide (g.1 = wordM p c sh))).1, (pjRes j own gs (wordM p c sh) (gs.find? fun g => decide (g.1 = wordM p c sh))).2) := by
  have h0' : (own ++ [O.lst []])[j]? = some (gsObj gs) := by
    have hlt : j < own.length := (List.getElem?_eq_some_iff.mp h0).1
    rw [List.getElem?_append_left hlt]; exact h0
  have cw : eCallD 3 F__law_word (aCons (eV 8) (aCons (eV 6) (aCons (eV 2) aNil))) (lS n so sh s4 c j (some (.d (tT p))) s9) own = some (.ok (.d (.str (wordM p c sh).s)), own) := e_CallD rfl (c_lword hp)
  unfold ljE eSetd
  have f1 : eV 7 (lS n so sh s4 c j (some (.d (tT p))) s9) own = some (.ok (.h j), own) := rfl
  rw [s_bind_ok f1]
  have e1 : (M.ask fun own => dihS own (.h j)) (lS n so sh s4 c j (some (.d (tT p))) s9) own = some (.ok (gKs gs, gHs gs), own) := by
    have h2 : dihS own (.h j) = some (gKs gs, gHs gs) := dih_at h0
    rw [s_ask, h2]
  rw [s_bind_ok e1, s_bind_ok cw, s_bind_ok lstH0]
  show (setdV (own ++ [O.lst []]) j (.str (wordM p c sh).s) (.h own.length)).map (fun p => (Rz.ok p.1, p.2)) = _
  unfold setdV
  rw [dih_at h0', Option.bind_some]
  show ((some (Sum.inr (wordM p c sh).s : L2.Key)).bind _).map _ = _
  rw [Option.bind_some]
  have hz : (gKs gs).length < sizeLine := by unfold gKs; rw [List.length_map]; exact small (by omega)
  simp only [if_pos hz, getKS_gs]
  cases gs.find? fun g => decide (g.1 = wordM p c sh) with
  | some g => rfl
  | none => rfl
theorem pj_step {j n : Nat} {c : Int} {so : D} {sh : List Int} {p : Pl} {pre : List Pl} {gs : List Gp} {own : Own} {s4 s9 : Option SV} (hp : ∀ s ∈ p, s.length ≤ 1000) (I : PJ j c sh pre gs own) (hl : pre.length ≤ 100000) (hgl : gs.length ≤ 1000) :
    ∃ gs' own' s9', ljB (lS n so sh s4 c j (some (.d (tT p))) s9) own = some (.nx (lS n so sh s4 c j (some (.d (tT p))) s9') own') ∧ PJ j c sh (pre ++ [p]) gs' own' ∧ ∀ i < j, own'[i]? = own[i]? := by
  have e := pj_setd (n := n) (c := c) (sh := sh) (so := so) (s4 := s4) (s9 := s9) hp I.o0 hgl
  have hlt : j < own.length := (List.getElem?_eq_some_iff.mp I.o0).1
  cases hf : gs.find? fun g => decide (g.1 = wordM p c sh) with
  | some g0 =>
    rw [hf] at e
    simp only [pjRes] at e
    have hm := List.mem_of_find?_eq_some hf
    have hw : g0.1 = wordM p c sh := of_decide_eq_true (p := g0.1 = wordM p c sh) (List.find?_some (p := fun g : Gp => decide (g.1 = wordM p c sh)) hf)
    obtain ⟨ho, hne⟩ := I.ob g0 hm
    have hj : g0.2.1 < own.length := (List.getElem?_eq_some_iff.mp ho).1
    have ho' : (own ++ [O.lst []])[g0.2.1]? = some (.lst (g0.2.2.map tT)) := by rw [List.getElem?_append_left hj]; exact ho
    have hcl : g0.2.2.length ≤ pre.length := by rw [I.con g0 hm]; exact List.length_filter_le _ _
    have e2 := e_Mut2 (mm := mmApp) (f := eV 9) (g := eV 8) (k := g0.2.1) (sd := lS n so sh s4 c j (some (.d (tT p))) (some (.h g0.2.1))) (y := .d (tT p)) rfl ho' rfl ho' (mmApp_eq (by rw [List.length_map]; omega))
    refine ⟨gs.map fun g => if g.1 = wordM p c sh then (g.1, g.2.1, g.2.2 ++ [p]) else g, (own ++ [O.lst []]).set g0.2.1 (O.lst (g0.2.2.map tT ++ [tT p])), some (.h g0.2.1), (st_Seq ((st_Set e).trans rfl)).trans (st_Expr e2), ?_, fun i hi => by rw [List.getElem?_set_ne (by omega), List.getElem?_append_left (by omega)]⟩
    have k1 : ∀ l : List Gp, gKs (l.map fun g => if g.1 = wordM p c sh then (g.1, g.2.1, g.2.2 ++ [p]) else g) = gKs l := fun l => by
      unfold gKs
      rw [List.map_map]
      refine List.map_congr_left fun g _ => ?_
      show D.str (if g.1 = wordM p c sh then (g.1, g.2.1, g.2.2 ++ [p]) else g).1.s = _
      split <;> rfl
    have k2 : ∀ l : List Gp, gHs (l.map fun g => if g.1 = wordM p c sh then (g.1, g.2.1, g.2.2 ++ [p]) else g) = gHs l := fun l => by
      unfold gHs
      rw [List.map_map]
      refine List.map_congr_left fun g _ => ?_
      show SV.h (if g.1 = wordM p c sh then (g.1, g.2.1, g.2.2 ++ [p]) else g).2.1 = _
      split <;> rfl
    have hobj : gsObj (gs.map fun g => if g.1 = wordM p c sh then (g.1, g.2.1, g.2.2 ++ [p]) else g) = gsObj gs := by
      have a1 := k1 gs
      have a2 := k2 gs
      have hgs : gs ≠ [] := fun z => by rw [z] at hm; cases hm
      rw [gsObj_ne (by simpa using hgs), gsObj_ne hgs, a1, a2]
    refine ⟨?_, ?_, ?_, ?_, ?_, ?_, ?_⟩
    · rw [List.getElem?_set_ne (by omega), List.getElem?_append_left hlt, hobj]; exact I.o0
    · intro g' hg'
      obtain ⟨g, hg, rfl⟩ := List.mem_map.mp hg'
      obtain ⟨hgo, hgn⟩ := I.ob g hg
      have hgl' : g.2.1 < own.length := (List.getElem?_eq_some_iff.mp hgo).1
      by_cases c1 : g.1 = wordM p c sh
      · have : g = g0 := nd_eq I.kd g hg g0 hm (by rw [c1, hw])
        subst this
        rw [if_pos c1]
        refine ⟨?_, hgn⟩
        show ((own ++ [O.lst []]).set g.2.1 _)[g.2.1]? = _
        rw [List.getElem?_set_self (by simp; omega), List.map_append]
        rfl
      · rw [if_neg c1]
        refine ⟨?_, hgn⟩
        have hne2 : g0.2.1 ≠ g.2.1 := fun z => by
          have := nd_eq I.nd g0 hm g hg z
          rw [← this] at c1
          exact c1 hw
        rw [List.getElem?_set_ne hne2, List.getElem?_append_left hgl']
        exact hgo
    · have := k2 gs
      rw [List.map_map]
      have h2 : (gs.map ((fun g : Gp => g.2.1) ∘ fun g => if g.1 = wordM p c sh then (g.1, g.2.1, g.2.2 ++ [p]) else g)) = gs.map (·.2.1) := by
        refine List.map_congr_left fun g _ => ?_
        show (if g.1 = wordM p c sh then (g.1, g.2.1, g.2.2 ++ [p]) else g).2.1 = _
        split <;> rfl
      rw [h2]
      exact I.nd
    · rw [List.map_map]
      have h2 : (gs.map ((fun g : Gp => g.1) ∘ fun g => if g.1 = wordM p c sh then (g.1, g.2.1, g.2.2 ++ [p]) else g)) = gs.map (·.1) := by
        refine List.map_congr_left fun g _ => ?_
        show (if g.1 = wordM p c sh then (g.1, g.2.1, g.2.2 ++ [p]) else g).1 = _
        split <;> rfl
      rw [h2]
      exact I.kd
    · intro g' hg'
      obtain ⟨g, hg, rfl⟩ := List.mem_map.mp hg'
      by_cases c1 : g.1 = wordM p c sh
      · rw [if_pos c1, List.filter_append]
        show g.2.2 ++ [p] = _
        rw [I.con g hg, List.filter_cons_of_pos (by simpa using c1.symm)]
        rfl
      · rw [if_neg c1, List.filter_append, ← I.con g hg, List.filter_cons_of_neg (by simpa using fun z : wordM p c sh = g.1 => c1 z.symm)]
        simp
    · intro g' hg'
      obtain ⟨g, hg, rfl⟩ := List.mem_map.mp hg'
      obtain ⟨q, hq, e⟩ := I.mem g hg
      refine ⟨q, List.mem_append_left _ hq, ?_⟩
      split <;> exact e
    · intro q hq
      have key : ∀ w, (∃ g ∈ gs, g.1 = w) → ∃ g ∈ (gs.map fun g => if g.1 = wordM p c sh then (g.1, g.2.1, g.2.2 ++ [p]) else g), g.1 = w := by
        rintro w ⟨g, hg, e⟩
        refine ⟨_, List.mem_map.mpr ⟨g, hg, rfl⟩, ?_⟩
        split <;> exact e
      rcases List.mem_append.mp hq with hq | hq
      · exact key _ (I.all q hq)
      · rw [List.mem_singleton.mp hq]
        exact key _ ⟨g0, hm, hw⟩
  | none =>
    rw [hf] at e
    simp only [pjRes] at e
    have hno : ∀ g ∈ gs, g.1 ≠ wordM p c sh := fun g hg z => by
      have := List.find?_eq_none.mp hf g hg
      simp [z] at this
    have hlen : (own ++ [O.lst []]).length = own.length + 1 := by simp
    have ho1 : ((own ++ [O.lst []]).set j (.dih (gKs gs ++ [.str (wordM p c sh).s]) (gHs gs ++ [.h own.length])))[own.length]? = some (.lst []) := by
      rw [List.getElem?_set_ne (by omega)]
      simp
    have e2 := e_Mut2 (mm := mmApp) (f := eV 9) (g := eV 8) (k := own.length) (sd := lS n so sh s4 c j (some (.d (tT p))) (some (.h own.length))) (y := .d (tT p)) rfl ho1 rfl ho1 (mmApp_eq (by simp))
    refine ⟨gs ++ [(wordM p c sh, own.length, [p])], _, some (.h own.length), (st_Seq ((st_Set e).trans rfl)).trans (st_Expr e2), ?_, fun i hi => by rw [List.getElem?_set_ne (by omega), List.getElem?_set_ne (by omega), List.getElem?_append_left (by omega)]⟩
    have hnl : ∀ g ∈ gs, g.2.1 < own.length := fun g hg => (List.getElem?_eq_some_iff.mp (I.ob g hg).1).1
    refine ⟨?_, ?_, ?_, ?_, ?_, ?_, ?_⟩
    · rw [List.getElem?_set_ne (by omega), List.getElem?_set_self (by rw [hlen]; omega)]
      cases gs with
      | nil => rfl
      | cons g r =>
        show _ = some (O.dih (gKs ((g :: r) ++ [_])) (gHs ((g :: r) ++ [_])))
        unfold gKs gHs
        rw [List.map_append, List.map_append]
        rfl
    · intro g hg
      rcases List.mem_append.mp hg with hg | hg
      · obtain ⟨a, b⟩ := I.ob g hg
        have := hnl g hg
        refine ⟨?_, b⟩
        rw [List.getElem?_set_ne (by omega), List.getElem?_set_ne (by omega), List.getElem?_append_left this]
        exact a
      · rw [List.mem_singleton.mp hg]
        refine ⟨?_, by show j < own.length; omega⟩
        show (List.set _ own.length _)[own.length]? = _
        rw [List.getElem?_set_self (by simp)]
        rfl
    · rw [List.map_append]
      refine List.nodup_append.mpr ⟨I.nd, by simp, fun a ha b hb z => ?_⟩
      obtain ⟨g, hg, rfl⟩ := List.mem_map.mp ha
      have hb : b = own.length := by simpa using hb
      have := hnl g hg
      omega
    · rw [List.map_append]
      refine List.nodup_append.mpr ⟨I.kd, by simp, fun a ha b hb z => ?_⟩
      obtain ⟨g, hg, rfl⟩ := List.mem_map.mp ha
      have hb : b = wordM p c sh := by simpa using hb
      exact hno g hg (z.trans hb)
    · intro g hg
      rcases List.mem_append.mp hg with hg | hg
      · rw [List.filter_append, ← I.con g hg, List.filter_cons_of_neg (by simpa using fun z : wordM p c sh = g.1 => hno g hg z.symm)]
        simp
      · rw [List.mem_singleton.mp hg, List.filter_append]
        have : pre.filter (fun q => decide (wordM q c sh = wordM p c sh)) = [] := by
          rw [List.filter_eq_nil_iff]
          intro q hq z
          obtain ⟨g, hg, e⟩ := I.all q hq
          exact hno g hg (e.trans (of_decide_eq_true z))
        show [p] = pre.filter (fun q => decide (wordM q c sh = wordM p c sh)) ++ _
        rw [this, List.filter_cons_of_pos (by simp)]
        rfl
    · intro g hg
      rcases List.mem_append.mp hg with hg | hg
      · obtain ⟨q, hq, e⟩ := I.mem g hg
        exact ⟨q, List.mem_append_left _ hq, e⟩
      · rw [List.mem_singleton.mp hg]
        exact ⟨p, by simp, rfl⟩
    · intro q hq
      rcases List.mem_append.mp hq with hq | hq
      · obtain ⟨g, hg, e⟩ := I.all q hq
        exact ⟨g, List.mem_append_left _ hg, e⟩
      · rw [List.mem_singleton.mp hq]
        exact ⟨_, List.mem_append_right _ (List.mem_singleton.mpr rfl), rfl⟩
theorem pj_loop {j n : Nat} {c : Int} {so : D} {sh : List Int} {s4 : Option SV} : ∀ (ps pre : List Pl) (gs : List Gp) (own : Own) (s8 s9 : Option SV), (∀ p ∈ ps, ∀ s ∈ p, s.length ≤ 1000) → PJ j c sh pre gs own → pre.length + ps.length ≤ 100000 →
    ∃ gs' own' s8' s9', forL (tgN 8) ljB (ps.map tT) (lS n so sh s4 c j s8 s9) own = some (.nx (lS n so sh s4 c j s8' s9') own') ∧ PJ j c sh (pre ++ ps) gs' own' ∧ ∀ i < j, own'[i]? = own[i]?
  | [], pre, gs, own, s8, s9, _, I, _ => ⟨gs, own, s8, s9, rfl, by rw [List.append_nil]; exact I, fun _ _ => rfl⟩
  | p :: ps, pre, gs, own, s8, s9, hp, I, hl => by
    have hl' : pre.length + (ps.length + 1) ≤ 100000 := hl
    have g3 := gs_len I.kd
    obtain ⟨gs1, own1, t9, e, I1, f1⟩ := pj_step (n := n) (so := so) (s4 := s4) (s9 := s9) (hp p List.mem_cons_self) I (by omega) (by omega)
    obtain ⟨gs', own', u8, u9, e2, I2, f2⟩ := pj_loop ps (pre ++ [p]) gs1 own1 (some (.d (tT p))) t9 (fun q hq => hp q (List.mem_cons_of_mem _ hq)) I1 (by rw [List.length_append]; simp; omega)
    refine ⟨gs', own', u8, u9, ?_, by rw [List.append_assoc] at I2; exact I2, fun i hi => (f2 i hi).trans (f1 i hi)⟩
    have e1 : tgN 8 (tT p) (lS n so sh s4 c j s8 s9) = some (lS n so sh s4 c j (some (.d (tT p))) s9) := rfl
    rw [List.map_cons, forL_1, e1]
    simp only [e]
    exact e2
end K11
end T_Q11d
section T_Q11e
set_option Elab.async false
set_option linter.all false
set_option maxRecDepth 100000
set_option maxHeartbeats 4000000
set_option pp.maxSteps 2000
namespace K11
open PySem Gx Pg Mx
theorem frz_fr : ∀ (gs : List Gp) (own : Own), (∀ g ∈ gs, own[g.2.1]? = some (.lst (g.2.2.map tT))) → (gs.map (·.2.1)).Nodup → ∃ own2, frzAll (gHs gs) own = some (gs.map fun g => D.lst (g.2.2.map tT), own2) ∧ ∀ i, (∀ g ∈ gs, g.2.1 ≠ i) → own2[i]? = own[i]?
  | [], own, _, _ => ⟨own, rfl, fun _ _ => rfl⟩
  | g :: gs, own, h, hn => by
    obtain ⟨h1, h2⟩ := List.nodup_cons.mp hn
    have hg := h g List.mem_cons_self
    obtain ⟨own2, e, fr⟩ := frz_fr gs (own.set g.2.1 .dead) (fun g' hg' => by
      have hne : g.2.1 ≠ g'.2.1 := fun z => h1 (List.mem_map.mpr ⟨g', hg', z.symm⟩)
      rw [List.getElem?_set_ne hne]
      exact h g' (List.mem_cons_of_mem _ hg')) h2
    refine ⟨own2, ?_, fun i hi => ?_⟩
    · show frzAll (SV.h g.2.1 :: gHs gs) own = _
      unfold frzAll
      simp only [hg]
      rw [e]
      rfl
    · rw [fr i fun g' hg' => hi g' (List.mem_cons_of_mem _ hg'), List.getElem?_set_ne (hi g List.mem_cons_self)]
theorem getK_gs : ∀ (gs : List Gp), (gs.map (·.1)).Nodup → ∀ g ∈ gs, getK (.inr g.1.s) (gKs gs) (gs.map fun g => D.lst (g.2.2.map tT)) = some (.lst (g.2.2.map tT))
  | [], _, g, h => nomatch h
  | g0 :: gs, hn, g, h => by
    rw [List.map_cons] at hn
    obtain ⟨h1, h2⟩ := List.nodup_cons.mp hn
    show (if (Sum.inr g.1.s : L2.Key) = .inr g0.1.s then some (D.lst (g0.2.2.map tT)) else getK (.inr g.1.s) (gKs gs) (gs.map fun g => D.lst (g.2.2.map tT))) = _
    rcases List.mem_cons.mp h with e | h
    · subst e
      rw [if_pos rfl]
    · rw [if_neg (fun z => h1 (List.mem_map.mpr ⟨g, h, wd_inj.mp (Sum.inr.inj z)⟩)), getK_gs gs h2 g h]
theorem ix_par {own : Own} {gs : List Gp} (hn : (gs.map (·.1)).Nodup) {g : Gp} (h : g ∈ gs) : mIx own (.d (parD gs)) (.d (.str g.1.s)) = some (.lst (g.2.2.map tT)) := by
  have e : dicV own (.d (parD gs)) = some (gKs gs, gs.map fun g => D.lst (g.2.2.map tT)) := by
    show (if six (.ty 5 :: gKs gs) = true then none else some (unM (.ty 5 :: gKs gs), _)) = _
    rw [if_neg (by intro z; cases z)]
    rfl
  unfold mIx
  rw [e]
  show getK (.inr g.1.s) (gKs gs) (gs.map fun g => D.lst (g.2.2.map tT)) = _
  exact getK_gs gs hn g h
theorem e_CallY {N : Nat} {F : FM} {a : AM} {sd : Sl} {own own2 : Own} {pre : List SV} {ds : List D} {k : Nat} {l l' : Kn} {z : D} (ha : a sd own = some (.ok (pre ++ [.h k]), own)) (hd : dats pre = some ds) (hp : lastH (pre ++ [.h k]) = some (pre, k)) (hN : (pre ++ [SV.h k]).length = N) (hk : own[k]? = some (knO l)) (h : F (pre ++ [.h 0]) [knO l] = some (.ok (.d z), own2)) (h2 : own2[0]? = some (knO l')) :
    eCallY N F a sd own = some (.ok (.d z), own.set k (knO l')) := by
  unfold eCallY
  rw [s_bind_ok ha]
  unfold callY
  have f1 : flatO (knO l) = true := rfl
  have f2 : flatO (knO l') = true := rfl
  simp only [hp, hd, hk, h, h2, f1, f2, if_true]
  rw [if_neg (fun z => z hN)]
def RunL (n : Nat) (F : FM) (m : Nat) : Prop := ∀ so sh l, Fine n so sh → (fcells n sh).length < m → Ok n l → l.length + Bd (fcells n sh).length ≤ 1000000 →
  ∃ l' own', F [.d (.int n), .d (.lst (so.map tT)), .d (lI sh), .h 0] [knO l] = some (.ok (.d (.int (val n so sh))), own') ∧ own'[0]? = some (knO l') ∧ Ok n l' ∧ l'.length ≤ l.length + Bd (fcells n sh).length
def cB (F : FM) : SM := (sSeq (sSet 7 eDicH) (sSeq (sFor (iSeq (eV 1)) (tgN 8) ljB)
    (sFrzD 7 (sExpr (eMut mmApp (eV 5) (aCons (eCB (m1 mMaxL) (aCons (eLC (iKey (eV 7)) [11] (tgN 11) tTrue (eCallY 4 F (aCons (eV 0) (aCons (eB mIx (eV 7) (eV 11)) (aCons (eB mAdd (eV 2) (eLst (aCons (eV 6) aNil))) (aCons (eV 3) aNil)))))) aNil)) aNil))))))
def fS (n : Nat) (so : List Pl) (sh : List Int) (s4 s6 s7 s8 s9 : Option SV) : Sl := [some (.d (.int n)), some (.d (.lst (so.map tT))), some (.d (lI sh)), some (.h 0), s4, some (.h 1), s6, s7, s8, s9, none, none]
theorem cB_run {n j : Nat} {F : FM} (RL : RunL n F j) {so : List Pl} {sh : List Int} {c : Int} {own : Own} {l : Kn} {fo : List Int} {s4 s7 s8 s9 : Option SV} (Fi : Fine n so sh) (hc : c ∈ fcells n sh) (hj : (fcells n sh).length ≤ j) (h0 : own[0]? = some (knO l)) (h1 : own[1]? = some (.lst (fo.map D.int))) (O : Ok n l) (hB : l.length + 3 * Bd ((fcells n sh).length - 1) ≤ 1000000) (hf : fo.length ≤ 1000) :
    ∃ l' own' t7 t8 t9, cB F (fS n so sh s4 (some (.d (.int c))) s7 s8 s9) own = some (.nx (fS n so sh s4 (some (.d (.int c))) t7 t8 t9) own') ∧ own'[0]? = some (knO l') ∧ own'[1]? = some (.lst ((fo ++ [wrst n so c sh]).map D.int)) ∧ Ok n l' ∧ l'.length ≤ l.length + 3 * Bd ((fcells n sh).length - 1) := by
  have hr := fc_snoc hc
  have h6 := Fi.sh
  have hl2 : 1 < own.length := (List.getElem?_eq_some_iff.mp h1).1
  have I0 : PJ own.length c sh [] [] (own ++ [.dic [] []]) := ⟨by simp; rfl, fun _ h => (nomatch h), List.nodup_nil, List.nodup_nil, fun _ h => (nomatch h), fun _ h => (nomatch h), fun _ h => (nomatch h)⟩
  obtain ⟨gs, o1, u8, u9, e1, I1, fr1⟩ := pj_loop (n := n) (so := .lst (so.map tT)) (s4 := s4) so [] [] (own ++ [.dic [] []]) s8 s9 (fun p hp => (Fi.sm p hp).1) I0 (by simpa using Nat.le_trans Fi.len (by decide))
  rw [List.nil_append] at I1
  have g0 := gs_len I1.kd
  have hgs : gs ≠ [] := fun z => by
    obtain ⟨p, hp⟩ := List.exists_mem_of_ne_nil _ Fi.ne
    obtain ⟨g, hg, _⟩ := I1.all p hp
    rw [z] at hg
    cases hg
  obtain ⟨o2, ef, fr2⟩ := frz_fr gs o1 (fun g hg => (I1.ob g hg).1) I1.nd
  have hob : o1[own.length]? = some (.dih (gKs gs) (gHs gs)) := by rw [I1.o0, gsObj_ne hgs]
  have fr3 : ∀ i < own.length, (o2.set own.length .dead)[i]? = own[i]? := fun i hi => by
    rw [List.getElem?_set_ne (by omega), fr2 i (fun g hg z => by have := (I1.ob g hg).2; omega), fr1 i hi, List.getElem?_append_left hi]
  generalize ho3 : o2.set own.length .dead = o3 at fr3
  have k0 : o3[0]? = some (knO l) := (fr3 0 (by omega)).trans h0
  have k1 : o3[1]? = some (.lst (fo.map D.int)) := (fr3 1 hl2).trans h1
  generalize hb : (fcells n sh).length - 1 = r at hB ⊢
  have er : (fcells n (sh ++ [c])).length = r := by omega
  have wg := wrst_gs (n := n) Fi.ne I1.con I1.mem I1.all
  have S0 : ∀ (lx : Kn), (o3.set 0 (knO lx))[0]? = some (knO lx) := fun lx => by rw [List.getElem?_set_self (List.getElem?_eq_some_iff.mp k0).1]
  have lc := e_LCst (enc := fun g : Gp => D.str g.1.s) (src := iKey (eV 7)) (vs := [11]) (tg := tgN 11) (t := tTrue) (f := eCallY 4 F (aCons (eV 0) (aCons (eB mIx (eV 7) (eV 11)) (aCons (eB mAdd (eV 2) (eLst (aCons (eV 6) aNil))) (aCons (eV 3) aNil)))))
    (sd := fS n so sh s4 (some (.d (.int c))) (some (.d (parD gs))) u8 u9) (own := o3) (xs := gs)
    (fun i o => ∃ l', o = o3.set 0 (knO l') ∧ Ok n l' ∧ l'.length + i * Bd r ≤ l.length + gs.length * Bd r) (fun g => D.int (val n g.2.2 (sh ++ [c])))
    rfl (small (by omega))
    ⟨l, by
      apply List.ext_getElem?
      intro i
      by_cases hi : 0 = i
      · subst hi; rw [S0]; exact k0
      · rw [List.getElem?_set_ne hi], O, Nat.le_refl _⟩
    (fun g hg i o ⟨l1, hoo, O1, hl1⟩ => by
      have hge := I1.con g hg
      have hne : g.2.2 ≠ [] := fun z => by
        obtain ⟨p, hp, ew⟩ := I1.mem g hg
        have : p ∈ g.2.2 := by rw [hge]; exact List.mem_filter.mpr ⟨hp, by simpa using ew⟩
        rw [z] at this
        cases this
      have Fi' : Fine n g.2.2 (sh ++ [c]) := Fi.later hc (fun p hp => by rw [hge] at hp; exact (List.mem_filter.mp hp).1) (by rw [hge]; exact List.length_filter_le _ _) hne
      have hm : (i + 1) * Bd r = i * Bd r + Bd r := Nat.succ_mul _ _
      have h3 : gs.length * Bd r ≤ 3 * Bd r := Nat.mul_le_mul_right _ g0
      obtain ⟨l2, ow2, e2, e20, O2, hl2⟩ := RL g.2.2 (sh ++ [c]) l1 Fi' (by omega) O1 (by rw [er]; omega)
      rw [er] at hl2
      have ix : eB mIx (eV 7) (eV 11) ((wipeD (fS n so sh s4 (some (.d (.int c))) (some (.d (parD gs))) u8 u9) [11]).set 11 (some (.d (.str g.1.s)))) o = some (.ok (.d (.lst (g.2.2.map tT))), o) := e_B (x := .d (parD gs)) (y := .d (.str g.1.s)) rfl rfl (ix_par I1.kd hg)
      have ad : eB mAdd (eV 2) (eLst (aCons (eV 6) aNil)) ((wipeD (fS n so sh s4 (some (.d (.int c))) (some (.d (parD gs))) u8 u9) [11]).set 11 (some (.d (.str g.1.s)))) o = some (.ok (.d (lI (sh ++ [c]))), o) := by
        refine e_B (x := .d (lI sh)) (y := .d (lI [c])) rfl rfl ?_
        show (if (sh.map D.int).length + ([c].map D.int).length ≤ sizeLine then some (D.lst (sh.map D.int ++ [c].map D.int)) else none) = _
        rw [if_pos (by rw [List.length_map, List.length_map, sizeL]; simp; omega), ← List.map_append]
        rfl
      refine ⟨_, _, rfl, rfl, e_CallY (k := 0) (pre := [.d (.int n), .d (.lst (g.2.2.map tT)), .d (lI (sh ++ [c]))]) (a_c rfl (a_c ix (a_c ad (a_1 rfl)))) rfl rfl rfl (by rw [hoo]; exact S0 l1) e2 e20, l2, by rw [hoo, List.set_set], O2, by omega⟩)
  obtain ⟨o4, e4, l', rfl, O', hl'⟩ := lc
  rw [show gs.map (fun g => D.int (val n g.2.2 (sh ++ [c]))) = (gs.map fun g => val n g.2.2 (sh ++ [c])).map D.int by rw [List.map_map]; rfl] at e4
  have h3 : gs.length * Bd r ≤ 3 * Bd r := Nat.mul_le_mul_right _ g0
  have mx := e_Ints (m := maxI) e4 wg
  have k1' : (o3.set 0 (knO l'))[1]? = some (.lst (fo.map D.int)) := by rw [List.getElem?_set_ne (by omega)]; exact k1
  have ap := e_Mut2 (mm := mmApp) (f := eV 5) (k := 1) (sd := fS n so sh s4 (some (.d (.int c))) (some (.d (parD gs))) u8 u9) rfl k1 mx k1' (mmApp_eq (by rw [List.length_map]; omega))
  refine ⟨l', (o3.set 0 (knO l')).set 1 (.lst (fo.map D.int ++ [.int (wrst n so c sh)])), some (.d (parD gs)), u8, u9, ?_, ?_, ?_, O', by omega⟩
  · unfold cB
    refine (st_Seq (sd1 := lS n (.lst (so.map tT)) sh s4 c own.length s8 s9) (o1 := own ++ [.dic [] []]) rfl).trans ?_
    refine (st_Seq (st_For (src := iSeq (eV 1)) (e_iSeqL rfl) e1)).trans ?_
    unfold sFrzD lS
    simp only [List.getElem?_cons_zero, List.getElem?_cons_succ, hob, ef, Option.bind_some]
    rw [ho3]
    exact (st_Expr ap)
  · rw [List.getElem?_set_ne (by omega), S0]
  · rw [List.getElem?_set_self (by rw [List.length_set]; exact (List.getElem?_eq_some_iff.mp k1).1), List.map_append]
    rfl
end K11
end T_Q11e
section T_Q11f
set_option Elab.async false
set_option linter.all false
set_option maxRecDepth 100000
set_option maxHeartbeats 4000000
set_option pp.maxSteps 2000
namespace K11
open PySem Gx Pg Mx
theorem lbest_run {n j : Nat} {F : FM} (RL : RunL n F j) : RunL n (F__law_best_shotsO F) (j + 1) := by
  intro so sh l Fi hj O hB
  have h6 := Fi.sh
  have ov : tE (eCallD 2 F__law_sunk (aCons (eV 1) (aCons (eV 2) aNil))) [some (.d (.int n)), some (.d (.lst (so.map tT))), some (.d (lI sh)), some (.h 0), none, none, none, none, none, none, none, none] [knO l] = some (.ok (overM so sh), [knO l]) := t_E (e_CallD rfl (c_lsunk (fun p hp => (Fi.sm p hp).1)))
  cases ho : overM so sh with
  | true =>
    rw [ho] at ov
    refine ⟨l, [knO l], ?_, rfl, O, by omega⟩
    rw [val_over ho]
    exact run_rt (st_SeqRt ((st_IfT ov).trans rfl))
  | false =>
    rw [ho] at ov
    have hne := open_cell Fi ho
    have mk : eTup (aCons (eCB (m1 mTupC) (aCons (eV 1) aNil)) (aCons (eCB (m1 mTupC) (aCons (eCB (m1 mSortI) (aCons (eV 2) aNil)) aNil)) aNil)) [some (.d (.int n)), some (.d (.lst (so.map tT))), some (.d (lI sh)), some (.h 0), none, none, none, none, none, none, none, none] [knO l] = some (.ok (.d (eM (so, isort sh))), [knO l]) := by
      have s1 : eCB (m1 mSortI) (aCons (eV 2) aNil) [some (.d (.int n)), some (.d (.lst (so.map tT))), some (.d (lI sh)), some (.h 0), none, none, none, none, none, none, none, none] [knO l] = some (.ok (.d (lI (isort sh))), [knO l]) := e_C1 (x := .d (lI sh)) rfl (by
        show (some (sh.map D.int)).bind (fun ds => (intsD ds).map fun is => D.lst ((isort is).map D.int)) = _
        rw [Option.bind_some, intsD_of]
        rfl)
      have s2 := e_C1 (m := mTupC) (d := tI (isort sh)) s1 rfl
      have s3 : eCB (m1 mTupC) (aCons (eV 1) aNil) [some (.d (.int n)), some (.d (.lst (so.map tT))), some (.d (lI sh)), some (.h 0), none, none, none, none, none, none, none, none] [knO l] = some (.ok (.d (.tup (so.map tT))), [knO l]) := e_C1 (x := .d (.lst (so.map tT))) rfl rfl
      rw [s_eTup, s_bind_ok (a_c s3 (a_1 s2))]
      rfl
    have start : ∀ {r z}, (sSeq (sIf (tE (eB (mInN true) (eV 4) (eV 3)))
    (sSeq (sSet 5 (eLstH aNil))
    (sSeq (sFor (iSeq (eLC (iRg1 (aCons (eV 0) aNil)) [10] (tgN 10) (tE (eB (mIn true) (eV 10) (eV 2))) (eV 10))) (tgN 6) (cB F))
    (sPutN (eV 3) (eV 4) (eB mAdd (eK (.int 1)) (eCB (m1 mMinL) (aCons (eV 5) aNil))))))
    sNil)
    (sRet (eB mIxN (eV 3) (eV 4)))) [some (.d (.int n)), some (.d (.lst (so.map tT))), some (.d (lI sh)), some (.h 0), some (.d (eM (so, isort sh))), none, none, none, none, none, none, none] [knO l] = some (.rt (.d (.int z)) r) →
      F__law_best_shotsO F [.d (.int n), .d (.lst (so.map tT)), .d (lI sh), .h 0] [knO l] = some (.ok (.d (.int z)), r) := fun {r z} h =>
      run_rt ((st_Seq (st_IfSkip ov)).trans ((st_Seq ((st_Set mk).trans rfl)).trans h))
    have cin : tE (eB (mInN true) (eV 4) (eV 3)) [some (.d (.int n)), some (.d (.lst (so.map tT))), some (.d (lI sh)), some (.h 0), some (.d (eM (so, isort sh))), none, none, none, none, none, none, none] [knO l] = some (.ok ((Dz.look (so, isort sh) l).isSome != true), [knO l]) := t_E (e_B (x := .d (eM (so, isort sh))) (y := .h 0) rfl rfl (Dz.inN_own Em rfl))
    cases hlk : Dz.look (so, isort sh) l with
    | some v =>
      rw [hlk] at cin
      have hv := O so sh v hlk
      refine ⟨l, [knO l], start ((st_Seq (st_IfSkip cin)).trans (st_Ret ?_)), rfl, O, by omega⟩
      rw [← hv]
      exact e_B (x := .h 0) (y := .d (eM (so, isort sh))) rfl rfl (Dz.ixN_own Em rfl hlk)
    | none =>
      rw [hlk] at cin
      have cl : eLC (iRg1 (aCons (eV 0) aNil)) [10] (tgN 10) (tE (eB (mIn true) (eV 10) (eV 2))) (eV 10) (fS n so sh (some (.d (eM (so, isort sh)))) none none none none) [knO l, .lst []] = some (.ok (.d (lI (fcells n sh))), [knO l, .lst []]) := by
        have := e_LCf (enc := D.int) (enc1 := D.int) (vs := [10]) (tg := tgN 10) (t := tE (eB (mIn true) (eV 10) (eV 2))) (f := eV 10) (sd := fS n so sh (some (.d (eM (so, isort sh)))) none none none none) (own := [knO l, .lst []]) (src := iRg1 (aCons (eV 0) aNil)) (fun c => !decide (c ∈ sh)) id (e_iRn (f := eV 0) rfl (by have := Fi.hn; omega)) (small (by rw [rn_len]; have := Fi.hn; omega))
          (fun c hc => ⟨_, rfl, t_E (e_B rfl rfl (by rw [in_lI]; cases decide (c ∈ sh) <;> rfl)), fun _ => rfl⟩)
        rw [List.map_id] at this
        exact this
      have hr : 0 < (fcells n sh).length := List.length_pos_iff.mpr hne
      have hfl : (fcells n sh).length ≤ 6 := by have := fc_len (n := n) (sh := sh); have := Fi.hn; omega
      have hBd : Bd (fcells n sh).length = 1 + (fcells n sh).length * (3 * Bd ((fcells n sh).length - 1)) := by
        obtain ⟨r, er⟩ : ∃ r, (fcells n sh).length = r + 1 := ⟨(fcells n sh).length - 1, by omega⟩
        rw [er]
        show 1 + 3 * (r + 1) * Bd r = 1 + (r + 1) * (3 * Bd r)
        rw [Nat.mul_comm 3 (r + 1), Nat.mul_assoc]
      obtain ⟨sd2, o2, ef, ⟨t6, t7, t8, t9, rfl⟩, l', k0, k1, O', hl'⟩ := for_pre (enc := D.int) (tg := tgN 6) (p := cB F)
        (fun pre sd o => (∃ t6 t7 t8 t9, sd = fS n so sh (some (.d (eM (so, isort sh)))) t6 t7 t8 t9) ∧ ∃ l', o[0]? = some (knO l') ∧ o[1]? = some (.lst ((pre.map fun c => wrst n so c sh).map D.int)) ∧ Ok n l' ∧ l'.length ≤ l.length + pre.length * (3 * Bd ((fcells n sh).length - 1)))
        (fcells n sh) (fS n so sh (some (.d (eM (so, isort sh)))) none none none none) [knO l, .lst []] ⟨⟨none, none, none, none, rfl⟩, l, rfl, rfl, O, by simp⟩
        (fun pre c post sd o e ⟨⟨t6, t7, t8, t9, h1⟩, l1, k0, k1, O1, hl1⟩ => by
          subst h1
          have hc : c ∈ fcells n sh := by rw [e]; simp
          have hlen : (fcells n sh).length = pre.length + (post.length + 1) := by rw [e]; simp
          have hm : (pre.length + 1) * (3 * Bd ((fcells n sh).length - 1)) = pre.length * (3 * Bd ((fcells n sh).length - 1)) + 3 * Bd ((fcells n sh).length - 1) := Nat.succ_mul _ _
          have hmm : (pre.length + 1) * (3 * Bd ((fcells n sh).length - 1)) ≤ (fcells n sh).length * (3 * Bd ((fcells n sh).length - 1)) := Nat.mul_le_mul_right _ (by omega)
          obtain ⟨l2, o2, u7, u8, u9, e2, m0, m1, O2, hl2⟩ := cB_run RL (s4 := some (.d (eM (so, isort sh)))) (s7 := t7) (s8 := t8) (s9 := t9) Fi hc (by omega) k0 k1 O1 (by omega) (by rw [List.length_map]; omega)
          refine ⟨_, rfl, _, _, .inl e2, ⟨_, _, _, _, rfl⟩, l2, m0, ?_, O2, ?_⟩
          · simp only [m1, List.map_append]
            rfl
          · rw [List.length_append, List.length_singleton]
            omega)
      have mn : eCB (m1 mMinL) (aCons (eV 5) aNil) (fS n so sh (some (.d (eM (so, isort sh)))) t6 t7 t8 t9) o2 = some (.ok (.d (.int ((minI ((fcells n sh).map fun c => wrst n so c sh)).getD 0))), o2) := by
        refine e_C1 (x := .h 1) rfl ?_
        have hl : lstV o2 (.h 1) = some (((fcells n sh).map fun c => wrst n so c sh).map D.int) := by
          show (match o2[1]? with | some (.lst xs) => some xs | _ => none) = _
          rw [k1]
        show (lstV o2 (.h 1)).bind (fun ds => (intsD ds).bind fun is => (minI is).map D.int) = _
        rw [hl, Option.bind_some, intsD_of, Option.bind_some, min_some (by simpa using hne)]
        rfl
      have ad := e_B (m := mAdd) (f := eK (.int 1)) (x := .d (.int 1)) (own := o2) (o1 := o2) rfl mn (d := .int (val n so sh)) (by rw [val_eq ho hne]; rfl)
      have pt := st_Put (fo := eV 3) (fi := eV 4) (k := 0) (m := (so, isort sh)) ad rfl rfl k0 (by omega)
      have hul := Dz.upd_len (so, isort sh) (val n so sh) l'
      have kk : (o2.set 0 (knO (Dz.upd (so, isort sh) (val n so sh) l')))[0]? = some (knO (Dz.upd (so, isort sh) (val n so sh) l')) := by rw [List.getElem?_set_self (List.getElem?_eq_some_iff.mp k0).1]
      have b2 := (st_Seq (q := sPutN (eV 3) (eV 4) (eB mAdd (eK (.int 1)) (eCB (m1 mMinL) (aCons (eV 5) aNil)))) (st_For (src := iSeq (eLC (iRg1 (aCons (eV 0) aNil)) [10] (tgN 10) (tE (eB (mIn true) (eV 10) (eV 2))) (eV 10))) (e_iSeqL cl) ef)).trans pt
      have b1 : sIf (tE (eB (mInN true) (eV 4) (eV 3)))
        (sSeq (sSet 5 (eLstH aNil))
        (sSeq (sFor (iSeq (eLC (iRg1 (aCons (eV 0) aNil)) [10] (tgN 10) (tE (eB (mIn true) (eV 10) (eV 2))) (eV 10))) (tgN 6) (cB F))
        (sPutN (eV 3) (eV 4) (eB mAdd (eK (.int 1)) (eCB (m1 mMinL) (aCons (eV 5) aNil))))))
        sNil [some (.d (.int n)), some (.d (.lst (so.map tT))), some (.d (lI sh)), some (.h 0), some (.d (eM (so, isort sh))), none, none, none, none, none, none, none] [knO l] = some (.nx (fS n so sh (some (.d (eM (so, isort sh)))) t6 t7 t8 t9) (o2.set 0 (knO (Dz.upd (so, isort sh) (val n so sh) l')))) := by
        refine (st_IfT cin).trans ?_
        exact (st_Seq (sd1 := fS n so sh (some (.d (eM (so, isort sh)))) none none none none) (o1 := [knO l, .lst []]) ((st_Set (lstH0 (own := [knO l]))).trans rfl)).trans b2
      refine ⟨Dz.upd (so, isort sh) (val n so sh) l', o2.set 0 (knO (Dz.upd (so, isort sh) (val n so sh) l')), start ((st_Seq b1).trans (st_Ret ?_)), kk, ok_put O', by omega⟩
      exact e_B (x := .h 0) (y := .d (eM (so, isort sh))) rfl rfl (Dz.ixN_own Em kk (by rw [Dz.look_upd, if_pos rfl]))
theorem lbest_all (n : Nat) : ∀ j, RunL n (F__law_best_shots j) j
  | 0 => fun so sh l _ h => absurd h (by omega)
  | j + 1 => lbest_run (lbest_all n j)
end K11
end T_Q11f
section T_Q11g
set_option Elab.async false
set_option linter.all false
set_option maxRecDepth 100000
set_option maxHeartbeats 4000000
set_option pp.maxSteps 2000
namespace K11
open PySem Gx Pg Mx
theorem fine_start {d : Fd} {n : Nat} (hd : d.ok) (hn : n ≤ 6) (h : placesM d n [] ≠ []) : Fine n (placesM d n []) [] := by
  refine ⟨h, ?_, fun p hp => ⟨pl_len hd hp, flat_len hd hp⟩, fun p hp c hc => ?_, ⟨List.nodup_nil, fun _ h => (nomatch h)⟩, hn⟩
  · have l1 := spF_len (d := d) (n := n) (L := d.a) (shot := [])
    unfold placesM
    cases d.b with
    | none => simp; omega
    | some b =>
      have := sum_small (plT d n b []) (n + 1) (n + 1) (spF d n d.a []) l1 fun x _ => plT_len
      have h2 : (n + 1) * (n + 1) ≤ 7 * 7 := Nat.mul_le_mul (by omega) (by omega)
      show ((spF d n d.a []).flatMap (plT d n b [])).length ≤ _
      omega
  · obtain ⟨s, hs, hcs⟩ := List.mem_flatten.mp hc
    exact (places_cells hd hp s hs).2.2 c hcs
theorem bd_le {r : Nat} (h : r ≤ 6) : Bd r ≤ 1000000 := by
  have : r = 0 ∨ r = 1 ∨ r = 2 ∨ r = 3 ∨ r = 4 ∨ r = 5 ∨ r = 6 := by omega
  rcases this with rfl | rfl | rfl | rfl | rfl | rfl | rfl <;> decide
def due (d : Fd) (n : Nat) : D := if placesM d n [] = [] then .non else .int (val n (placesM d n []) [])
theorem ne_nilPl {own : Own} {P : List Pl} : mNe own (.d (.lst (P.map tT))) (.d (.lst [])) = some (.bl (!decide (P = []))) := by
  show (if (okN 60 (.lst (P.map tT)) && okN 60 (.lst [])) = true then some (D.bl (!eqN 60 (.lst (P.map tT)) (.lst []))) else none) = _
  have h1 : okN 60 (.lst (P.map tT)) = true := ok_map (n := 59) (ok_tT 57) P
  rw [h1]
  cases P <;> rfl
theorem sink_run {d : Fd} {n : Nat} (hd : d.ok) (hn : n ≤ 6) : ∃ o, F_to_sink [.d d.obj, .d (.int n)] [] = some (.ok (.d (due d n)), o) := by
  unfold F_to_sink
  have pl := c_places (d := d) (n := n) (shot := []) (vs := []) hd (by omega) rfl
  have s1 := e_CallD (N := 2) (Ff := F_check_number) (a := aCons (eV 1) (aCons (eK (.int 6)) aNil)) (sd := [some (.d d.obj), some (.d (.int n)), none]) (own := []) (xs := [.d (.int n), .d (.int (6 : Nat))]) rfl (c_checkn (h := 6) hn)
  have cd : tE (eB mNe (eV 2) (eLst aNil)) [some (.d d.obj), some (.d (.int n)), some (.d (.lst ((placesM d n []).map tT)))] [] = some (.ok (!decide (placesM d n [] = [])), []) := t_E (e_B rfl rfl ne_nilPl)
  by_cases hP : placesM d n [] = []
  · rw [decide_eq_true hP] at cd
    refine ⟨[], ?_⟩
    unfold due
    rw [if_pos hP]
    refine run_rt ((st_Seq (st_Expr s1)).trans ((st_Seq ((st_Set (e_CallD (xs := [.d d.obj, .d (.int n), .d (.dic [] [])]) rfl pl)).trans rfl)).trans (st_Ret ?_)))
    rw [s_eIf]
    exact (s_bind_ok cd).trans rfl
  · rw [decide_eq_false hP] at cd
    have Fi := fine_start hd hn hP
    have hr : (fcells n []).length ≤ 6 := Nat.le_trans fc_len hn
    obtain ⟨l', e, _, _⟩ := best_all n 7 (placesM d n []) [] [.ins 4 [.d (.int n), .h 1], .dig [] []] 0 1 [] Fi (by omega) ⟨rfl, rfl, by decide⟩ (ok_nil n) (by have := bd_le hr; simpa using this)
    refine ⟨([.ins 4 [.d (.int n), .h 1], .dig [] []] : Own).set 1 (knO l'), ?_⟩
    unfold due
    rw [if_neg hP]
    refine run_rt ((st_Seq (st_Expr s1)).trans ((st_Seq ((st_Set (e_CallD (xs := [.d d.obj, .d (.int n), .d (.dic [] [])]) rfl pl)).trans rfl)).trans (st_Ret (o1 := ([.ins 4 [.d (.int n), .h 1], .dig [] []] : Own).set 1 (knO l')) ?_)))
    have mk : eMakeW 4 1 F_Sinking_init (aCons (eV 1) aNil) [some (.d d.obj), some (.d (.int n)), some (.d (.lst ((placesM d n []).map tT)))] [] = some (.ok (.h 0), [.ins 4 [.d (.int n), .h 1], .dig [] []]) := rfl
    have mt : eMethW 4 3 (F_Sinking_best 7) (eMakeW 4 1 F_Sinking_init (aCons (eV 1) aNil)) (aCons (eV 2) (aCons eDic0 aNil)) [some (.d d.obj), some (.d (.int n)), some (.d (.lst ((placesM d n []).map tT)))] [] = some (.ok (.d (.int (val n (placesM d n []) []))), ([.ins 4 [.d (.int n), .h 1], .dig [] []] : Own).set 1 (knO l')) := by
      unfold eMethW
      rw [s_bind_ok mk]
      have a0 : (M.ask fun own => insV 4 own (.h 0)) [some (.d d.obj), some (.d (.int n)), some (.d (.lst ((placesM d n []).map tT)))] [.ins 4 [.d (.int n), .h 1], .dig [] []] = some (.ok (), [.ins 4 [.d (.int n), .h 1], .dig [] []]) := rfl
      have a1 : (aCons (eV 2) (aCons eDic0 aNil)) [some (.d d.obj), some (.d (.int n)), some (.d (.lst ((placesM d n []).map tT)))] [.ins 4 [.d (.int n), .h 1], .dig [] []] = some (.ok [.d (.lst ((placesM d n []).map tT)), .d (.dic [] [])], [.ins 4 [.d (.int n), .h 1], .dig [] []]) := rfl
      rw [s_bind_ok a0, s_bind_ok a1]
      show (if 3 = 3 then F_Sinking_best 7 [.h 0, .d (.lst ((placesM d n []).map tT)), .d (.dic [] [])] [.ins 4 [.d (.int n), .h 1], .dig [] []] else none) = _
      rw [if_pos rfl]
      exact e
    rw [s_eIf]
    exact (s_bind_ok cd).trans mt
theorem c_sink {d : Fd} {n : Nat} (hd : d.ok) (hn : n ≤ 6) (sd : Sl) (own : Own) : callD 2 F_to_sink [.d d.obj, .d (.int n)] sd own = some (.ok (.d (due d n)), own) := by
  obtain ⟨o, e⟩ := sink_run hd hn
  exact cD (ds := [d.obj, .int n]) rfl rfl e sd own
theorem due_eq {own : Own} (d : Fd) (n : Nat) : mEq own (.d (due d n)) (.d (due d n)) = some (.bl true) := by
  unfold due
  split
  · rfl
  · rw [o_eq]
    simp
theorem sem_law : ∀ ns : List Int, ns.length ≤ 63 → ∃ own', L_law (lawSl 6) (lawRow ns) = some (.rt (.d (.bl true)) own') := by
  intro ns _
  obtain ⟨d, o1, hd, R1, e1⟩ := fleet_draw (row_start (ns := ns))
  have b1 : sSet 2 (eCallZ 1 F__law_fleet (aCons (eV 1) aNil)) (lawSl 6) (lawRow ns) = some (.nx [none, some (.h 0), some (.d d.dic), none, none, none] [o1]) := (st_Set (e1 (eV 1) _ [] rfl)).trans rfl
  have many : ∃ m : Int, 1 ≤ m ∧ m ≤ 7 ∧ eIf (tE (eB mEq (eCB (m1 mLen) (aCons (eB mIx (eV 2) (eK (.str "ships"))) aNil)) (eK (.int 1)))) (eK (.int 7)) (eK (.int 6)) [none, some (.h 0), some (.d d.dic), none, none, none] [o1] = some (.ok (.d (.int m)), [o1]) := by
    have sx : eB mIx (eV 2) (eK (.str "ships")) [none, some (.h 0), some (.d d.dic), none, none, none] [o1] = some (.ok (.d d.shipsD), [o1]) := e_B (x := .d d.dic) rfl rfl dic_ships
    have ln := e_C1 (m := mLen) (d := .int d.ships.length) sx (by
      show some (D.int ((d.ships.map nI).length : Nat)) = _
      rw [List.length_map])
    have c : tE (eB mEq (eCB (m1 mLen) (aCons (eB mIx (eV 2) (eK (.str "ships"))) aNil)) (eK (.int 1))) [none, some (.h 0), some (.d d.dic), none, none, none] [o1] = some (.ok ((d.ships.length : Int) == 1), [o1]) := t_E (e_B (y := .d (.int 1)) ln rfl (by rw [o_eq]))
    rw [s_eIf]
    cases hh : ((d.ships.length : Int) == 1) with
    | true =>
      rw [hh] at c
      exact ⟨7, by decide, by decide, (s_bind_ok c).trans rfl⟩
    | false =>
      rw [hh] at c
      exact ⟨6, by decide, by decide, (s_bind_ok c).trans rfl⟩
  obtain ⟨m, hm1, hm7, em⟩ := many
  obtain ⟨r, o2, hr, R2, e2⟩ := draw R1 (m := m) hm1 (by omega)
  have hn : r ≤ 6 := by omega
  have b2 : sSet 3 (eCallZ 2 F__law_pick (aCons (eV 1) (aCons (eIf (tE (eB mEq (eCB (m1 mLen) (aCons (eB mIx (eV 2) (eK (.str "ships"))) aNil)) (eK (.int 1)))) (eK (.int 7)) (eK (.int 6))) aNil))) [none, some (.h 0), some (.d d.dic), none, none, none] [o1] = some (.nx [none, some (.h 0), some (.d d.dic), some (.d (.int r)), none, none] [o2]) := (st_Set (e2 (eV 1) _ _ [] rfl em)).trans rfl
  have b3 : sSet 4 (eCallD 2 F__law_places (aCons (eV 2) (aCons (eV 3) aNil))) [none, some (.h 0), some (.d d.dic), some (.d (.int r)), none, none] [o2] = some (.nx [none, some (.h 0), some (.d d.dic), some (.d (.int r)), some (.d (.lst ((placesM d r []).map tT))), none] [o2]) := (st_Set (e_CallD (xs := [.d d.dic, .d (.int r)]) rfl (c_lplaces hd (by omega)))).trans rfl
  have cd : tE (eB mNe (eV 4) (eLst aNil)) [none, some (.h 0), some (.d d.dic), some (.d (.int r)), some (.d (.lst ((placesM d r []).map tT))), none] [o2] = some (.ok (!decide (placesM d r [] = [])), [o2]) := t_E (e_B rfl rfl ne_nilPl)
  have b4 : ∃ o3, sSet 5 (eIf (tE (eB mNe (eV 4) (eLst aNil))) (eCallY 4 (F__law_best_shots 7) (aCons (eV 3) (aCons (eV 4) (aCons (eLst aNil) (aCons eDigH aNil))))) (eK .non)) [none, some (.h 0), some (.d d.dic), some (.d (.int r)), some (.d (.lst ((placesM d r []).map tT))), none] [o2] = some (.nx [none, some (.h 0), some (.d d.dic), some (.d (.int r)), some (.d (.lst ((placesM d r []).map tT))), some (.d (due d r))] o3) := by
    by_cases hP : placesM d r [] = []
    · rw [decide_eq_true hP] at cd
      refine ⟨[o2], (st_Set (x := .d (due d r)) (o1 := [o2]) ?_).trans rfl⟩
      rw [s_eIf]
      refine (s_bind_ok cd).trans ?_
      unfold due
      rw [if_pos hP]
      rfl
    · rw [decide_eq_false hP] at cd
      have Fi := fine_start hd hn hP
      have hrr : (fcells r []).length ≤ 6 := Nat.le_trans fc_len hn
      obtain ⟨l', own2, e, e0, _, _⟩ := lbest_all r 7 (placesM d r []) [] [] Fi (by omega) (ok_nil r) (by have := bd_le hrr; simpa using this)
      refine ⟨[o2, knO l'], (st_Set (x := .d (due d r)) (o1 := [o2, knO l']) ?_).trans rfl⟩
      rw [s_eIf]
      refine (s_bind_ok cd).trans ?_
      unfold due
      rw [if_neg hP]
      unfold eCallY
      have a1 : (aCons (eV 3) (aCons (eV 4) (aCons (eLst aNil) (aCons eDigH aNil)))) [none, some (.h 0), some (.d d.dic), some (.d (.int r)), some (.d (.lst ((placesM d r []).map tT))), none] [o2] = some (.ok [.d (.int r), .d (.lst ((placesM d r []).map tT)), .d (lI []), .h 1], [o2, knO []]) := rfl
      show M.bind _ _ _ _ = _
      rw [s_bind_ok a1]
      unfold callY
      have f1 : flatO (knO []) = true := rfl
      have f2 : flatO (knO l') = true := rfl
      have hp : lastH [SV.d (.int r), .d (.lst ((placesM d r []).map tT)), .d (lI []), .h 1] = some ([.d (.int r), .d (.lst ((placesM d r []).map tT)), .d (lI [])], 1) := rfl
      have hk : ([o2, knO []] : Own)[1]? = some (knO []) := rfl
      have hd2 : dats [SV.d (.int r), .d (.lst ((placesM d r []).map tT)), .d (lI [])] = some [.int r, .lst ((placesM d r []).map tT), lI []] := rfl
      have e' : F__law_best_shots 7 ([SV.d (.int r), .d (.lst ((placesM d r []).map tT)), .d (lI [])] ++ [.h 0]) [knO []] = some (.ok (.d (.int (val r (placesM d r []) []))), own2) := e
      simp only [hp, hd2, hk, e', e0, f1, f2, if_true]
      rw [if_neg (fun z => z rfl)]
      rfl
  obtain ⟨o3, b4⟩ := b4
  refine ⟨o3, ?_⟩
  unfold L_law
  refine (st_Seq b1).trans ((st_Seq b2).trans ((st_Seq b3).trans ((st_Seq b4).trans (st_Ret ?_))))
  have md : eCallD 1 F__law_made (aCons (eV 2) aNil) [none, some (.h 0), some (.d d.dic), some (.d (.int r)), some (.d (.lst ((placesM d r []).map tT))), some (.d (due d r))] o3 = some (.ok (.d d.obj), o3) := e_CallD (xs := [.d d.dic]) rfl (c_made hd)
  exact e_B (y := .d (due d r)) (e_CallD (a_c md (a_1 (f := eV 3) (x := .d (.int r)) rfl)) (c_sink hd hn)) rfl (due_eq d r)
end K11
end T_Q11g
section T_L11b
set_option Elab.async false
set_option linter.all false
set_option maxRecDepth 100000
set_option maxHeartbeats 8000000
set_option pp.maxSteps 300
namespace K11
open PySem PySem.Spec PyProof.Rows L2 Gx Pg
theorem all_mk {w : World} {K : PySem.W.Frag} {h : Heap} {mg : Str → Option Value} {fa : Addr} (X : K.In h) (G : h.Ns mainGlobals mg) (hfa : mg "law" = some (.ref fa))
    (hsem : ∀ ns : List Int, ns.length ≤ 63 → ∃ own', L_law (lawSl 6) (lawRow ns) = some (.rt (.d (.bl true)) own'))
    {C0 C4 C10 C11 C12 C13 f_is_integer f_is_from f_is_one_of f_Fleet_init f_check_number f_spans f_are_next f_can_both f_all_places f_word_at f_parted f_Sinking_init f_Sinking_worst f_Sinking_best f_to_sink f__law_pick f__law_fleet f__law_made f__law_spans f__law_apart f__law_places f__law_word f__law_sunk f__law_best_shots f_law f__law_draws iC10 iC11 iC12 iC13 : Addr} {od_ an_ : Option Addr} {sl_ : Array (Option Value)} {oc_ kV_ dc_ pm_ cd_ ct_ : Value}
    (aC0 : PySem.W.nsIn K mainGlobals "Fleet" = some (some (.ref C0)))
    (aC4 : PySem.W.nsIn K mainGlobals "Sinking" = some (some (.ref C4)))
    (aC10 : PySem.W.nsIn K mainGlobals "BadShape" = some (some (.ref C10)))
    (aC11 : PySem.W.nsIn K mainGlobals "BadShips" = some (some (.ref C11)))
    (aC12 : PySem.W.nsIn K mainGlobals "BadGap" = some (some (.ref C12)))
    (aC13 : PySem.W.nsIn K mainGlobals "BadNumber" = some (some (.ref C13)))
    (oC0 : OwnK K C0)
    (mC0 : PySem.W.makesIn K C0 = true)
    (kC0 : PySem.W.keepIn K (.ref C0) = true)
    (oC4 : OwnK K C4)
    (mC4 : PySem.W.makesIn K C4 = true)
    (kC4 : PySem.W.keepIn K (.ref C4) = true)
    (a__law_draws : PySem.W.nsIn K mainGlobals "_law_draws" = some (some (.ref f__law_draws)))
    (d__law_draws : ∃ fd, Fun K "_law_draws" "_law_draws" (top 31) f__law_draws fd)
    (a_is_integer : PySem.W.nsIn K mainGlobals "is_integer" = some (some (.ref f_is_integer)))
    (d_is_integer : ∃ fd, Fun K "is_integer" "is_integer" (top 11) f_is_integer fd)
    (a_is_from : PySem.W.nsIn K mainGlobals "is_from" = some (some (.ref f_is_from)))
    (d_is_from : ∃ fd, Fun K "is_from" "is_from" (top 12) f_is_from fd)
    (a_is_one_of : PySem.W.nsIn K mainGlobals "is_one_of" = some (some (.ref f_is_one_of)))
    (d_is_one_of : ∃ fd, Fun K "is_one_of" "is_one_of" (top 13) f_is_one_of fd)
    (a_check_number : PySem.W.nsIn K mainGlobals "check_number" = some (some (.ref f_check_number)))
    (d_check_number : ∃ fd, Fun K "check_number" "check_number" (top 15) f_check_number fd)
    (a_spans : PySem.W.nsIn K mainGlobals "spans" = some (some (.ref f_spans)))
    (d_spans : ∃ fd, Fun K "spans" "spans" (top 16) f_spans fd)
    (a_are_next : PySem.W.nsIn K mainGlobals "are_next" = some (some (.ref f_are_next)))
    (d_are_next : ∃ fd, Fun K "are_next" "are_next" (top 17) f_are_next fd)
    (a_can_both : PySem.W.nsIn K mainGlobals "can_both" = some (some (.ref f_can_both)))
    (d_can_both : ∃ fd, Fun K "can_both" "can_both" (top 18) f_can_both fd)
    (a_all_places : PySem.W.nsIn K mainGlobals "all_places" = some (some (.ref f_all_places)))
    (d_all_places : ∃ fd, Fun K "all_places" "all_places" (top 19) f_all_places fd)
    (a_word_at : PySem.W.nsIn K mainGlobals "word_at" = some (some (.ref f_word_at)))
    (d_word_at : ∃ fd, Fun K "word_at" "word_at" (top 24) f_word_at fd)
    (a_parted : PySem.W.nsIn K mainGlobals "parted" = some (some (.ref f_parted)))
    (d_parted : ∃ fd, Fun K "parted" "parted" (top 25) f_parted fd)
    (a_to_sink : PySem.W.nsIn K mainGlobals "to_sink" = some (some (.ref f_to_sink)))
    (d_to_sink : ∃ fd, Fun K "to_sink" "to_sink" (top 29) f_to_sink fd)
    (a__law_pick : PySem.W.nsIn K mainGlobals "_law_pick" = some (some (.ref f__law_pick)))
    (d__law_pick : ∃ fd, Fun K "_law_pick" "_law_pick" (top 32) f__law_pick fd)
    (a__law_fleet : PySem.W.nsIn K mainGlobals "_law_fleet" = some (some (.ref f__law_fleet)))
    (d__law_fleet : ∃ fd, Fun K "_law_fleet" "_law_fleet" (top 33) f__law_fleet fd)
    (a__law_made : PySem.W.nsIn K mainGlobals "_law_made" = some (some (.ref f__law_made)))
    (d__law_made : ∃ fd, Fun K "_law_made" "_law_made" (top 34) f__law_made fd)
    (a__law_spans : PySem.W.nsIn K mainGlobals "_law_spans" = some (some (.ref f__law_spans)))
    (d__law_spans : ∃ fd, Fun K "_law_spans" "_law_spans" (top 35) f__law_spans fd)
    (a__law_apart : PySem.W.nsIn K mainGlobals "_law_apart" = some (some (.ref f__law_apart)))
    (d__law_apart : ∃ fd, Fun K "_law_apart" "_law_apart" (top 36) f__law_apart fd)
    (a__law_places : PySem.W.nsIn K mainGlobals "_law_places" = some (some (.ref f__law_places)))
    (d__law_places : ∃ fd, Fun K "_law_places" "_law_places" (top 37) f__law_places fd)
    (a__law_word : PySem.W.nsIn K mainGlobals "_law_word" = some (some (.ref f__law_word)))
    (d__law_word : ∃ fd, Fun K "_law_word" "_law_word" (top 38) f__law_word fd)
    (a__law_sunk : PySem.W.nsIn K mainGlobals "_law_sunk" = some (some (.ref f__law_sunk)))
    (d__law_sunk : ∃ fd, Fun K "_law_sunk" "_law_sunk" (top 39) f__law_sunk fd)
    (a__law_best_shots : PySem.W.nsIn K mainGlobals "_law_best_shots" = some (some (.ref f__law_best_shots)))
    (d__law_best_shots : ∃ fd, Fun K "_law_best_shots" "_law_best_shots" (top 40) f__law_best_shots fd)
    (a_law : PySem.W.nsIn K mainGlobals "law" = some (some (.ref f_law)))
    (l_law : K.lookup f_law = some ⟨oc_, od_, .func (PySem.W.fnOf "law" "law" (defArgs (top 41)) (defBody (top 41)) (defScope (top 41)) .none kV_ dc_ pm_ an_ cd_ ct_), sl_⟩)
    (c_law : PySem.W.codeIn K cd_ "law" = true)
    (k_law : PySem.W.keepIn K (.ref f_law) = true)
    (a_Fleet_init : PySem.W.findIn K (.ref C0) "__init__" = some (some (.ref f_Fleet_init)))
    (i_Fleet_init : PySem.W.isFn K (.ref f_Fleet_init) = true)
    (d_Fleet_init : ∃ fd, Fun K "__init__" "Fleet.__init__" (inClass (top 14) 0) f_Fleet_init fd)
    (a_Sinking_init : PySem.W.findIn K (.ref C4) "__init__" = some (some (.ref f_Sinking_init)))
    (i_Sinking_init : PySem.W.isFn K (.ref f_Sinking_init) = true)
    (d_Sinking_init : ∃ fd, Fun K "__init__" "Sinking.__init__" (inClass (top 28) 0) f_Sinking_init fd)
    (a_Sinking_worst : PySem.W.findIn K (.ref C4) "worst" = some (some (.ref f_Sinking_worst)))
    (i_Sinking_worst : PySem.W.isFn K (.ref f_Sinking_worst) = true)
    (d_Sinking_worst : ∃ fd, Fun K "worst" "Sinking.worst" (inClass (top 28) 2) f_Sinking_worst fd)
    (a_Sinking_best : PySem.W.findIn K (.ref C4) "best" = some (some (.ref f_Sinking_best)))
    (i_Sinking_best : PySem.W.isFn K (.ref f_Sinking_best) = true)
    (d_Sinking_best : ∃ fd, Fun K "best" "Sinking.best" (inClass (top 28) 1) f_Sinking_best fd)
    (eC10 : ExcK K C10)
    (eC11 : ExcK K C11)
    (eC12 : ExcK K C12)
    (eC13 : ExcK K C13)
    (xC10 : PySem.W.findIn K (.ref C10) "__init__" = some (some (.ref iC10)))
    (tC10 : PySem.W.typeIn K (.ref iC10) = some (.type "function"))
    (yC10 : OexC K C10)
    (sC10 : ∃ fd cc cda, SupDef PySem.Challenge.pw_shipsrow_k11_whole_sinking K C10 iC10 cc cda fd "BadShape.__init__" (defArgs (inClass (top 2) 0)) (defBody (inClass (top 2) 0)) (defScope (inClass (top 2) 0)))
    (uC10_10 : PySem.W.subIn K (.ref C10) (.ref C10) = some true)
    (uC10_11 : PySem.W.subIn K (.ref C10) (.ref C11) = some false)
    (uC10_12 : PySem.W.subIn K (.ref C10) (.ref C12) = some false)
    (uC10_13 : PySem.W.subIn K (.ref C10) (.ref C13) = some false)
    (xC11 : PySem.W.findIn K (.ref C11) "__init__" = some (some (.ref iC11)))
    (tC11 : PySem.W.typeIn K (.ref iC11) = some (.type "function"))
    (yC11 : OexC K C11)
    (sC11 : ∃ fd cc cda, SupDef PySem.Challenge.pw_shipsrow_k11_whole_sinking K C11 iC11 cc cda fd "BadShips.__init__" (defArgs (inClass (top 3) 0)) (defBody (inClass (top 3) 0)) (defScope (inClass (top 3) 0)))
    (uC11_10 : PySem.W.subIn K (.ref C11) (.ref C10) = some false)
    (uC11_11 : PySem.W.subIn K (.ref C11) (.ref C11) = some true)
    (uC11_12 : PySem.W.subIn K (.ref C11) (.ref C12) = some false)
    (uC11_13 : PySem.W.subIn K (.ref C11) (.ref C13) = some false)
    (xC12 : PySem.W.findIn K (.ref C12) "__init__" = some (some (.ref iC12)))
    (tC12 : PySem.W.typeIn K (.ref iC12) = some (.type "function"))
    (yC12 : OexC K C12)
    (sC12 : ∃ fd cc cda, SupDef PySem.Challenge.pw_shipsrow_k11_whole_sinking K C12 iC12 cc cda fd "BadGap.__init__" (defArgs (inClass (top 4) 0)) (defBody (inClass (top 4) 0)) (defScope (inClass (top 4) 0)))
    (uC12_10 : PySem.W.subIn K (.ref C12) (.ref C10) = some false)
    (uC12_11 : PySem.W.subIn K (.ref C12) (.ref C11) = some false)
    (uC12_12 : PySem.W.subIn K (.ref C12) (.ref C12) = some true)
    (uC12_13 : PySem.W.subIn K (.ref C12) (.ref C13) = some false)
    (xC13 : PySem.W.findIn K (.ref C13) "__init__" = some (some (.ref iC13)))
    (tC13 : PySem.W.typeIn K (.ref iC13) = some (.type "function"))
    (yC13 : OexC K C13)
    (sC13 : ∃ fd cc cda, SupDef PySem.Challenge.pw_shipsrow_k11_whole_sinking K C13 iC13 cc cda fd "BadNumber.__init__" (defArgs (inClass (top 5) 0)) (defBody (inClass (top 5) 0)) (defScope (inClass (top 5) 0)))
    (uC13_10 : PySem.W.subIn K (.ref C13) (.ref C10) = some false)
    (uC13_11 : PySem.W.subIn K (.ref C13) (.ref C11) = some false)
    (uC13_12 : PySem.W.subIn K (.ref C13) (.ref C12) = some false)
    (uC13_13 : PySem.W.subIn K (.ref C13) (.ref C13) = some true)
    (z_abs : PySem.W.nsIn K mainGlobals "abs" = some none)
    (z_all : PySem.W.nsIn K mainGlobals "all" = some none)
    (z_any : PySem.W.nsIn K mainGlobals "any" = some none)
    (z_bool : PySem.W.nsIn K mainGlobals "bool" = some none)
    (z_int : PySem.W.nsIn K mainGlobals "int" = some none)
    (z_isinstance : PySem.W.nsIn K mainGlobals "isinstance" = some none)
    (z_len : PySem.W.nsIn K mainGlobals "len" = some none)
    (z_max : PySem.W.nsIn K mainGlobals "max" = some none)
    (z_min : PySem.W.nsIn K mainGlobals "min" = some none)
    (z_range : PySem.W.nsIn K mainGlobals "range" = some none)
    (z_sorted : PySem.W.nsIn K mainGlobals "sorted" = some none)
    (z_str : PySem.W.nsIn K mainGlobals "str" = some none)
    (z_tuple : PySem.W.nsIn K mainGlobals "tuple" = some none)
    (v_HIT : ∃ t, PySem.W.nsIn K mainGlobals "HIT" = some (some (.str "hit" t)))
    (v_MISS : ∃ t, PySem.W.nsIn K mainGlobals "MISS" = some (some (.str "miss" t)))
    (v_MOST_LENGTH : ∃ t, PySem.W.nsIn K mainGlobals "MOST_LENGTH" = some (some (.int 4 t)))
    (v_MOST_SINK : ∃ t, PySem.W.nsIn K mainGlobals "MOST_SINK" = some (some (.int 6 t)))
    (v_RING : ∃ t, PySem.W.nsIn K mainGlobals "RING" = some (some (.str "ring" t)))
    (v_ROW : ∃ t, PySem.W.nsIn K mainGlobals "ROW" = some (some (.str "row" t)))
    (v_SHAPES : ∃ (a : Addr) (o : Obj) (its : Array Value) (n : Nat), PySem.W.nsIn K mainGlobals "SHAPES" = some (some (.ref a)) ∧ K.lookup a = some o ∧ o.cls = .type "tuple" ∧ o.data = .seq its n ∧ its.size ≤ sizeLine ∧ Vals ((["ring", "row"] : List Str).map V.str) its.toList)
    (v_SUNK : ∃ t, PySem.W.nsIn K mainGlobals "SUNK" = some (some (.str "sunk" t)))
    (n0_form : PySem.W.findIn K (.ref C0) "form" = some none)
    (n0_lengths : PySem.W.findIn K (.ref C0) "lengths" = some none)
    (n0_room : PySem.W.findIn K (.ref C0) "room" = some none)
    (n4_known : PySem.W.findIn K (.ref C4) "known" = some none)
    (n4_many : PySem.W.findIn K (.ref C4) "many" = some none)
    (zlist : PySem.W.nsIn K mainGlobals "list" = some none)
    (zsuper : PySem.W.nsIn K mainGlobals "super" = some none)
    : ∃ fd : FuncData, (∀ (s : Shared) (v : Value), BindsTo s fd ⟨[v], []⟩ [("_law_script", v)]) ∧ ∀ base : Heap, K.In base → base.Ns mainGlobals mg → FnOk PySem.Challenge.pw_shipsrow_k11_whole_sinking w K mg base (L2.CX PySem.Challenge.pw_shipsrow_k11_whole_sinking w) 26 fa fd ["_law_script"] (spLaw K) := by
  have e := hfa.symm.trans (PySem.W.mg_of X G a_law)
  cases e
  have M : Facts K mg (ctOf [(0, C0), (4, C4), (10, C10), (11, C11), (12, C12), (13, C13)]) := {
    b_abs := PySem.W.mg_none_of X G z_abs
    b_all := PySem.W.mg_none_of X G z_all
    b_any := PySem.W.mg_none_of X G z_any
    b_bool := PySem.W.mg_none_of X G z_bool
    b_int := PySem.W.mg_none_of X G z_int
    b_isinstance := PySem.W.mg_none_of X G z_isinstance
    b_len := PySem.W.mg_none_of X G z_len
    b_max := PySem.W.mg_none_of X G z_max
    b_min := PySem.W.mg_none_of X G z_min
    b_range := PySem.W.mg_none_of X G z_range
    b_sorted := PySem.W.mg_none_of X G z_sorted
    b_str := PySem.W.mg_none_of X G z_str
    b_tuple := PySem.W.mg_none_of X G z_tuple
    c_HIT := let ⟨t, e⟩ := v_HIT; ⟨t, PySem.W.mg_of X G e⟩
    c_MISS := let ⟨t, e⟩ := v_MISS; ⟨t, PySem.W.mg_of X G e⟩
    c_MOST_LENGTH := let ⟨t, e⟩ := v_MOST_LENGTH; ⟨t, PySem.W.mg_of X G e⟩
    c_MOST_SINK := let ⟨t, e⟩ := v_MOST_SINK; ⟨t, PySem.W.mg_of X G e⟩
    c_RING := let ⟨t, e⟩ := v_RING; ⟨t, PySem.W.mg_of X G e⟩
    c_ROW := let ⟨t, e⟩ := v_ROW; ⟨t, PySem.W.mg_of X G e⟩
    c_SHAPES := let ⟨a, o, its, n, e, r⟩ := v_SHAPES; ⟨a, o, its, n, PySem.W.mg_of X G e, r⟩
    c_SUNK := let ⟨t, e⟩ := v_SUNK; ⟨t, PySem.W.mg_of X G e⟩
    k0 := oC0.cls
    k4 := oC4.cls
    n0_form := n0_form
    n0_lengths := n0_lengths
    n0_room := n0_room
    n4_known := n4_known
    n4_many := n4_many }
  obtain ⟨fd_is_integer, F_is_integer_⟩ := d_is_integer
  have b_is_integer := F_is_integer_.binds (ps := ["value"]) fun _ _ _ _ _ _ us hl => match us, hl with | [_], _ => rfl
  obtain ⟨fd_is_from, F_is_from_⟩ := d_is_from
  have b_is_from := F_is_from_.binds (ps := ["value", "low", "high"]) fun _ _ _ _ _ _ us hl => match us, hl with | [_, _, _], _ => rfl
  obtain ⟨fd_is_one_of, F_is_one_of_⟩ := d_is_one_of
  have b_is_one_of := F_is_one_of_.binds (ps := ["value", "some"]) fun _ _ _ _ _ _ us hl => match us, hl with | [_, _], _ => rfl
  obtain ⟨fd_Fleet_init, F_Fleet_init_⟩ := d_Fleet_init
  have b_Fleet_init := F_Fleet_init_.binds (ps := ["self", "shape", "ships", "gap"]) fun _ _ _ _ _ _ us hl => match us, hl with | [_, _, _, _], _ => rfl
  obtain ⟨fd_check_number, F_check_number_⟩ := d_check_number
  have b_check_number := F_check_number_.binds (ps := ["value", "high"]) fun _ _ _ _ _ _ us hl => match us, hl with | [_, _], _ => rfl
  obtain ⟨fd_spans, F_spans_⟩ := d_spans
  have b_spans := F_spans_.binds (ps := ["fleet", "n", "length", "shot"]) fun _ _ _ _ _ _ us hl => match us, hl with | [_, _, _, _], _ => rfl
  obtain ⟨fd_are_next, F_are_next_⟩ := d_are_next
  have b_are_next := F_are_next_.binds (ps := ["fleet", "n", "one", "other"]) fun _ _ _ _ _ _ us hl => match us, hl with | [_, _, _, _], _ => rfl
  obtain ⟨fd_can_both, F_can_both_⟩ := d_can_both
  have b_can_both := F_can_both_.binds (ps := ["fleet", "n", "one", "other"]) fun _ _ _ _ _ _ us hl => match us, hl with | [_, _, _, _], _ => rfl
  obtain ⟨fd_all_places, F_all_places_⟩ := d_all_places
  have b_all_places := F_all_places_.binds (ps := ["fleet", "n", "shot"]) fun _ _ _ _ _ _ us hl => match us, hl with | [_, _, _], _ => rfl
  obtain ⟨fd_word_at, F_word_at_⟩ := d_word_at
  have b_word_at := F_word_at_.binds (ps := ["place", "cell", "shot"]) fun _ _ _ _ _ _ us hl => match us, hl with | [_, _, _], _ => rfl
  obtain ⟨fd_parted, F_parted_⟩ := d_parted
  have b_parted := F_parted_.binds (ps := ["some", "cell", "shot"]) fun _ _ _ _ _ _ us hl => match us, hl with | [_, _, _], _ => rfl
  obtain ⟨fd_Sinking_init, F_Sinking_init_⟩ := d_Sinking_init
  have b_Sinking_init := F_Sinking_init_.binds (ps := ["self", "n"]) fun _ _ _ _ _ _ us hl => match us, hl with | [_, _], _ => rfl
  obtain ⟨fd_Sinking_worst, F_Sinking_worst_⟩ := d_Sinking_worst
  have b_Sinking_worst := F_Sinking_worst_.binds (ps := ["self", "some", "shot", "cell"]) fun _ _ _ _ _ _ us hl => match us, hl with | [_, _, _, _], _ => rfl
  obtain ⟨fd_Sinking_best, F_Sinking_best_⟩ := d_Sinking_best
  have b_Sinking_best := F_Sinking_best_.binds (ps := ["self", "some", "shot"]) fun _ _ _ _ _ _ us hl => match us, hl with | [_, _, _], _ => rfl
  obtain ⟨fd_to_sink, F_to_sink_⟩ := d_to_sink
  have b_to_sink := F_to_sink_.binds (ps := ["fleet", "n"]) fun _ _ _ _ _ _ us hl => match us, hl with | [_, _], _ => rfl
  obtain ⟨fd__law_pick, F__law_pick_⟩ := d__law_pick
  have b__law_pick := F__law_pick_.binds (ps := ["_law_row", "_law_many"]) fun _ _ _ _ _ _ us hl => match us, hl with | [_, _], _ => rfl
  obtain ⟨fd__law_fleet, F__law_fleet_⟩ := d__law_fleet
  have b__law_fleet := F__law_fleet_.binds (ps := ["_law_row"]) fun _ _ _ _ _ _ us hl => match us, hl with | [_], _ => rfl
  obtain ⟨fd__law_made, F__law_made_⟩ := d__law_made
  have b__law_made := F__law_made_.binds (ps := ["_law_d"]) fun _ _ _ _ _ _ us hl => match us, hl with | [_], _ => rfl
  obtain ⟨fd__law_spans, F__law_spans_⟩ := d__law_spans
  have b__law_spans := F__law_spans_.binds (ps := ["_law_d", "_law_n", "_law_size"]) fun _ _ _ _ _ _ us hl => match us, hl with | [_, _, _], _ => rfl
  obtain ⟨fd__law_apart, F__law_apart_⟩ := d__law_apart
  have b__law_apart := F__law_apart_.binds (ps := ["_law_d", "_law_n", "_law_one", "_law_two"]) fun _ _ _ _ _ _ us hl => match us, hl with | [_, _, _, _], _ => rfl
  obtain ⟨fd__law_places, F__law_places_⟩ := d__law_places
  have b__law_places := F__law_places_.binds (ps := ["_law_d", "_law_n"]) fun _ _ _ _ _ _ us hl => match us, hl with | [_, _], _ => rfl
  obtain ⟨fd__law_word, F__law_word_⟩ := d__law_word
  have b__law_word := F__law_word_.binds (ps := ["_law_place", "_law_cell", "_law_shot"]) fun _ _ _ _ _ _ us hl => match us, hl with | [_, _, _], _ => rfl
  obtain ⟨fd__law_sunk, F__law_sunk_⟩ := d__law_sunk
  have b__law_sunk := F__law_sunk_.binds (ps := ["_law_some", "_law_shot"]) fun _ _ _ _ _ _ us hl => match us, hl with | [_, _], _ => rfl
  obtain ⟨fd__law_best_shots, F__law_best_shots_⟩ := d__law_best_shots
  have b__law_best_shots := F__law_best_shots_.binds (ps := ["_law_n", "_law_some", "_law_shot", "_law_known"]) fun _ _ _ _ _ _ us hl => match us, hl with | [_, _, _, _], _ => rfl
  obtain ⟨fd_d, F_d⟩ := d__law_draws
  have b_d := F_d.binds (ps := ["_law_script"]) fun _ _ _ _ _ _ us hl => match us, hl with | [_], _ => rfl
  refine ⟨PySem.W.fnOf "law" "law" (defArgs (top 41)) (defBody (top 41)) (defScope (top 41)) .none kV_ dc_ pm_ an_ cd_ ct_, fun s v => .of_eq rfl, fun base _ _ => ?_⟩
  have x_BadShape : Xc PySem.Challenge.pw_shipsrow_k11_whole_sinking w K mg base "BadShape" ((ctOf [(0, C0), (4, C4), (10, C10), (11, C11), (12, C12), (13, C13)]) 10) (flds 10) := by
    obtain ⟨fd, cc, cda, sd⟩ := sC10
    have ok := Gx.init0 (w := w) (base := base) (mg := mg) sd ⟨rfl, rfl, rfl, by decide +kernel, rfl, by decide +kernel, by decide +kernel, sup_free rfl rfl, rfl, rfl⟩ rfl rfl (PySem.W.mg_none_of X G zsuper) (fun env => ⟨_, rfl⟩)
    obtain ⟨name, kV, doc, pm, ctv, oc, an, od, osl, e1, lk⟩ := sd.fn
    refine ⟨yC10, PySem.W.mg_of X G aC10, iC10, fd, ["self"], xC10, tC10, ?_, rfl, ok⟩
    subst e1
    exact Binds.all fun us hl => match us, hl with | [_], _ => rfl
  have x_BadShips : Xc PySem.Challenge.pw_shipsrow_k11_whole_sinking w K mg base "BadShips" ((ctOf [(0, C0), (4, C4), (10, C10), (11, C11), (12, C12), (13, C13)]) 11) (flds 11) := by
    obtain ⟨fd, cc, cda, sd⟩ := sC11
    have ok := Gx.init0 (w := w) (base := base) (mg := mg) sd ⟨rfl, rfl, rfl, by decide +kernel, rfl, by decide +kernel, by decide +kernel, sup_free rfl rfl, rfl, rfl⟩ rfl rfl (PySem.W.mg_none_of X G zsuper) (fun env => ⟨_, rfl⟩)
    obtain ⟨name, kV, doc, pm, ctv, oc, an, od, osl, e1, lk⟩ := sd.fn
    refine ⟨yC11, PySem.W.mg_of X G aC11, iC11, fd, ["self"], xC11, tC11, ?_, rfl, ok⟩
    subst e1
    exact Binds.all fun us hl => match us, hl with | [_], _ => rfl
  have x_BadGap : Xc PySem.Challenge.pw_shipsrow_k11_whole_sinking w K mg base "BadGap" ((ctOf [(0, C0), (4, C4), (10, C10), (11, C11), (12, C12), (13, C13)]) 12) (flds 12) := by
    obtain ⟨fd, cc, cda, sd⟩ := sC12
    have ok := Gx.init0 (w := w) (base := base) (mg := mg) sd ⟨rfl, rfl, rfl, by decide +kernel, rfl, by decide +kernel, by decide +kernel, sup_free rfl rfl, rfl, rfl⟩ rfl rfl (PySem.W.mg_none_of X G zsuper) (fun env => ⟨_, rfl⟩)
    obtain ⟨name, kV, doc, pm, ctv, oc, an, od, osl, e1, lk⟩ := sd.fn
    refine ⟨yC12, PySem.W.mg_of X G aC12, iC12, fd, ["self"], xC12, tC12, ?_, rfl, ok⟩
    subst e1
    exact Binds.all fun us hl => match us, hl with | [_], _ => rfl
  have x_BadNumber : Xc PySem.Challenge.pw_shipsrow_k11_whole_sinking w K mg base "BadNumber" ((ctOf [(0, C0), (4, C4), (10, C10), (11, C11), (12, C12), (13, C13)]) 13) (flds 13) := by
    obtain ⟨fd, cc, cda, sd⟩ := sC13
    have ok := Gx.init0 (w := w) (base := base) (mg := mg) sd ⟨rfl, rfl, rfl, by decide +kernel, rfl, by decide +kernel, by decide +kernel, sup_free rfl rfl, rfl, rfl⟩ rfl rfl (PySem.W.mg_none_of X G zsuper) (fun env => ⟨_, rfl⟩)
    obtain ⟨name, kV, doc, pm, ctv, oc, an, od, osl, e1, lk⟩ := sd.fn
    refine ⟨yC13, PySem.W.mg_of X G aC13, iC13, fd, ["self"], xC13, tC13, ?_, rfl, ok⟩
    subst e1
    exact Binds.all fun us hl => match us, hl with | [_], _ => rfl
  have o_is_integer := ok_is_integer (P := PySem.Challenge.pw_shipsrow_k11_whole_sinking) (w := w) (base := base) M  F_is_integer_
  have c_is_integer : Cal PySem.Challenge.pw_shipsrow_k11_whole_sinking w K mg base ⟨K, (ctOf [(0, C0), (4, C4), (10, C10), (11, C11), (12, C12), (13, C13)])⟩ 1 "is_integer" 1 F_is_integer := ⟨f_is_integer, fd_is_integer, ["value"], PySem.W.mg_of X G a_is_integer, F_is_integer_.kp, b_is_integer, o_is_integer⟩
  have o_is_from := ok_is_from (P := PySem.Challenge.pw_shipsrow_k11_whole_sinking) (w := w) (base := base) M c_is_integer F_is_from_
  have c_is_from : Cal PySem.Challenge.pw_shipsrow_k11_whole_sinking w K mg base ⟨K, (ctOf [(0, C0), (4, C4), (10, C10), (11, C11), (12, C12), (13, C13)])⟩ 2 "is_from" 3 F_is_from := ⟨f_is_from, fd_is_from, ["value", "low", "high"], PySem.W.mg_of X G a_is_from, F_is_from_.kp, b_is_from, o_is_from⟩
  have o_is_one_of := ok_is_one_of (P := PySem.Challenge.pw_shipsrow_k11_whole_sinking) (w := w) (base := base) M  F_is_one_of_
  have c_is_one_of : Cal PySem.Challenge.pw_shipsrow_k11_whole_sinking w K mg base ⟨K, (ctOf [(0, C0), (4, C4), (10, C10), (11, C11), (12, C12), (13, C13)])⟩ 1 "is_one_of" 2 F_is_one_of := ⟨f_is_one_of, fd_is_one_of, ["value", "some"], PySem.W.mg_of X G a_is_one_of, F_is_one_of_.kp, b_is_one_of, o_is_one_of⟩
  have o_Fleet_init := ok_Fleet_init (P := PySem.Challenge.pw_shipsrow_k11_whole_sinking) (w := w) (base := base) M c_is_one_of c_is_from x_BadGap x_BadShape x_BadShips F_Fleet_init_
  have m_Fleet : Ma PySem.Challenge.pw_shipsrow_k11_whole_sinking w K mg base ⟨K, (ctOf [(0, C0), (4, C4), (10, C10), (11, C11), (12, C12), (13, C13)])⟩ 3 "Fleet" 0 3 F_Fleet_init := ⟨f_Fleet_init, fd_Fleet_init, ["self", "shape", "ships", "gap"], PySem.W.mg_of X G aC0, ⟨mC0, a_Fleet_init, i_Fleet_init, kC0⟩, b_Fleet_init, o_Fleet_init⟩
  have o_check_number := ok_check_number (P := PySem.Challenge.pw_shipsrow_k11_whole_sinking) (w := w) (base := base) M c_is_from x_BadNumber F_check_number_
  have c_check_number : Cal PySem.Challenge.pw_shipsrow_k11_whole_sinking w K mg base ⟨K, (ctOf [(0, C0), (4, C4), (10, C10), (11, C11), (12, C12), (13, C13)])⟩ 3 "check_number" 2 F_check_number := ⟨f_check_number, fd_check_number, ["value", "high"], PySem.W.mg_of X G a_check_number, F_check_number_.kp, b_check_number, o_check_number⟩
  have o_spans := ok_spans (P := PySem.Challenge.pw_shipsrow_k11_whole_sinking) (w := w) (base := base) M  F_spans_
  have c_spans : Cal PySem.Challenge.pw_shipsrow_k11_whole_sinking w K mg base ⟨K, (ctOf [(0, C0), (4, C4), (10, C10), (11, C11), (12, C12), (13, C13)])⟩ 1 "spans" 4 F_spans := ⟨f_spans, fd_spans, ["fleet", "n", "length", "shot"], PySem.W.mg_of X G a_spans, F_spans_.kp, b_spans, o_spans⟩
  have o_are_next := ok_are_next (P := PySem.Challenge.pw_shipsrow_k11_whole_sinking) (w := w) (base := base) M  F_are_next_
  have c_are_next : Cal PySem.Challenge.pw_shipsrow_k11_whole_sinking w K mg base ⟨K, (ctOf [(0, C0), (4, C4), (10, C10), (11, C11), (12, C12), (13, C13)])⟩ 1 "are_next" 4 F_are_next := ⟨f_are_next, fd_are_next, ["fleet", "n", "one", "other"], PySem.W.mg_of X G a_are_next, F_are_next_.kp, b_are_next, o_are_next⟩
  have o_can_both := ok_can_both (P := PySem.Challenge.pw_shipsrow_k11_whole_sinking) (w := w) (base := base) M c_are_next F_can_both_
  have c_can_both : Cal PySem.Challenge.pw_shipsrow_k11_whole_sinking w K mg base ⟨K, (ctOf [(0, C0), (4, C4), (10, C10), (11, C11), (12, C12), (13, C13)])⟩ 2 "can_both" 4 F_can_both := ⟨f_can_both, fd_can_both, ["fleet", "n", "one", "other"], PySem.W.mg_of X G a_can_both, F_can_both_.kp, b_can_both, o_can_both⟩
  have o_all_places := ok_all_places (P := PySem.Challenge.pw_shipsrow_k11_whole_sinking) (w := w) (base := base) M c_spans c_can_both F_all_places_
  have c_all_places : Cal PySem.Challenge.pw_shipsrow_k11_whole_sinking w K mg base ⟨K, (ctOf [(0, C0), (4, C4), (10, C10), (11, C11), (12, C12), (13, C13)])⟩ 3 "all_places" 3 F_all_places := ⟨f_all_places, fd_all_places, ["fleet", "n", "shot"], PySem.W.mg_of X G a_all_places, F_all_places_.kp, b_all_places, o_all_places⟩
  have o_word_at := ok_word_at (P := PySem.Challenge.pw_shipsrow_k11_whole_sinking) (w := w) (base := base) M  F_word_at_
  have c_word_at : Cal PySem.Challenge.pw_shipsrow_k11_whole_sinking w K mg base ⟨K, (ctOf [(0, C0), (4, C4), (10, C10), (11, C11), (12, C12), (13, C13)])⟩ 1 "word_at" 3 F_word_at := ⟨f_word_at, fd_word_at, ["place", "cell", "shot"], PySem.W.mg_of X G a_word_at, F_word_at_.kp, b_word_at, o_word_at⟩
  have o_parted := ok_parted (P := PySem.Challenge.pw_shipsrow_k11_whole_sinking) (w := w) (base := base) M c_word_at F_parted_
  have c_parted : Cal PySem.Challenge.pw_shipsrow_k11_whole_sinking w K mg base ⟨K, (ctOf [(0, C0), (4, C4), (10, C10), (11, C11), (12, C12), (13, C13)])⟩ 2 "parted" 3 F_parted := ⟨f_parted, fd_parted, ["some", "cell", "shot"], PySem.W.mg_of X G a_parted, F_parted_.kp, b_parted, o_parted⟩
  have o_Sinking_init := ok_Sinking_init (P := PySem.Challenge.pw_shipsrow_k11_whole_sinking) (w := w) (base := base) M  F_Sinking_init_
  have m_Sinking : Ma PySem.Challenge.pw_shipsrow_k11_whole_sinking w K mg base ⟨K, (ctOf [(0, C0), (4, C4), (10, C10), (11, C11), (12, C12), (13, C13)])⟩ 1 "Sinking" 4 1 F_Sinking_init := ⟨f_Sinking_init, fd_Sinking_init, ["self", "n"], PySem.W.mg_of X G aC4, ⟨mC4, a_Sinking_init, i_Sinking_init, kC4⟩, b_Sinking_init, o_Sinking_init⟩
  have rec_Sinking_best : ∀ j, FnOk PySem.Challenge.pw_shipsrow_k11_whole_sinking w K mg base (L2.CX PySem.Challenge.pw_shipsrow_k11_whole_sinking w) (2 * j + 10) f_Sinking_best fd_Sinking_best ["self", "some", "shot"] (spF ⟨K, (ctOf [(0, C0), (4, C4), (10, C10), (11, C11), (12, C12), (13, C13)])⟩ 3 (F_Sinking_best j)) := by
    intro j
    induction j with
    | zero => exact fn_no
    | succ j ih =>
      have h_0 := (⟨oC4.cls, f_Sinking_best, fd_Sinking_best, ["self", "some", "shot"], ⟨a_Sinking_best, i_Sinking_best, F_Sinking_best_.kp⟩, b_Sinking_best, ih⟩ : Mw PySem.Challenge.pw_shipsrow_k11_whole_sinking w K mg base ⟨K, (ctOf [(0, C0), (4, C4), (10, C10), (11, C11), (12, C12), (13, C13)])⟩ (2 * j + 10) 4 "best" 3 (F_Sinking_best j))
      have r_0 := ok_Sinking_worst (P := PySem.Challenge.pw_shipsrow_k11_whole_sinking) (w := w) (base := base) (m := 2 * j) M c_parted h_0 F_Sinking_worst_
      have h_1 := (⟨oC4.cls, f_Sinking_worst, fd_Sinking_worst, ["self", "some", "shot", "cell"], ⟨a_Sinking_worst, i_Sinking_worst, F_Sinking_worst_.kp⟩, b_Sinking_worst, r_0⟩ : Mw PySem.Challenge.pw_shipsrow_k11_whole_sinking w K mg base ⟨K, (ctOf [(0, C0), (4, C4), (10, C10), (11, C11), (12, C12), (13, C13)])⟩ (2 * j + 1 + 10) 4 "worst" 4 (F_Sinking_worstO (F_Sinking_best j)))
      have r_1 := ok_Sinking_best (P := PySem.Challenge.pw_shipsrow_k11_whole_sinking) (w := w) (base := base) (m := 2 * j + 1) M h_1 F_Sinking_best_
      exact r_1.mono (by omega)
  have mw_Sinking_best := (⟨oC4.cls, f_Sinking_best, fd_Sinking_best, ["self", "some", "shot"], ⟨a_Sinking_best, i_Sinking_best, F_Sinking_best_.kp⟩, b_Sinking_best, rec_Sinking_best 7⟩ : Mw PySem.Challenge.pw_shipsrow_k11_whole_sinking w K mg base ⟨K, (ctOf [(0, C0), (4, C4), (10, C10), (11, C11), (12, C12), (13, C13)])⟩ 24 4 "best" 3 ((F_Sinking_best 7)))
  have o_to_sink := ok_to_sink (P := PySem.Challenge.pw_shipsrow_k11_whole_sinking) (w := w) (base := base) M c_check_number c_all_places m_Sinking mw_Sinking_best F_to_sink_
  have c_to_sink : Cal PySem.Challenge.pw_shipsrow_k11_whole_sinking w K mg base ⟨K, (ctOf [(0, C0), (4, C4), (10, C10), (11, C11), (12, C12), (13, C13)])⟩ 25 "to_sink" 2 F_to_sink := ⟨f_to_sink, fd_to_sink, ["fleet", "n"], PySem.W.mg_of X G a_to_sink, F_to_sink_.kp, b_to_sink, o_to_sink⟩
  have o__law_pick := ok__law_pick (P := PySem.Challenge.pw_shipsrow_k11_whole_sinking) (w := w) (base := base) M  F__law_pick_
  have c__law_pick : Cal PySem.Challenge.pw_shipsrow_k11_whole_sinking w K mg base ⟨K, (ctOf [(0, C0), (4, C4), (10, C10), (11, C11), (12, C12), (13, C13)])⟩ 1 "_law_pick" 2 F__law_pick := ⟨f__law_pick, fd__law_pick, ["_law_row", "_law_many"], PySem.W.mg_of X G a__law_pick, F__law_pick_.kp, b__law_pick, o__law_pick⟩
  have o__law_fleet := ok__law_fleet (P := PySem.Challenge.pw_shipsrow_k11_whole_sinking) (w := w) (base := base) M c__law_pick F__law_fleet_
  have c__law_fleet : Cal PySem.Challenge.pw_shipsrow_k11_whole_sinking w K mg base ⟨K, (ctOf [(0, C0), (4, C4), (10, C10), (11, C11), (12, C12), (13, C13)])⟩ 2 "_law_fleet" 1 F__law_fleet := ⟨f__law_fleet, fd__law_fleet, ["_law_row"], PySem.W.mg_of X G a__law_fleet, F__law_fleet_.kp, b__law_fleet, o__law_fleet⟩
  have o__law_made := ok__law_made (P := PySem.Challenge.pw_shipsrow_k11_whole_sinking) (w := w) (base := base) M m_Fleet F__law_made_
  have c__law_made : Cal PySem.Challenge.pw_shipsrow_k11_whole_sinking w K mg base ⟨K, (ctOf [(0, C0), (4, C4), (10, C10), (11, C11), (12, C12), (13, C13)])⟩ 5 "_law_made" 1 F__law_made := ⟨f__law_made, fd__law_made, ["_law_d"], PySem.W.mg_of X G a__law_made, F__law_made_.kp, b__law_made, o__law_made⟩
  have o__law_spans := ok__law_spans (P := PySem.Challenge.pw_shipsrow_k11_whole_sinking) (w := w) (base := base) M  F__law_spans_
  have c__law_spans : Cal PySem.Challenge.pw_shipsrow_k11_whole_sinking w K mg base ⟨K, (ctOf [(0, C0), (4, C4), (10, C10), (11, C11), (12, C12), (13, C13)])⟩ 1 "_law_spans" 3 F__law_spans := ⟨f__law_spans, fd__law_spans, ["_law_d", "_law_n", "_law_size"], PySem.W.mg_of X G a__law_spans, F__law_spans_.kp, b__law_spans, o__law_spans⟩
  have o__law_apart := ok__law_apart (P := PySem.Challenge.pw_shipsrow_k11_whole_sinking) (w := w) (base := base) M  F__law_apart_
  have c__law_apart : Cal PySem.Challenge.pw_shipsrow_k11_whole_sinking w K mg base ⟨K, (ctOf [(0, C0), (4, C4), (10, C10), (11, C11), (12, C12), (13, C13)])⟩ 1 "_law_apart" 4 F__law_apart := ⟨f__law_apart, fd__law_apart, ["_law_d", "_law_n", "_law_one", "_law_two"], PySem.W.mg_of X G a__law_apart, F__law_apart_.kp, b__law_apart, o__law_apart⟩
  have o__law_places := ok__law_places (P := PySem.Challenge.pw_shipsrow_k11_whole_sinking) (w := w) (base := base) M c__law_spans c__law_apart F__law_places_
  have c__law_places : Cal PySem.Challenge.pw_shipsrow_k11_whole_sinking w K mg base ⟨K, (ctOf [(0, C0), (4, C4), (10, C10), (11, C11), (12, C12), (13, C13)])⟩ 2 "_law_places" 2 F__law_places := ⟨f__law_places, fd__law_places, ["_law_d", "_law_n"], PySem.W.mg_of X G a__law_places, F__law_places_.kp, b__law_places, o__law_places⟩
  have o__law_word := ok__law_word (P := PySem.Challenge.pw_shipsrow_k11_whole_sinking) (w := w) (base := base) M  F__law_word_
  have c__law_word : Cal PySem.Challenge.pw_shipsrow_k11_whole_sinking w K mg base ⟨K, (ctOf [(0, C0), (4, C4), (10, C10), (11, C11), (12, C12), (13, C13)])⟩ 1 "_law_word" 3 F__law_word := ⟨f__law_word, fd__law_word, ["_law_place", "_law_cell", "_law_shot"], PySem.W.mg_of X G a__law_word, F__law_word_.kp, b__law_word, o__law_word⟩
  have o__law_sunk := ok__law_sunk (P := PySem.Challenge.pw_shipsrow_k11_whole_sinking) (w := w) (base := base) M  F__law_sunk_
  have c__law_sunk : Cal PySem.Challenge.pw_shipsrow_k11_whole_sinking w K mg base ⟨K, (ctOf [(0, C0), (4, C4), (10, C10), (11, C11), (12, C12), (13, C13)])⟩ 1 "_law_sunk" 2 F__law_sunk := ⟨f__law_sunk, fd__law_sunk, ["_law_some", "_law_shot"], PySem.W.mg_of X G a__law_sunk, F__law_sunk_.kp, b__law_sunk, o__law_sunk⟩
  have rec__law_best_shots : ∀ j, FnOk PySem.Challenge.pw_shipsrow_k11_whole_sinking w K mg base (L2.CX PySem.Challenge.pw_shipsrow_k11_whole_sinking w) (1 * j + 10) f__law_best_shots fd__law_best_shots ["_law_n", "_law_some", "_law_shot", "_law_known"] (spF ⟨K, (ctOf [(0, C0), (4, C4), (10, C10), (11, C11), (12, C12), (13, C13)])⟩ 4 (F__law_best_shots j)) := by
    intro j
    induction j with
    | zero => exact fn_no
    | succ j ih =>
      have h_0 := (Cal.mk ⟨f__law_best_shots, fd__law_best_shots, ["_law_n", "_law_some", "_law_shot", "_law_known"], PySem.W.mg_of X G a__law_best_shots, F__law_best_shots_.kp, b__law_best_shots, ih⟩ : Cal PySem.Challenge.pw_shipsrow_k11_whole_sinking w K mg base ⟨K, (ctOf [(0, C0), (4, C4), (10, C10), (11, C11), (12, C12), (13, C13)])⟩ (1 * j + 10) "_law_best_shots" 4 (F__law_best_shots j))
      have r_0 := ok__law_best_shots (P := PySem.Challenge.pw_shipsrow_k11_whole_sinking) (w := w) (base := base) (m := 1 * j) M c__law_sunk c__law_word h_0 F__law_best_shots_
      exact r_0.mono (by omega)
  have c__law_best_shots := (Cal.mk ⟨f__law_best_shots, fd__law_best_shots, ["_law_n", "_law_some", "_law_shot", "_law_known"], PySem.W.mg_of X G a__law_best_shots, F__law_best_shots_.kp, b__law_best_shots, rec__law_best_shots 7⟩ : Cal PySem.Challenge.pw_shipsrow_k11_whole_sinking w K mg base ⟨K, (ctOf [(0, C0), (4, C4), (10, C10), (11, C11), (12, C12), (13, C13)])⟩ 17 "_law_best_shots" 4 ((F__law_best_shots 7)))
  exact ok_law M c__law_fleet c__law_pick c__law_places c__law_best_shots c_to_sink c__law_made (fun_mk l_law c_law k_law) ⟨_, fd_d, PySem.W.mg_of X G a__law_draws, F_d.kp, b_d, draws_ok F_d ⟨rfl, rfl, rfl, by decide +kernel, rfl, by decide +kernel, by decide +kernel⟩ (PySem.W.mg_none_of X G zlist) rfl rfl rfl⟩ hsem
theorem walk {l : PySem.W.OpenLaw} {q : Program} {loose : List Str} {XP : (Str → Option Value) → Heap → Prop} {YP : World → Heap → Prop} {d : DefRec} {K : Params → PySem.W.Frag} (hn : l.most = some 63) (hdf : d.params.defaults = [])
    (hY : ∀ (w : World) (h : Heap), YP w h → (K w.params).In h)
    (F : ∀ (w : World) (mg : Str → Option Value) (fa : Addr) (h : Heap), (K w.params).In h → h.Ns mainGlobals mg → mg d.name = some (.ref fa) →
      ∃ fd : FuncData, (∀ (s : Shared) (u : Value), BindsTo s fd ⟨[u], []⟩ [("_law_script", u)]) ∧ ∀ base : Heap, (K w.params).In base → base.Ns mainGlobals mg → FnOk l.prog w (K w.params) mg base (L2.CX l.prog w) 26 fa fd ["_law_script"] (spLaw (K w.params))) :
    PySem.W.WalkO q loose XP YP l.row.toRowW d [] (fun f vs => PySem.call f vs) :=
  L2.walk_of (n := 63) (k := 26) (x := "_law_script") (CX := fun w => L2.CX l.prog w) (sp := fun w => spLaw (K w.params)) hn (by decide) hdf ⟨rfl, by decide, by decide⟩ hY F (fun _ _ a ns hl _ hS => ⟨a, ns, rfl, hl, hS, fun _ => rfl⟩)
    fun w H s e s' z => cx_end z
end K11
open PySem PySem.W PyProof.Rows Gx in
set_option maxRecDepth 100000 in
set_option maxHeartbeats 0 in
theorem PySem.Challenge.cw_shipsrow_k11_whole_sinking_holds : PySem.Challenge.rw_shipsrow_k11_whole_sinking.Holds := by
  w_on; o_law; k_head; (case hw => w_witness2)
  k_fill
  refine K11.walk (l := PySem.Challenge.rw_shipsrow_k11_whole_sinking) rfl rfl (fun w h Y => PySem.W.kIn_of Y) ?F
  case F =>
    intro w mg fa h KX G hmg
    refine' K11.all_mk KX G hmg K11.sem_law ?aC0 ?aC4 ?aC10 ?aC11 ?aC12 ?aC13 ?oC0 ?mC0 ?kC0 ?oC4 ?mC4 ?kC4 ?a__law_draws ?d__law_draws ?a_is_integer ?d_is_integer ?a_is_from ?d_is_from ?a_is_one_of ?d_is_one_of ?a_check_number ?d_check_number ?a_spans ?d_spans ?a_are_next ?d_are_next ?a_can_both ?d_can_both ?a_all_places ?d_all_places ?a_word_at ?d_word_at ?a_parted ?d_parted ?a_to_sink ?d_to_sink ?a__law_pick ?d__law_pick ?a__law_fleet ?d__law_fleet ?a__law_made ?d__law_made ?a__law_spans ?d__law_spans ?a__law_apart ?d__law_apart ?a__law_places ?d__law_places ?a__law_word ?d__law_word ?a__law_sunk ?d__law_sunk ?a__law_best_shots ?d__law_best_shots ?a_law ?l_law ?c_law ?k_law ?a_Fleet_init ?i_Fleet_init ?d_Fleet_init ?a_Sinking_init ?i_Sinking_init ?d_Sinking_init ?a_Sinking_worst ?i_Sinking_worst ?d_Sinking_worst ?a_Sinking_best ?i_Sinking_best ?d_Sinking_best ?eC10 ?eC11 ?eC12 ?eC13 ?xC10 ?tC10 ?yC10 ?sC10 ?uC10_10 ?uC10_11 ?uC10_12 ?uC10_13 ?xC11 ?tC11 ?yC11 ?sC11 ?uC11_10 ?uC11_11 ?uC11_12 ?uC11_13 ?xC12 ?tC12 ?yC12 ?sC12 ?uC12_10 ?uC12_11 ?uC12_12 ?uC12_13 ?xC13 ?tC13 ?yC13 ?sC13 ?uC13_10 ?uC13_11 ?uC13_12 ?uC13_13 ?z_abs ?z_all ?z_any ?z_bool ?z_int ?z_isinstance ?z_len ?z_max ?z_min ?z_range ?z_sorted ?z_str ?z_tuple ?v_HIT ?v_MISS ?v_MOST_LENGTH ?v_MOST_SINK ?v_RING ?v_ROW ?v_SHAPES ?v_SUNK ?n0_form ?n0_lengths ?n0_room ?n4_known ?n4_many ?zlist ?zsuper
    (case aC0 => k_is)
    (case aC4 => k_is)
    (case aC10 => k_is)
    (case aC11 => k_is)
    (case aC12 => k_is)
    (case aC13 => k_is)
    (case oC0 => exact ⟨by k_is, by k_is, by k_is, by k_is, by k_is, by k_is, by k_is, by k_is, by k_is, by k_is, by k_is, by k_is, by k_is, by k_is, by k_is, by k_is, by k_is, by k_is, by k_is, by k_is, by k_is, by k_is, by k_is, by k_is, by k_is⟩)
    (case mC0 => k_is)
    (case kC0 => k_is)
    (case oC4 => exact ⟨by k_is, by k_is, by k_is, by k_is, by k_is, by k_is, by k_is, by k_is, by k_is, by k_is, by k_is, by k_is, by k_is, by k_is, by k_is, by k_is, by k_is, by k_is, by k_is, by k_is, by k_is, by k_is, by k_is, by k_is, by k_is⟩)
    (case mC4 => k_is)
    (case kC4 => k_is)
    (case a__law_draws => k_is)
    (case d__law_draws => refine' fn_mk ?l ?c ?k; (case l => k_is); (case c => k_is); (case k => k_is))
    (case a_is_integer => k_is)
    (case d_is_integer => refine' fn_mk ?l ?c ?k; (case l => k_is); (case c => k_is); (case k => k_is))
    (case a_is_from => k_is)
    (case d_is_from => refine' fn_mk ?l ?c ?k; (case l => k_is); (case c => k_is); (case k => k_is))
    (case a_is_one_of => k_is)
    (case d_is_one_of => refine' fn_mk ?l ?c ?k; (case l => k_is); (case c => k_is); (case k => k_is))
    (case a_check_number => k_is)
    (case d_check_number => refine' fn_mk ?l ?c ?k; (case l => k_is); (case c => k_is); (case k => k_is))
    (case a_spans => k_is)
    (case d_spans => refine' fn_mk ?l ?c ?k; (case l => k_is); (case c => k_is); (case k => k_is))
    (case a_are_next => k_is)
    (case d_are_next => refine' fn_mk ?l ?c ?k; (case l => k_is); (case c => k_is); (case k => k_is))
    (case a_can_both => k_is)
    (case d_can_both => refine' fn_mk ?l ?c ?k; (case l => k_is); (case c => k_is); (case k => k_is))
    (case a_all_places => k_is)
    (case d_all_places => refine' fn_mk ?l ?c ?k; (case l => k_is); (case c => k_is); (case k => k_is))
    (case a_word_at => k_is)
    (case d_word_at => refine' fn_mk ?l ?c ?k; (case l => k_is); (case c => k_is); (case k => k_is))
    (case a_parted => k_is)
    (case d_parted => refine' fn_mk ?l ?c ?k; (case l => k_is); (case c => k_is); (case k => k_is))
    (case a_to_sink => k_is)
    (case d_to_sink => refine' fn_mk ?l ?c ?k; (case l => k_is); (case c => k_is); (case k => k_is))
    (case a__law_pick => k_is)
    (case d__law_pick => refine' fn_mk ?l ?c ?k; (case l => k_is); (case c => k_is); (case k => k_is))
    (case a__law_fleet => k_is)
    (case d__law_fleet => refine' fn_mk ?l ?c ?k; (case l => k_is); (case c => k_is); (case k => k_is))
    (case a__law_made => k_is)
    (case d__law_made => refine' fn_mk ?l ?c ?k; (case l => k_is); (case c => k_is); (case k => k_is))
    (case a__law_spans => k_is)
    (case d__law_spans => refine' fn_mk ?l ?c ?k; (case l => k_is); (case c => k_is); (case k => k_is))
    (case a__law_apart => k_is)
    (case d__law_apart => refine' fn_mk ?l ?c ?k; (case l => k_is); (case c => k_is); (case k => k_is))
    (case a__law_places => k_is)
    (case d__law_places => refine' fn_mk ?l ?c ?k; (case l => k_is); (case c => k_is); (case k => k_is))
    (case a__law_word => k_is)
    (case d__law_word => refine' fn_mk ?l ?c ?k; (case l => k_is); (case c => k_is); (case k => k_is))
    (case a__law_sunk => k_is)
    (case d__law_sunk => refine' fn_mk ?l ?c ?k; (case l => k_is); (case c => k_is); (case k => k_is))
    (case a__law_best_shots => k_is)
    (case d__law_best_shots => refine' fn_mk ?l ?c ?k; (case l => k_is); (case c => k_is); (case k => k_is))
    (case a_law => k_is)
    (case l_law => k_is)
    (case c_law => k_is)
    (case k_law => k_is)
    (case a_Fleet_init => k_is)
    (case i_Fleet_init => k_is)
    (case d_Fleet_init => refine' fn_mk ?l ?c ?k; (case l => k_is); (case c => k_is); (case k => k_is))
    (case a_Sinking_init => k_is)
    (case i_Sinking_init => k_is)
    (case d_Sinking_init => refine' fn_mk ?l ?c ?k; (case l => k_is); (case c => k_is); (case k => k_is))
    (case a_Sinking_worst => k_is)
    (case i_Sinking_worst => k_is)
    (case d_Sinking_worst => refine' fn_mk ?l ?c ?k; (case l => k_is); (case c => k_is); (case k => k_is))
    (case a_Sinking_best => k_is)
    (case i_Sinking_best => k_is)
    (case d_Sinking_best => refine' fn_mk ?l ?c ?k; (case l => k_is); (case c => k_is); (case k => k_is))
    (case eC10 => exact ⟨by k_is, by k_is, by k_is, by k_is, by k_is, by k_is, by k_is, by k_is, by k_is, by k_is, by k_is⟩)
    (case eC11 => exact ⟨by k_is, by k_is, by k_is, by k_is, by k_is, by k_is, by k_is, by k_is, by k_is, by k_is, by k_is⟩)
    (case eC12 => exact ⟨by k_is, by k_is, by k_is, by k_is, by k_is, by k_is, by k_is, by k_is, by k_is, by k_is, by k_is⟩)
    (case eC13 => exact ⟨by k_is, by k_is, by k_is, by k_is, by k_is, by k_is, by k_is, by k_is, by k_is, by k_is, by k_is⟩)
    (case xC10 => k_is)
    (case tC10 => k_is)
    (case yC10 => refine' oexc_mk ?l ?r ?sa ?ex ?ty ?kp; (case l => k_is); (case r => decide +kernel); (case sa => k_is); (case ex => k_is); (case ty => k_is); (case kp => k_is))
    (case sC10 => refine' sup_mk ?l ?c ?f1 ?f2 ?f3 ?cl ?tp ?mg ?op ?su ?mr ?ve ?ec; (case l => k_is); (case c => k_is); (case f1 => k_is); (case f2 => rfl); (case f3 => decide +kernel); (case cl => k_is); (case tp => decide +kernel); (case mg => k_is); (case op => k_is); (case su => ks_is); (case mr => k_is); (case ve => k_is); (case ec => refine' oexc_mk ?l2 ?r2 ?sa2 ?ex2 ?ty2 ?kp2; (case l2 => k_is); (case r2 => decide +kernel); (case sa2 => k_is); (case ex2 => k_is); (case ty2 => k_is); (case kp2 => k_is)))
    (case uC10_10 => k_is)
    (case uC10_11 => k_is)
    (case uC10_12 => k_is)
    (case uC10_13 => k_is)
    (case xC11 => k_is)
    (case tC11 => k_is)
    (case yC11 => refine' oexc_mk ?l ?r ?sa ?ex ?ty ?kp; (case l => k_is); (case r => decide +kernel); (case sa => k_is); (case ex => k_is); (case ty => k_is); (case kp => k_is))
    (case sC11 => refine' sup_mk ?l ?c ?f1 ?f2 ?f3 ?cl ?tp ?mg ?op ?su ?mr ?ve ?ec; (case l => k_is); (case c => k_is); (case f1 => k_is); (case f2 => rfl); (case f3 => decide +kernel); (case cl => k_is); (case tp => decide +kernel); (case mg => k_is); (case op => k_is); (case su => ks_is); (case mr => k_is); (case ve => k_is); (case ec => refine' oexc_mk ?l2 ?r2 ?sa2 ?ex2 ?ty2 ?kp2; (case l2 => k_is); (case r2 => decide +kernel); (case sa2 => k_is); (case ex2 => k_is); (case ty2 => k_is); (case kp2 => k_is)))
    (case uC11_10 => k_is)
    (case uC11_11 => k_is)
    (case uC11_12 => k_is)
    (case uC11_13 => k_is)
    (case xC12 => k_is)
    (case tC12 => k_is)
    (case yC12 => refine' oexc_mk ?l ?r ?sa ?ex ?ty ?kp; (case l => k_is); (case r => decide +kernel); (case sa => k_is); (case ex => k_is); (case ty => k_is); (case kp => k_is))
    (case sC12 => refine' sup_mk ?l ?c ?f1 ?f2 ?f3 ?cl ?tp ?mg ?op ?su ?mr ?ve ?ec; (case l => k_is); (case c => k_is); (case f1 => k_is); (case f2 => rfl); (case f3 => decide +kernel); (case cl => k_is); (case tp => decide +kernel); (case mg => k_is); (case op => k_is); (case su => ks_is); (case mr => k_is); (case ve => k_is); (case ec => refine' oexc_mk ?l2 ?r2 ?sa2 ?ex2 ?ty2 ?kp2; (case l2 => k_is); (case r2 => decide +kernel); (case sa2 => k_is); (case ex2 => k_is); (case ty2 => k_is); (case kp2 => k_is)))
    (case uC12_10 => k_is)
    (case uC12_11 => k_is)
    (case uC12_12 => k_is)
    (case uC12_13 => k_is)
    (case xC13 => k_is)
    (case tC13 => k_is)
    (case yC13 => refine' oexc_mk ?l ?r ?sa ?ex ?ty ?kp; (case l => k_is); (case r => decide +kernel); (case sa => k_is); (case ex => k_is); (case ty => k_is); (case kp => k_is))
    (case sC13 => refine' sup_mk ?l ?c ?f1 ?f2 ?f3 ?cl ?tp ?mg ?op ?su ?mr ?ve ?ec; (case l => k_is); (case c => k_is); (case f1 => k_is); (case f2 => rfl); (case f3 => decide +kernel); (case cl => k_is); (case tp => decide +kernel); (case mg => k_is); (case op => k_is); (case su => ks_is); (case mr => k_is); (case ve => k_is); (case ec => refine' oexc_mk ?l2 ?r2 ?sa2 ?ex2 ?ty2 ?kp2; (case l2 => k_is); (case r2 => decide +kernel); (case sa2 => k_is); (case ex2 => k_is); (case ty2 => k_is); (case kp2 => k_is)))
    (case uC13_10 => k_is)
    (case uC13_11 => k_is)
    (case uC13_12 => k_is)
    (case uC13_13 => k_is)
    (case z_abs => k_is)
    (case z_all => k_is)
    (case z_any => k_is)
    (case z_bool => k_is)
    (case z_int => k_is)
    (case z_isinstance => k_is)
    (case z_len => k_is)
    (case z_max => k_is)
    (case z_min => k_is)
    (case z_range => k_is)
    (case z_sorted => k_is)
    (case z_str => k_is)
    (case z_tuple => k_is)
    (case v_HIT => refine' vS_mk ?a; (case a => k_is))
    (case v_MISS => refine' vS_mk ?a; (case a => k_is))
    (case v_MOST_LENGTH => refine' vI_mk ?a; (case a => k_is))
    (case v_MOST_SINK => refine' vI_mk ?a; (case a => k_is))
    (case v_RING => refine' vS_mk ?a; (case a => k_is))
    (case v_ROW => refine' vS_mk ?a; (case a => k_is))
    (case v_SHAPES => refine' vT_mk ?a ?l ?z ?v; (case a => k_is); (case l => k_is); (case z => decide +kernel); (case v => exact (.cons ⟨_, rfl⟩ (.cons ⟨_, rfl⟩ .nil))))
    (case v_SUNK => refine' vS_mk ?a; (case a => k_is))
    (case n0_form => k_is)
    (case n0_lengths => k_is)
    (case n0_room => k_is)
    (case n4_known => k_is)
    (case n4_many => k_is)
    (case zlist => k_is)
    (case zsuper => k_is)
end T_L11b
