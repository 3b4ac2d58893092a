import PyProof.Rows.All
import Wide.All
import OpenK.AllK
import Wide.FinOn
import HandS.ForMost
import HandS.ForExc
import HandS.CallSlots
import HandS.HeadHook2
import HandS.IsInst
import HandS.TupAny
import HandS.Style
import HandS.SortInts
import HandS.Deep
import HandS.Zip
import HandS.Rev
import HandS.Conv
import HandS.ExcOwn
import HandS.Defaults
import HandS.SetFor
import HandS.TupSets
import HandS.SortRule
import KE.GoesEnum
import KE.GoesMore
import HandS.List
import HandS.HeadHook1
import HandS.OwnEq
import HandS.More
import PyProof.InstNe
import KE.KExcIs
import HandS.ExcInit
import HandS.ExcField
import HandS.ExcIs
import HandS.Ends
import HandS.Head0
import HandS.Head1
import HandS.Head2
import HandS.HeadEnd
import HandS.EndBits
import HandS.Strs
import KE.KDictPairs
import PyProof.TupleOfSeq
import HandS.ExcValue
import KE.KEqNest
import HandS.DictEq
import HandS.TupLe
import HandS.TupMul
import PySem.Challenge.RW_growalong_k00_errors_of_the_package
set_option Elab.async false
set_option linter.all false
set_option maxRecDepth 100000
set_option maxHeartbeats 4000000
/-! # A layer over HandS: each construct has a mirror, a plain Lean function over data; a walk shows that Python gives what the mirror gives. -/
namespace MX
open PySem PySem.Spec PyProof.Rows L2

inductive Ty where
  | non | bl | int | str | lst | tup | dct
  deriving DecidableEq
def Ty.name : Ty → String
  | .non => "NoneType" | .bl => "bool" | .int => "int" | .str => "str" | .lst => "list" | .tup => "tuple" | .dct => "dict"
/-- data: frozen objects that are never changed any more -/
inductive D where
  | non | bl (b : Bool) | int (i : Int) | str (x : Str)
  | lst (ds : List D) | tup (ds : List D) | tupx (ds : List D)
  | obj (c : Nat) (fs : List (Nat × D))
  | dk (kvs : List (Key × D)) | dt (kvs : List (List Key × D))
  | scr (ns : List Int) | ty (n : Ty) | cls (c : Nat)
  | xo (c : Nat) (fs : List (Nat × D))
/-- a tree that one holder owns, its leaves data -/
inductive T where
  | im (d : D) | lst (ts : List T) | obj (c : Nat) (fs : List (Nat × T))
  | dk (kvs : List (Key × T)) | dt (kvs : List (List Key × T)) | pr (d : D) (t : T)

abbrev Fp := Addr → Prop
def F0 : Fp := fun _ => False
abbrev Frg := PySem.W.Frag

/-- the classes and the attributes of the package, by number -/
def cTab : List String := ["Web", "RawWeb", "Record", "RawRecord", "Hall", "Program", "RawProgram", "Wires", "Reading", "Bench", "Desk", "Floor", "State", "Standing", "Search", "PlainStanding",
  "GrowError", "BadWeb", "BadRecord", "BadHall", "BadProgram", "BadStep", "BadChoice", "BadText", "NoName", "TooMany", "NoNumber", "NoPairs", "NoOrder", "NoWire", "NoMachine", "NoPut", "NoWriters", "OtherMachines", "NotMade",
  "NoDays", "NoWeb", "NotWhole", "NoSights", "NoPlaces", "NoStep", "NoRow", "IsDown", "IsUp", "NothingDone", "NoLine"]
def fTab : List String := ["machines", "wires", "writers", "diaries", "places", "links", "owners", "codes", "part", "at", "index", "number", "line", "name", "most", "letters", "goals", "done", "cell_numbers", "cells", "diary", "ever", "faulted",
  "first", "floor", "found", "kept", "labels", "lines", "lives", "numbers", "past", "program", "put_lives", "puts", "registers", "remembered", "row", "seen", "states", "stops", "told", "up", "ways", "web"]
def cname (c : Nat) : Str := Str.ofString (cTab.getD c "")
def fname (f : Nat) : Str := Str.ofString (fTab.getD f "")
abbrev cadr (K : Frg) (c : Nat) : Addr := He.ga K (cname c)
theorem fname_inj {i j : Nat} (hj : j < 45) (h : fname i = fname j) : i = j := by
  by_cases hi : i < 45
  · have q : ∀ i < 45, ∀ j < 45, fname i = fname j → i = j := by decide +kernel
    exact q i hi j hj h
  · have e : fname i = "" := by
      unfold fname
      rw [List.getD_eq_getElem?_getD, List.getElem?_eq_none (by show 45 ≤ i; omega)]
      rfl
    have q : ∀ j < 45, fname j ≠ "" := by decide +kernel
    exact absurd (h.symm.trans e) (q j hj)

/-- an error's object -/
def xob (a C : Addr) (d : Option Addr) : HO := .ext fun h => ∃ o vs, h.get? a = some o ∧ o.cls = .ref C ∧ o.dict = d ∧ o.data = .fields vs
inductive Rep (K : Frg) (G : Hp) : V → D → Prop
  | non : Rep K G .non .non
  | bl (b : Bool) : Rep K G (.bl b) (.bl b)
  | int (i : Int) : Rep K G (.int i) (.int i)
  | str (x : Str) : Rep K G (.str x) (.str x)
  | lst {a : Addr} {vs : List V} {ds : List D} : G a = some (.lst vs) → vs.length = ds.length → (∀ (i : Nat) (v : V) (d : D), vs[i]? = some v → ds[i]? = some d → Rep K G v d) → Rep K G (.ref a) (.lst ds)
  | tup {a : Addr} {vs : List V} {ds : List D} : G a = some (.tup vs) → vs.length = ds.length → (∀ (i : Nat) (v : V) (d : D), vs[i]? = some v → ds[i]? = some d → Rep K G v d) → Rep K G (.ref a) (.tup ds)
  | tupx {a : Addr} {o : Obj} {vs : List V} {ds : List D} : G a = some (.frz o (.tup vs)) → o.cls = .type "tuple" → o.dict = none → vs.length = ds.length → (∀ (i : Nat) (v : V) (d : D), vs[i]? = some v → ds[i]? = some d → Rep K G v d) → Rep K G (.ref a) (.tupx ds)
  | obj {a dx : Addr} {c : Nat} {fs : List (Str × V)} {gs : List (Nat × D)} : G a = some (.ins (cadr K c) dx fs) → fs.map (·.1) = gs.map (fun g => fname g.1) → (∀ (i : Nat) (p : Str × V) (q : Nat × D), fs[i]? = some p → gs[i]? = some q → Rep K G p.2 q.2) → Rep K G (.ref a) (.obj c gs)
  | dk {a : Addr} {kvs : List (Key × V)} {gs : List (Key × D)} : G a = some (.dK kvs) → kvs.map (·.1) = gs.map (·.1) → (∀ (i : Nat) (p : Key × V) (q : Key × D), kvs[i]? = some p → gs[i]? = some q → Rep K G p.2 q.2) → Rep K G (.ref a) (.dk gs)
  | dt {a : Addr} {kvs : List (List Key × V)} {gs : List (List Key × D)} : G a = some (.dT kvs) → kvs.map (·.1) = gs.map (·.1) → (∀ (i : Nat) (p : List Key × V) (q : List Key × D), kvs[i]? = some p → gs[i]? = some q → Rep K G p.2 q.2) → Rep K G (.ref a) (.dt gs)
  | scr {a : Addr} {ns : List Int} : SqL K G a (ns.map V.int) → Rep K G (.ref a) (.scr ns)
  | ty (n : Ty) : Rep K G (.ty n.name) (.ty n)
  | cls (c : Nat) : Rep K G (.ref (cadr K c)) (.cls c)
  | xo0 {a : Addr} {c : Nat} : G a = some (xob a (cadr K c) none) → Rep K G (.ref a) (.xo c [])
  | xo {a dd : Addr} {c : Nat} {fs : List (Str × V)} {gs : List (Nat × D)} : G a = some (xob a (cadr K c) (some dd)) → G dd = some (.xd fs) → fs.map (·.1) = gs.map (fun g => fname g.1) → (∀ (i : Nat) (p : Str × V) (q : Nat × D), fs[i]? = some p → gs[i]? = some q → Rep K G p.2 q.2) → Rep K G (.ref a) (.xo c gs)

def RepAll (K : Frg) (G : Hp) (vs : List V) (ds : List D) : Prop := vs.length = ds.length ∧ ∀ (i : Nat) (v : V) (d : D), vs[i]? = some v → ds[i]? = some d → Rep K G v d

theorem rd_mono {G G' : Hp} {a : Addr} {u : HO} (e : Same G G') (h : Rd G a u) : Rd G' a u := by
  rcases h with h | ⟨o, h⟩
  · exact Or.inl (e _ _ h)
  · exact Or.inr ⟨o, e _ _ h⟩
theorem sqL_mono {K : Frg} {G G' : Hp} {a : Addr} {xs : List V} (e : Same G G') (h : SqL K G a xs) : SqL K G' a xs := by
  rcases h with h | h
  · exact Or.inl (rd_mono e h)
  · exact Or.inr h
theorem sqT_mono {K : Frg} {G G' : Hp} {a : Addr} {xs : List V} (e : Same G G') (h : SqT K G a xs) : SqT K G' a xs := by
  rcases h with h | h
  · exact Or.inl (rd_mono e h)
  · exact Or.inr h
theorem Rep.mono {K : Frg} {G G' : Hp} (e : Same G G') {v : V} {d : D} (h : Rep K G v d) : Rep K G' v d := by
  induction h with
  | non => exact .non
  | bl b => exact .bl b
  | int i => exact .int i
  | str x => exact .str x
  | lst s l _ ih => exact .lst (e _ _ s) l ih
  | tup s l _ ih => exact .tup (e _ _ s) l ih
  | tupx s c z l _ ih => exact .tupx (e _ _ s) c z l ih
  | obj s l _ ih => exact .obj (e _ _ s) l ih
  | dk s l _ ih => exact .dk (e _ _ s) l ih
  | dt s l _ ih => exact .dt (e _ _ s) l ih
  | scr s => exact .scr (sqL_mono e s)
  | ty n => exact .ty n
  | cls c => exact .cls c
  | xo0 s => exact .xo0 (e _ _ s)
  | xo s t l _ ih => exact .xo (e _ _ s) (e _ _ t) l ih
theorem RepAll.mono {K : Frg} {G G' : Hp} (e : Same G G') {vs : List V} {ds : List D} (h : RepAll K G vs ds) : RepAll K G' vs ds :=
  ⟨h.1, fun i v d a b => (h.2 i v d a b).mono e⟩
theorem RepAll.nil {K : Frg} {G : Hp} : RepAll K G [] [] := ⟨rfl, fun i v d a _ => by simp at a⟩
theorem RepAll.cons {K : Frg} {G : Hp} {v : V} {d : D} {vs : List V} {ds : List D} (h : Rep K G v d) (t : RepAll K G vs ds) : RepAll K G (v :: vs) (d :: ds) := by
  refine ⟨by simp [t.1], fun i x y a b => ?_⟩
  cases i with
  | zero => simp at a b; subst a; subst b; exact h
  | succ i => exact t.2 i x y (by simpa using a) (by simpa using b)
theorem RepAll.head {K : Frg} {G : Hp} {v : V} {d : D} {vs : List V} {ds : List D} (h : RepAll K G (v :: vs) (d :: ds)) : Rep K G v d := h.2 0 v d rfl rfl
theorem RepAll.tail {K : Frg} {G : Hp} {v : V} {d : D} {vs : List V} {ds : List D} (h : RepAll K G (v :: vs) (d :: ds)) : RepAll K G vs ds :=
  ⟨by simpa using h.1, fun i x y a b => h.2 (i + 1) x y (by simpa using a) (by simpa using b)⟩
theorem RepAll.append {K : Frg} {G : Hp} {vs ws : List V} {ds es : List D} (h : RepAll K G vs ds) (t : RepAll K G ws es) : RepAll K G (vs ++ ws) (ds ++ es) := by
  induction vs generalizing ds with
  | nil => cases ds with
    | nil => exact t
    | cons d ds => exact absurd h.1 (by simp)
  | cons v vs ih => cases ds with
    | nil => exact absurd h.1 (by simp)
    | cons d ds => exact RepAll.cons h.head (ih h.tail)
theorem RepAll.drop {K : Frg} {G : Hp} {vs : List V} {ds : List D} (h : RepAll K G vs ds) (n : Nat) : RepAll K G (vs.drop n) (ds.drop n) :=
  ⟨by simp [h.1], fun i v d a b => h.2 (n + i) v d (by simpa using a) (by simpa using b)⟩
theorem RepAll.take {K : Frg} {G : Hp} {vs : List V} {ds : List D} (h : RepAll K G vs ds) (n : Nat) : RepAll K G (vs.take n) (ds.take n) := by
  refine ⟨by simp [h.1], fun i v d a b => ?_⟩
  rw [List.getElem?_take] at a b
  split at a
  · rename_i hi
    rw [if_pos hi] at b
    exact h.2 i v d a b
  · cases a
theorem RepAll.get {K : Frg} {G : Hp} {vs : List V} {ds : List D} (h : RepAll K G vs ds) {i : Nat} {d : D} (e : ds[i]? = some d) : ∃ v, vs[i]? = some v ∧ Rep K G v d := by
  have hi : i < vs.length := by rw [h.1]; exact (List.getElem?_eq_some_iff.mp e).1
  exact ⟨vs[i], List.getElem?_eq_getElem hi, h.2 i _ d (List.getElem?_eq_getElem hi) e⟩
theorem RepAll.reverse {K : Frg} {G : Hp} {vs : List V} {ds : List D} (h : RepAll K G vs ds) : RepAll K G vs.reverse ds.reverse := by
  induction vs generalizing ds with
  | nil => cases ds with
    | nil => exact .nil
    | cons d ds => exact absurd h.1 (by simp)
  | cons v vs ih => cases ds with
    | nil => exact absurd h.1 (by simp)
    | cons d ds => rw [List.reverse_cons, List.reverse_cons]; exact (ih h.tail).append (.cons h.head .nil)

/-! ### ownership -/
inductive Own (K : Frg) (G H : Hp) : V → T → Fp → Prop
  | im {v : V} {d : D} {F : Fp} : Rep K G v d → Own K G H v (.im d) F
  | lst {p : Addr} {vs : List V} {ts : List T} {F : Fp} (f : Nat → Fp) : H p = some (.lst vs) → G p = none → vs.length = ts.length → (∀ (i : Nat) (v : V) (t : T), vs[i]? = some v → ts[i]? = some t → Own K G H v t (f i)) →
      (∀ i j a, i ≠ j → f i a → ¬ f j a) → (∀ i a, f i a → F a ∧ a ≠ p) → F p → Own K G H (.ref p) (.lst ts) F
  | obj {p dx : Addr} {c : Nat} {fs : List (Str × V)} {ts : List (Nat × T)} {F : Fp} (f : Nat → Fp) : H p = some (.ins (cadr K c) dx fs) → G p = none → fs.map (·.1) = ts.map (fun g => fname g.1) → (∀ (i : Nat) (u : Str × V) (t : Nat × T), fs[i]? = some u → ts[i]? = some t → Own K G H u.2 t.2 (f i)) →
      (∀ i j a, i ≠ j → f i a → ¬ f j a) → (∀ i a, f i a → F a ∧ a ≠ p) → F p → Own K G H (.ref p) (.obj c ts) F
  | dk {p : Addr} {fs : List (Key × V)} {ts : List (Key × T)} {F : Fp} (f : Nat → Fp) : H p = some (.dK fs) → G p = none → fs.map (·.1) = ts.map (·.1) → (∀ (i : Nat) (u : Key × V) (t : Key × T), fs[i]? = some u → ts[i]? = some t → Own K G H u.2 t.2 (f i)) →
      (∀ i j a, i ≠ j → f i a → ¬ f j a) → (∀ i a, f i a → F a ∧ a ≠ p) → F p → Own K G H (.ref p) (.dk ts) F
  | dt {p : Addr} {fs : List (List Key × V)} {ts : List (List Key × T)} {F : Fp} (f : Nat → Fp) : H p = some (.dT fs) → G p = none → fs.map (·.1) = ts.map (·.1) → (∀ (i : Nat) (u : List Key × V) (t : List Key × T), fs[i]? = some u → ts[i]? = some t → Own K G H u.2 t.2 (f i)) →
      (∀ i j a, i ≠ j → f i a → ¬ f j a) → (∀ i a, f i a → F a ∧ a ≠ p) → F p → Own K G H (.ref p) (.dt ts) F
  | pr {p : Addr} {u v : V} {d : D} {t : T} {f F : Fp} : H p = some (.tup [u, v]) → G p = none → Rep K G u d → Own K G H v t f → (∀ a, f a → F a ∧ a ≠ p) → F p → Own K G H (.ref p) (.pr d t) F

/-- what is owned stays while its objects stay and are not frozen -/
theorem Own.stay {K : Frg} {G H G' H' : Hp} (gg : Same G G') {v : V} {t : T} {F : Fp} (h : Own K G H v t F) (hk : ∀ a o, F a → H a = some o → H' a = some o) (hg : ∀ a o, F a → H a = some o → G a = none → G' a = none) : Own K G' H' v t F := by
  induction h with
  | im r => exact .im (r.mono gg)
  | lst f e n l s dj sub fp ih => exact .lst f (hk _ _ fp e) (hg _ _ fp e n) l (fun i v t a b => ih i v t a b (fun c o fc => hk c o (sub i c fc).1) fun c o fc => hg c o (sub i c fc).1) dj sub fp
  | obj f e n l s dj sub fp ih => exact .obj f (hk _ _ fp e) (hg _ _ fp e n) l (fun i v t a b => ih i v t a b (fun c o fc => hk c o (sub i c fc).1) fun c o fc => hg c o (sub i c fc).1) dj sub fp
  | dk f e n l s dj sub fp ih => exact .dk f (hk _ _ fp e) (hg _ _ fp e n) l (fun i v t a b => ih i v t a b (fun c o fc => hk c o (sub i c fc).1) fun c o fc => hg c o (sub i c fc).1) dj sub fp
  | dt f e n l s dj sub fp ih => exact .dt f (hk _ _ fp e) (hg _ _ fp e n) l (fun i v t a b => ih i v t a b (fun c o fc => hk c o (sub i c fc).1) fun c o fc => hg c o (sub i c fc).1) dj sub fp
  | pr e n r o sub fp ih => exact .pr (hk _ _ fp e) (hg _ _ fp e n) (r.mono gg) (ih (fun c o fc => hk c o (sub c fc).1) fun c o fc => hg c o (sub c fc).1) sub fp
theorem Own.wide {K : Frg} {G H : Hp} {v : V} {t : T} {F F' : Fp} (h : Own K G H v t F) (hs : ∀ a, F a → F' a) : Own K G H v t F' := by
  cases h with
  | im r => exact .im r
  | lst f e n l s dj sub fp => exact .lst f e n l s dj (fun i a x => ⟨hs a (sub i a x).1, (sub i a x).2⟩) (hs _ fp)
  | obj f e n l s dj sub fp => exact .obj f e n l s dj (fun i a x => ⟨hs a (sub i a x).1, (sub i a x).2⟩) (hs _ fp)
  | dk f e n l s dj sub fp => exact .dk f e n l s dj (fun i a x => ⟨hs a (sub i a x).1, (sub i a x).2⟩) (hs _ fp)
  | dt f e n l s dj sub fp => exact .dt f e n l s dj (fun i a x => ⟨hs a (sub i a x).1, (sub i a x).2⟩) (hs _ fp)
  | pr e n r o sub fp => exact .pr e n r o (fun a x => ⟨hs a (sub a x).1, (sub a x).2⟩) (hs _ fp)

/-! ### a step: from (F, G, H) to (F', G', H') -/
structure Stp (F : Fp) (G H : Hp) (F' : Fp) (G' H' : Hp) : Prop where
  gg : Same G G'
  gh : Same G' H'
  fr : ∀ a o, H a = some o → ¬ F a → H' a = some o
  th : ∀ a, H' a = none → H a = none
  gn : ∀ a, G a = none → G' a ≠ none → H a = none ∨ F a
  fn : ∀ a, F' a → F a ∨ H a = none
theorem Stp.refl {F : Fp} {G H : Hp} (e : Same G H) : Stp F G H F G H := ⟨Same.refl G, e, fun _ _ h _ => h, fun _ h => h, fun a h h' => absurd h h', fun _ h => .inl h⟩
theorem Stp.trans {F F1 F2 : Fp} {G H G1 H1 G2 H2 : Hp} (a : Stp F G H F1 G1 H1) (b : Stp F1 G1 H1 F2 G2 H2) : Stp F G H F2 G2 H2 where
  gg := a.gg.trans b.gg
  gh := b.gh
  fr := fun x o h n => b.fr x o (a.fr x o h n) fun q => by
    rcases a.fn x q with z | z
    · exact n z
    · rw [h] at z; cases z
  th := fun x h => a.th x (b.th x h)
  gn := fun x h h' => by
    by_cases c : G1 x = none
    · rcases b.gn x c h' with z | z
      · exact .inl (a.th x z)
      · rcases a.fn x z with y | y
        · exact .inr y
        · exact .inl y
    · exact a.gn x h c
  fn := fun x h => by
    rcases b.fn x h with z | z
    · exact a.fn x z
    · exact .inr (a.th x z)
/-- a step that leaves what is owned alone, within a larger lot -/
theorem Stp.pure {F : Fp} {G H G' H' : Hp} (a : Stp F0 G H F0 G' H') : Stp F G H F G' H' :=
  ⟨a.gg, a.gh, fun x o h _ => a.fr x o h fun q => q, a.th, fun x h h' => by
    rcases a.gn x h h' with z | z
    · exact .inl z
    · exact z.elim, fun _ h => .inl h⟩
theorem Own.step {K : Frg} {F F' Fv : Fp} {G H G' H' : Hp} (s : Stp F G H F' G' H') {v : V} {t : T} (h : Own K G H v t Fv) (dj : ∀ a, Fv a → ¬ F a) : Own K G' H' v t Fv :=
  h.stay s.gg (fun a o f e => s.fr a o e (dj a f)) fun a o f e n => by
    cases c : G' a with
    | none => rfl
    | some u =>
      rcases s.gn a n (by rw [c]; exact fun z => nomatch z) with z | z
      · rw [e] at z; cases z
      · exact (dj a f z).elim

abbrev Env := List (Option T)
inductive Res (α : Type) where
  | ok (a : α) | exc (c : Nat) (fs : List (Nat × D))
abbrev M (α : Type) := Env → Option (Res α × Env)

/-- the names' values, disjoint in what they own -/
def Slots (K : Frg) (G H : Hp) (σ : L2.St) (ρ : Env) (F : Fp) : Prop := σ.length = ρ.length ∧ ∃ f : Nat → Fp,
  (∀ (i : Nat) (t : T), ρ[i]? = some (some t) → ∃ v, σ[i]? = some (some v) ∧ Own K G H v t (f i)) ∧ (∀ i j a, i ≠ j → f i a → ¬ f j a) ∧ ∀ i a, f i a → F a
def Owns (K : Frg) (G H : Hp) (vs : List V) (ts : List T) (F : Fp) : Prop := vs.length = ts.length ∧ ∃ f : Nat → Fp,
  (∀ (i : Nat) (v : V) (t : T), vs[i]? = some v → ts[i]? = some t → Own K G H v t (f i)) ∧ (∀ i j a, i ≠ j → f i a → ¬ f j a) ∧ ∀ i a, f i a → F a

theorem Slots.step {K : Frg} {F F1 F1' : Fp} {G H G' H' : Hp} {σ : L2.St} {ρ : Env} (h : Slots K G H σ ρ F) (s : Stp F1 G H F1' G' H') (dj : ∀ a, F a → ¬ F1 a) : Slots K G' H' σ ρ F := by
  obtain ⟨l, f, h1, h2, h3⟩ := h
  refine ⟨l, f, fun i t e => ?_, h2, h3⟩
  obtain ⟨v, e1, o⟩ := h1 i t e
  exact ⟨v, e1, o.step s fun a fa => dj a (h3 i a fa)⟩
theorem Slots.pure {K : Frg} {F : Fp} {G H G' H' : Hp} {σ : L2.St} {ρ : Env} (h : Slots K G H σ ρ F) (s : Stp F0 G H F0 G' H') : Slots K G' H' σ ρ F := h.step s fun _ _ z => z
theorem Slots.wide {K : Frg} {F F' : Fp} {G H : Hp} {σ : L2.St} {ρ : Env} (h : Slots K G H σ ρ F) (hs : ∀ a, F a → F' a) : Slots K G H σ ρ F' := by
  obtain ⟨l, f, h1, h2, h3⟩ := h
  exact ⟨l, f, h1, h2, fun i a x => hs a (h3 i a x)⟩
theorem Slots.at {K : Frg} {F : Fp} {G H : Hp} {σ : L2.St} {ρ : Env} (h : Slots K G H σ ρ F) {i : Nat} {d : D} (e : ρ[i]? = some (some (.im d))) : ∃ v, σ[i]? = some (some v) ∧ Rep K G v d := by
  obtain ⟨l, f, h1, h2, h3⟩ := h
  obtain ⟨v, e1, o⟩ := h1 i _ e
  cases o with
  | im r => exact ⟨v, e1, r⟩
/-- a name gets a value -/
theorem Slots.set {K : Frg} {F Fv : Fp} {G H : Hp} {σ : L2.St} {ρ : Env} (h : Slots K G H σ ρ F) {v : V} {t : T} (o : Own K G H v t Fv) (dj : ∀ a, Fv a → ¬ F a) (i : Nat) : Slots K G H (σ.set i (some v)) (ρ.set i (some t)) (fun a => F a ∨ Fv a) := by
  obtain ⟨l, f, h1, h2, h3⟩ := h
  refine ⟨by simpa using l, fun j => if j = i then Fv else f j, fun j u e => ?_, fun j k a n x y => ?_, fun j a x => ?_⟩
  · by_cases c : j = i
    · subst c
      by_cases hb : j < ρ.length
      · rw [List.getElem?_set_self hb] at e
        cases e
        dsimp only
        rw [if_pos rfl, List.getElem?_set_self (by omega)]
        exact ⟨v, rfl, o⟩
      · rw [List.getElem?_eq_none (by simpa using hb)] at e
        cases e
    · rw [List.getElem?_set_ne (fun q => c q.symm)] at e
      dsimp only
      rw [if_neg c, List.getElem?_set_ne (fun q => c q.symm)]
      exact h1 j u e
  · dsimp only at x y
    by_cases c : j = i
    · rw [if_pos c] at x
      by_cases c' : k = i
      · exact n (c.trans c'.symm)
      · rw [if_neg c'] at y
        exact dj a x (h3 k a y)
    · rw [if_neg c] at x
      by_cases c' : k = i
      · rw [if_pos c'] at y
        exact dj a y (h3 j a x)
      · rw [if_neg c'] at y
        exact h2 j k a n x y
  · dsimp only at x
    by_cases c : j = i
    · rw [if_pos c] at x; exact .inr x
    · rw [if_neg c] at x; exact .inl (h3 j a x)
theorem Slots.setIm {K : Frg} {F : Fp} {G H : Hp} {σ : L2.St} {ρ : Env} (h : Slots K G H σ ρ F) {v : V} {d : D} (r : Rep K G v d) (i : Nat) : Slots K G H (σ.set i (some v)) (ρ.set i (some (.im d))) F :=
  (h.set (Fv := F0) (.im r) (fun _ z => z.elim) i).wide fun a x => x.elim id fun z => z.elim
theorem Slots.drop {K : Frg} {F : Fp} {G H : Hp} {σ : L2.St} {ρ : Env} (h : Slots K G H σ ρ F) (i : Nat) (x : Option V) : Slots K G H (σ.set i x) (ρ.set i none) F := by
  obtain ⟨l, f, h1, h2, h3⟩ := h
  refine ⟨by simpa using l, f, fun j u e => ?_, h2, h3⟩
  by_cases c : j = i
  · subst c
    by_cases hb : j < ρ.length
    · rw [List.getElem?_set_self hb] at e; cases e
    · rw [List.getElem?_eq_none (by simpa using hb)] at e; cases e
  · rw [List.getElem?_set_ne (fun q => c q.symm)] at e ⊢
    exact h1 j u e

/-! ### what is wanted behind a mirror's answer -/
/-- the fields of an exception that flies -/
def ExcAt (K : Frg) (G H : Hp) (x : Option Addr) (fs : List (Nat × D)) : Prop := (fs = [] ∧ x = none) ∨ ∃ dd gs, x = some dd ∧ G dd = some (.xd gs) ∧ gs.map (·.1) = fs.map (fun g => fname g.1) ∧ ∀ (i : Nat) (p : Str × V) (q : Nat × D), gs[i]? = some p → fs[i]? = some q → Rep K G p.2 q.2
theorem ExcAt.mono {K : Frg} {G H G' H' : Hp} (e : Same G G') {x : Option Addr} {fs : List (Nat × D)} (h : ExcAt K G H x fs) : ExcAt K G' H' x fs := by
  rcases h with h | ⟨dd, gs, a1, a2, a3, a4⟩
  · exact .inl h
  · exact .inr ⟨dd, gs, a1, e _ _ a2, a3, fun i p q a b => (a4 i p q a b).mono e⟩
section
variable {α β γ δ : Type}
def Post (K : Frg) (W : WX) (σ : L2.St) (rel : Hp → Hp → β → α → Prop) (Φ : β → α → Env → Fp → Hp → Hp → Prop) (F : Fp) (G H : Hp) : Option (Res α × Env) → Prop
  | none => False
  | some (.ok a, ρ') => ∀ b F' G' H', Stp F G H F' G' H' → Slots K G' H' σ ρ' F' → rel G' H' b a → Φ b a ρ' F' G' H'
  | some (.exc C fs, ρ') => ∀ x F' G' H', Stp F G H F' G' H' → Slots K G' H' σ ρ' F' → ExcAt K G' H' x fs → W (.ref (cadr K C)) x σ H'
def Sim (K : Frg) (W : WX) (rel : Hp → Hp → β → α → Prop) (t : L2.St → Hp → (β → Hp → Prop) → Prop) (m : M α) : Prop :=
  ∀ (F : Fp) (G H : Hp) (σ : L2.St) (ρ : Env) (Q : β → Hp → Prop), Same G H → Slots K G H σ ρ F → Post K W σ rel (fun b _ _ _ _ H' => Q b H') F G H (m ρ) → t σ H Q
def bnd (x : Option (Res α × Env)) (f : α → Env → Option (Res γ × Env)) : Option (Res γ × Env) := match x with
  | none => none
  | some (.ok a, ρ) => f a ρ
  | some (.exc C fs, ρ) => some (.exc C fs, ρ)
def ret (a : α) (ρ : Env) : Option (Res α × Env) := some (.ok a, ρ)
def retO (a : Option α) (ρ : Env) : Option (Res α × Env) := match a with
  | some a => some (.ok a, ρ)
  | none => none
@[simp] theorem bnd_ok {a : α} {ρ : Env} {f : α → Env → Option (Res γ × Env)} : bnd (some (.ok a, ρ)) f = f a ρ := rfl
@[simp] theorem bnd_ret {a : α} {ρ : Env} {f : α → Env → Option (Res γ × Env)} : bnd (ret a ρ) f = f a ρ := rfl
theorem Post.mono {K : Frg} {W : WX} {σ : L2.St} {rel : Hp → Hp → β → α → Prop} {Φ : β → α → Env → Fp → Hp → Hp → Prop} {F F1 : Fp} {G H G1 H1 : Hp} {r : Option (Res α × Env)} (s : Stp F G H F1 G1 H1) (h : Post K W σ rel Φ F G H r) : Post K W σ rel Φ F1 G1 H1 r := by
  match r, h with
  | some (.ok a, ρ'), h => exact fun b F' G' H' st => h b F' G' H' (s.trans st)
  | some (.exc C fs, ρ'), h => exact fun x F' G' H' st => h x F' G' H' (s.trans st)
/-- one behind the other -/
theorem post_bnd {K : Frg} {W : WX} {σ : L2.St} {rel : Hp → Hp → β → α → Prop} {rel' : Hp → Hp → δ → γ → Prop} {Φ : δ → γ → Env → Fp → Hp → Hp → Prop} {F : Fp} {G H : Hp} {x : Option (Res α × Env)} {f : α → Env → Option (Res γ × Env)}
    (h : Post K W σ rel' Φ F G H (bnd x f)) : Post K W σ rel (fun _ a ρ' F' G' H' => Post K W σ rel' Φ F' G' H' (f a ρ')) F G H x := by
  match x, h with
  | some (.ok a, ρ'), h => exact fun b F' G' H' st _ _ => Post.mono st h
  | some (.exc C fs, ρ'), h => exact h
theorem Post.imp {K : Frg} {W : WX} {σ : L2.St} {rel : Hp → Hp → β → α → Prop} {Φ Ψ : β → α → Env → Fp → Hp → Hp → Prop} {F : Fp} {G H : Hp} {r : Option (Res α × Env)} (h : Post K W σ rel Φ F G H r)
    (k : ∀ b a ρ' F' G' H', Stp F G H F' G' H' → Slots K G' H' σ ρ' F' → rel G' H' b a → Φ b a ρ' F' G' H' → Ψ b a ρ' F' G' H') : Post K W σ rel Ψ F G H r := by
  match r, h with
  | some (.ok a, ρ'), h => exact fun b F' G' H' st sl r => k b a ρ' F' G' H' st sl r (h b F' G' H' st sl r)
  | some (.exc C fs, ρ'), h => exact h
/-- the composition rule: t runs, then what follows -/
theorem Sim.bind {K : Frg} {W : WX} {rel : Hp → Hp → β → α → Prop} {rel' : Hp → Hp → δ → γ → Prop} {t : L2.St → Hp → (β → Hp → Prop) → Prop} {m : M α} (ht : Sim K W rel t m) {F : Fp} {G H : Hp} {σ : L2.St} {ρ : Env} {Q : β → Hp → Prop} {Φ : δ → γ → Env → Fp → Hp → Hp → Prop} {f : α → Env → Option (Res γ × Env)}
    (e : Same G H) (sl : Slots K G H σ ρ F) (h : Post K W σ rel' Φ F G H (bnd (m ρ) f))
    (k : ∀ b a ρ' F' G' H', Same G' H' → Stp F G H F' G' H' → Slots K G' H' σ ρ' F' → rel G' H' b a → Post K W σ rel' Φ F' G' H' (f a ρ') → Q b H') : t σ H Q :=
  ht F G H σ ρ Q e sl (Post.imp (post_bnd h) fun b a ρ' F' G' H' st sl r p => k b a ρ' F' G' H' st.gh st sl r p)
theorem Post.retO {K : Frg} {W : WX} {σ : L2.St} {rel : Hp → Hp → β → α → Prop} {Φ : β → α → Env → Fp → Hp → Hp → Prop} {F : Fp} {G H : Hp} {r : Option α} {ρ : Env} (h : Post K W σ rel Φ F G H (retO r ρ)) : ∃ a, r = some a ∧ Post K W σ rel Φ F G H (ret a ρ) := by
  cases r with
  | none => exact h.elim
  | some a => exact ⟨a, rfl, h⟩
theorem Post.here {K : Frg} {W : WX} {σ : L2.St} {rel : Hp → Hp → β → α → Prop} {Φ : β → α → Env → Fp → Hp → Hp → Prop} {F : Fp} {G H : Hp} {a : α} {ρ : Env} (h : Post K W σ rel Φ F G H (ret a ρ)) {b : β} (e : Same G H) (sl : Slots K G H σ ρ F) (r : rel G H b a) : Φ b a ρ F G H :=
  h b F G H (.refl e) sl r
end
def relD (K : Frg) : Hp → Hp → V → D → Prop := fun G _ v d => Rep K G v d
def relA (K : Frg) (n : Nat) : Hp → Hp → List V → List D → Prop := fun G _ v d => RepAll K G v d ∧ v.length = n
def relB : Hp → Hp → Bool → Bool → Prop := fun _ _ a b => a = b
/-- what may be read as a row of things -/
def relS (K : Frg) : Hp → Hp → V → List D → Prop := fun G H v ds => ∃ a vs, v = .ref a ∧ (SqL K H a vs ∨ SqT K H a vs) ∧ RepAll K G vs ds

/-- an expression and its mirror -/
structure Ex (X : Cx) (W : WX) (e : Expr) (t : TE) (m : M D) : Prop where
  pe : PE X e t
  sim : Sim X.K W (relD X.K) t m
structure Te (X : Cx) (W : WX) (e : Expr) (t : TT) (m : M Bool) : Prop where
  pt : PT X e t
  sim : Sim X.K W relB t m
structure Se (X : Cx) (W : WX) (e : Expr) (t : TE) (m : M (List D)) : Prop where
  pe : PE X e t
  sim : Sim X.K W (relS X.K) t m
structure As (X : Cx) (W : WX) (es : List Expr) (t : TA) (m : M (List D)) : Prop where
  pa : PA X es t
  sim : Sim X.K W (relA X.K es.length) t m
end MX

namespace MX
open PySem PySem.Spec PyProof.Rows L2

theorem none_of {G H : Hp} {p : Addr} (e : Same G H) (n : H p = none) : G p = none := by
  cases q : G p with
  | none => rfl
  | some u => rw [e _ _ q] at n; cases n
theorem same_upd {G : Hp} {p : Addr} {o : HO} (n : G p = none) : Same G (upd G p o) := fun b u h => by
  rw [upd_ne (ne_of_none h n)]; exact h
/-- a new frozen object -/
theorem Stp.new {G H : Hp} {p : Addr} (e : Same G H) (n : H p = none) (o : HO) : Stp F0 G H F0 (upd G p o) (upd H p o) where
  gg := same_upd (none_of e n)
  gh := fun b u h => by
    by_cases c : b = p
    · subst c; rw [upd_same] at h; cases h; exact upd_same
    · rw [upd_ne c] at h ⊢; exact e _ _ h
  fr := fun a u h _ => by rw [upd_ne (ne_of_none h n)]; exact h
  th := fun a h => by
    by_cases c : a = p
    · subst c; exact n
    · rw [upd_ne c] at h; exact h
  gn := fun a h h' => by
    by_cases c : a = p
    · subst c; exact .inl n
    · rw [upd_ne c] at h'; exact absurd h h'
  fn := fun a h => h.elim
/-- a new object that is not frozen, nor owned by a name -/
theorem Stp.heap {G H : Hp} {p : Addr} (e : Same G H) (n : H p = none) (o : HO) : Stp F0 G H F0 G (upd H p o) where
  gg := Same.refl G
  gh := fun b u h => by rw [upd_ne (ne_of_none (e _ _ h) n)]; exact e _ _ h
  fr := fun a u h _ => by rw [upd_ne (ne_of_none h n)]; exact h
  th := fun a h => by
    by_cases c : a = p
    · subst c; exact n
    · rw [upd_ne c] at h; exact h
  gn := fun a h h' => absurd h h'
  fn := fun a h => h.elim
theorem Rep.newTup {K : Frg} {G : Hp} {p : Addr} {vs : List V} {ds : List D} (n : G p = none) (r : RepAll K G vs ds) : Rep K (upd G p (.tup vs)) (.ref p) (.tup ds) :=
  .tup upd_same r.1 fun i v d a b => (r.2 i v d a b).mono (same_upd n)
theorem Rep.newLst {K : Frg} {G : Hp} {p : Addr} {vs : List V} {ds : List D} (n : G p = none) (r : RepAll K G vs ds) : Rep K (upd G p (.lst vs)) (.ref p) (.lst ds) :=
  .lst upd_same r.1 fun i v d a b => (r.2 i v d a b).mono (same_upd n)
theorem tup_of {K : Frg} {G : Hp} {v : V} {ds : List D} (h : Rep K G v (.tup ds)) : ∃ a vs, v = .ref a ∧ G a = some (.tup vs) ∧ RepAll K G vs ds := by
  cases h with
  | tup s l r => exact ⟨_, _, rfl, s, l, r⟩
theorem repAll_of_tup {K : Frg} {G : Hp} {v : V} {ds : List D} (h : Rep K G v (.tup ds)) : ∃ a vs, v = .ref a ∧ SqT K G a vs ∧ RepAll K G vs ds := by
  obtain ⟨a, vs, e, s, r⟩ := tup_of h
  exact ⟨a, vs, e, SqT.of s, r⟩
theorem repAll_of_lst {K : Frg} {G : Hp} {v : V} {ds : List D} (h : Rep K G v (.lst ds)) : ∃ a vs, v = .ref a ∧ G a = some (.lst vs) ∧ RepAll K G vs ds := by
  cases h with
  | lst s l r => exact ⟨_, _, rfl, s, l, r⟩
theorem repAll_ints {K : Frg} {G : Hp} {ns : List Int} : ∀ {vs : List V}, RepAll K G vs (ns.map D.int) → vs = ns.map V.int := by
  induction ns with
  | nil => intro vs h; cases vs with
    | nil => rfl
    | cons v vs => exact absurd h.1 (by simp)
  | cons n ns ih => intro vs h; cases vs with
    | nil => exact absurd h.1 (by simp)
    | cons v vs =>
      have h1 := RepAll.head (show RepAll K G (v :: vs) (D.int n :: ns.map D.int) from h)
      cases h1
      rw [List.map_cons, ← ih (RepAll.tail (show RepAll K G (V.int n :: vs) (D.int n :: ns.map D.int) from h))]
theorem ints_repAll {K : Frg} {G : Hp} (ns : List Int) : RepAll K G (ns.map V.int) (ns.map D.int) := by
  induction ns with
  | nil => exact .nil
  | cons n ns ih => exact .cons (.int n) ih
theorem repAll_bls {K : Frg} {G : Hp} {ns : List Bool} : ∀ {vs : List V}, RepAll K G vs (ns.map D.bl) → vs = ns.map V.bl := by
  induction ns with
  | nil => intro vs h; cases vs with
    | nil => rfl
    | cons v vs => exact absurd h.1 (by simp)
  | cons n ns ih => intro vs h; cases vs with
    | nil => exact absurd h.1 (by simp)
    | cons v vs =>
      have h1 := RepAll.head (show RepAll K G (v :: vs) (D.bl n :: ns.map D.bl) from h)
      cases h1
      rw [List.map_cons, ← ih (RepAll.tail (show RepAll K G (V.bl n :: vs) (D.bl n :: ns.map D.bl) from h))]
/-- ints of data -/
def intsD : List D → Option (List Int)
  | [] => some []
  | .int i :: r => (intsD r).map (i :: ·)
  | _ :: _ => none
def blsD : List D → Option (List Bool)
  | [] => some []
  | .bl i :: r => (blsD r).map (i :: ·)
  | _ :: _ => none
theorem intsD_eq : ∀ {ds : List D} {ns : List Int}, intsD ds = some ns → ds = ns.map D.int
  | [], ns, h => by cases h; rfl
  | d :: ds, ns, h => by
    cases d with
    | int i =>
      cases e : intsD ds with
      | none => rw [show intsD (.int i :: ds) = (intsD ds).map (i :: ·) from rfl, e] at h; cases h
      | some ms =>
        rw [show intsD (.int i :: ds) = (intsD ds).map (i :: ·) from rfl, e] at h
        cases h
        rw [intsD_eq e]; rfl
    | _ => cases h
theorem blsD_eq : ∀ {ds : List D} {ns : List Bool}, blsD ds = some ns → ds = ns.map D.bl
  | [], ns, h => by cases h; rfl
  | d :: ds, ns, h => by
    cases d with
    | bl i =>
      cases e : blsD ds with
      | none => rw [show blsD (.bl i :: ds) = (blsD ds).map (i :: ·) from rfl, e] at h; cases h
      | some ms =>
        rw [show blsD (.bl i :: ds) = (blsD ds).map (i :: ·) from rfl, e] at h
        cases h
        rw [blsD_eq e]; rfl
    | _ => cases h
@[simp] theorem intsD_map (ns : List Int) : intsD (ns.map D.int) = some ns := by
  induction ns with
  | nil => rfl
  | cons n ns ih => show (intsD (ns.map D.int)).map (n :: ·) = _; rw [ih]; rfl
@[simp] theorem blsD_map (ns : List Bool) : blsD (ns.map D.bl) = some ns := by
  induction ns with
  | nil => rfl
  | cons n ns ih => show (blsD (ns.map D.bl)).map (n :: ·) = _; rw [ih]; rfl

/-! ### names, constants -/
def mV (i : Nat) : M D := fun ρ => match ρ[i]? with
  | some (some (.im d)) => ret d ρ
  | _ => none
def mC (d : D) : M D := fun ρ => ret d ρ
section
variable {X : Cx} {W : WX} {e a b c : Expr} {es : List Expr} {ta tb tc te : TE} {t : TA} {ma mb mc me : M D} {ms : M (List D)} {pos : Pos}
theorem Ex.var (i : Nat) {x : Str} {pos : Pos} (hN : X.N[i]? = some x := by rfl) (hv : Vis X.env.scope x := by first | exact Or.inl rfl | exact Or.inr (Or.inl rfl) | exact Or.inr (Or.inr rfl)) (hd : (x == ("__debug__" : Str)) = false := by decide) (hcd : (x == ("__classdict__" : Str)) = false := by decide) :
    Ex X W (.Name x pos) (tVar i) (mV i) := by
  refine ⟨pe_var hN hv hd hcd, fun F G H σ ρ Q e sl h => ?_⟩
  unfold mV at h
  split at h
  · rename_i d q
    obtain ⟨v, e1, r⟩ := sl.at q
    exact ⟨v, e1, h.here e sl r⟩
  · exact h.elim
theorem Ex.cst {v : V} {d : D} (pe : PE X e (tC v)) (r : ∀ G, Rep X.K G v d) : Ex X W e (tC v) (mC d) :=
  ⟨pe, fun F G H σ ρ Q e sl h => h.here e sl (r G)⟩
theorem Ex.int {i : Int} {j} : Ex X W (.Constant (.int i) j pos) (tC (.int i)) (mC (.int i)) := Ex.cst pe_int fun _ => .int i
theorem Ex.bl {i : Bool} {j} : Ex X W (.Constant (.bool i) j pos) (tC (.bl i)) (mC (.bl i)) := Ex.cst pe_bl fun _ => .bl i
theorem Ex.non {j} : Ex X W (.Constant .none j pos) (tC .non) (mC .non) := Ex.cst pe_non fun _ => .non
theorem Ex.str {x : Str} {j} : Ex X W (.Constant (.str x) j pos) (tC (.str x)) (mC (.str x)) := Ex.cst pe_str fun _ => .str x
/-- a module's int -/
theorem Ex.globI {x : Str} {i : Int} (hm : ∃ t, X.mg x = some (.int i t)) (hg : Gl X x := by rfl) (hd : (x == ("__debug__" : Str)) = false := by decide) : Ex X W (.Name x pos) (tC (.int i)) (mC (.int i)) := by
  obtain ⟨t, hm⟩ := hm
  exact Ex.cst (pe_glob hg hm ⟨_, rfl⟩ hd) fun _ => .int i
/-! ### two-place operations by their data -/
def mBin (f : D → D → Option D) (ma mb : M D) : M D := fun ρ => bnd (ma ρ) fun a ρ1 => bnd (mb ρ1) fun b ρ2 => retO (f a b) ρ2
def OpD (K : Frg) (r : R2) (f : D → D → Option D) : Prop := ∀ (G H : Hp) (a b d : D) (x y : V) (Q : VK), Same G H → Rep K G x a → Rep K G y b → f a b = some d → (∀ v G' H', Stp F0 G H F0 G' H' → Rep K G' v d → Q v H') → r x y H Q
theorem sim_bin {K : Frg} {r : R2} {f : D → D → Option D} (ho : OpD K r f) (ha : Sim K W (relD K) ta ma) (hb : Sim K W (relD K) tb mb) : Sim K W (relD K) (tOp r ta tb) (mBin f ma mb) := by
  intro F G H σ ρ Q e sl h
  refine ha.bind e sl h fun x a ρ1 F1 G1 H1 e1 s1 sl1 ra h1 => ?_
  refine hb.bind e1 sl1 h1 fun y b ρ2 F2 G2 H2 e2 s2 sl2 rb h2 => ?_
  obtain ⟨d, hd, h2⟩ := h2.retO
  exact ho G2 H2 a b d x y Q e2 (Rep.mono s2.gg ra) rb hd fun v G' H' st r => h2 v F2 G' H' st.pure (sl2.pure st) r
theorem Ex.bin {op : Operator} {r : R2} {f : D → D → Option D} (ho : OpR X (binaryOp op) r) (od : OpD X.K r f) (ha : Ex X W a ta ma) (hb : Ex X W b tb mb) : Ex X W (.BinOp a op b pos) (tOp r ta tb) (mBin f ma mb) :=
  ⟨pe_op ho ha.pe hb.pe, sim_bin od ha.sim hb.sim⟩
theorem Ex.cmp {op : CmpOp} {r : R2} {f : D → D → Option D} (ho : OpR X (compareOp op) r) (od : OpD X.K r f) (ha : Ex X W a ta ma) (hb : Ex X W b tb mb) (hm : behindInMarks op b = false := by first | exact nomark _ | rfl) : Ex X W (.Compare a [op] [b] pos) (tOp r ta tb) (mBin f ma mb) :=
  ⟨pe_cmpR ho ha.pe hb.pe hm, sim_bin od ha.sim hb.sim⟩
theorem Ex.ix {r : R2} {f : D → D → Option D} (ho : IxR X r) (od : OpD X.K r f) (ha : Ex X W a ta ma) (hb : Ex X W b tb mb) (hs : PlainIx b := by exact fun _ _ => rfl) : Ex X W (.Subscript a b pos) (tOp r ta tb) (mBin f ma mb) :=
  ⟨pe_ix ho ha.pe hb.pe hs, sim_bin od ha.sim hb.sim⟩
end
/-! ints -/
theorem od_I0 {K : Frg} {g : Int → Int → D} {gv : Int → Int → V} {f : D → D → Option D} (h1 : ∀ G i j, Rep K G (gv i j) (g i j)) (h2 : ∀ a b d, f a b = some d → ∃ i j, a = .int i ∧ b = .int j ∧ d = g i j) : OpD K (rI0 gv) f := by
  intro G H a b d x y Q e ra rb hf k
  obtain ⟨i, j, rfl, rfl, rfl⟩ := h2 a b d hf
  cases ra
  cases rb
  exact ⟨i, j, rfl, rfl, k _ G H (.refl e) (h1 G i j)⟩
theorem od_I {K : Frg} {C : Int → Int → Prop} {g : Int → Int → D} {gv : Int → Int → V} {f : D → D → Option D} (h1 : ∀ G i j, Rep K G (gv i j) (g i j)) (h2 : ∀ a b d, f a b = some d → ∃ i j, a = .int i ∧ b = .int j ∧ C i j ∧ d = g i j) : OpD K (rI C gv) f := by
  intro G H a b d x y Q e ra rb hf k
  obtain ⟨i, j, rfl, rfl, hc, rfl⟩ := h2 a b d hf
  cases ra
  cases rb
  exact ⟨i, j, rfl, rfl, hc, k _ G H (.refl e) (h1 G i j)⟩
def iBin (g : Int → Int → D) : D → D → Option D
  | .int i, .int j => some (g i j)
  | _, _ => none
theorem iBin_inv {g : Int → Int → D} {a b d : D} (h : iBin g a b = some d) : ∃ i j, a = .int i ∧ b = .int j ∧ d = g i j := by
  unfold iBin at h
  split at h
  · cases h; exact ⟨_, _, rfl, rfl, rfl⟩
  · cases h
def iBinC (c : Int → Int → Bool) (g : Int → Int → D) : D → D → Option D
  | .int i, .int j => if c i j = true then some (g i j) else none
  | _, _ => none
theorem iBinC_inv {c : Int → Int → Bool} {g : Int → Int → D} {a b d : D} (h : iBinC c g a b = some d) : ∃ i j, a = .int i ∧ b = .int j ∧ c i j = true ∧ d = g i j := by
  unfold iBinC at h
  split at h
  · split at h
    · rename_i q
      cases h; exact ⟨_, _, rfl, rfl, q, rfl⟩
    · cases h
  · cases h
/-- + : ints, tuples -/
def addD : D → D → Option D
  | .int i, .int j => some (.int (i + j))
  | .tup a, .tup b => if a.length + b.length ≤ 1000000 then some (.tup (a ++ b)) else none
  | .lst a, .lst b => if a.length + b.length ≤ 1000000 then some (.lst (a ++ b)) else none
  | .str a, .str b => if a.length + b.length ≤ 1000000 then some (.str (a ++ b)) else none
  | _, _ => none
theorem line_big {n : Nat} (h : n ≤ 1000000) : n ≤ sizeLine := by rw [sizeLine_eq]; omega
theorem line_lt {n : Nat} (h : n < 1000000) : n < sizeLine := by rw [sizeLine_eq]; omega
section
variable {X : Cx}
def rStr : R2 := fun x y H Q => ∃ i j, x = .str i ∧ y = .str j ∧ i.length + j.length ≤ sizeLine ∧ Q (.str (i ++ j)) H
def rAddAll (K : Frg) : R2 := fun x y H Q => ((rI0 fun i j => .int (i + j)) x y H Q ∨ rCatA K x y H Q) ∨ (rCat x y H Q ∨ rStr x y H Q)
theorem op_addAll : OpR X (binaryOp .Add) (rAddAll X.K) := OpR.or (OpR.or op_add op_catA) (OpR.or op_cat op_add_str)
theorem od_add {K : Frg} : OpD K (rAddAll K) addD := by
  intro G H a b d x y Q e ra rb hf k
  unfold addD at hf
  split at hf
  · cases hf
    cases ra
    cases rb
    exact .inl (.inl ⟨_, _, rfl, rfl, k _ G H (.refl e) (.int _)⟩)
  · rename_i as bs
    split at hf
    · rename_i hl
      cases hf
      obtain ⟨p, vs, rfl, h1, r1⟩ := repAll_of_tup ra
      obtain ⟨q, ws, rfl, h2, r2⟩ := repAll_of_tup rb
      refine .inl (.inr ⟨p, q, vs, ws, rfl, rfl, sqT_mono e h1, sqT_mono e h2, line_big (by rw [r1.1, r2.1]; exact hl), fun z => ?_, fun z z' => ?_, fun z z' l nl => ?_⟩)
      · subst z
        have : as = [] := List.length_eq_zero_iff.mp (by simpa using r1.1.symm)
        subst this
        exact k _ G H (.refl e) rb
      · subst z'
        have : bs = [] := List.length_eq_zero_iff.mp (by simpa using r2.1.symm)
        subst this
        rw [List.append_nil] at k
        exact k _ G H (.refl e) ra
      · exact k _ _ _ (.new e nl _) (.newTup (none_of e nl) (r1.append r2))
    · cases hf
  · rename_i as bs
    split at hf
    · rename_i hl
      cases hf
      obtain ⟨p, vs, rfl, h1, r1⟩ := repAll_of_lst ra
      obtain ⟨q, ws, rfl, h2, r2⟩ := repAll_of_lst rb
      refine .inr (.inl ⟨p, q, vs, ws, rfl, rfl, e _ _ h1, e _ _ h2, line_big (by rw [r1.1, r2.1]; exact hl), fun l nl => ?_⟩)
      exact k _ _ _ (.new e nl _) (.newLst (none_of e nl) (r1.append r2))
    · cases hf
  · split at hf
    · rename_i hl
      cases hf
      cases ra
      cases rb
      exact .inr (.inr ⟨_, _, rfl, rfl, line_big hl, k _ G H (.refl e) (.str _)⟩)
    · cases hf
  · cases hf
end
def subD : D → D → Option D := iBin fun i j => .int (i - j)
theorem od_sub {K : Frg} : OpD K (rI0 fun i j => .int (i - j)) subD := od_I0 (g := fun i j => .int (i - j)) (fun _ _ _ => .int _) fun _ _ _ h => iBin_inv h
def mulOk (i j : Int) : Bool := (decide (-(2 ^ 64) < i) && decide (i < 2 ^ 64)) || (decide (-(2 ^ 64) < j) && decide (j < 2 ^ 64))
def mulD : D → D → Option D := iBinC mulOk fun i j => .int (i * j)
theorem od_mul {K : Frg} : OpD K (rI CMul fun i j => .int (i * j)) mulD := od_I (g := fun i j => .int (i * j)) (fun _ _ _ => .int _) fun a b d h => by
  obtain ⟨i, j, e1, e2, c, e3⟩ := iBinC_inv h
  refine ⟨i, j, e1, e2, ?_, e3⟩
  simpa [mulOk, CMul] using c
def modD : D → D → Option D := iBinC (fun _ j => decide (0 < j)) fun i j => .int (i % j)
theorem od_mod {K : Frg} : OpD K (rI (fun _ j => 0 < j) fun i j => .int (i % j)) modD := od_I (g := fun i j => .int (i % j)) (fun _ _ _ => .int _) fun a b d h => by
  obtain ⟨i, j, e1, e2, c, e3⟩ := iBinC_inv h
  exact ⟨i, j, e1, e2, of_decide_eq_true c, e3⟩
def divD : D → D → Option D := iBinC (fun _ j => decide (0 < j) && decide (j < 1073741824)) fun i j => .int (i / j)
theorem od_div {K : Frg} : OpD K (rI CDiv fun i j => .int (i / j)) divD := od_I (g := fun i j => .int (i / j)) (fun _ _ _ => .int _) fun a b d h => by
  obtain ⟨i, j, e1, e2, c, e3⟩ := iBinC_inv h
  exact ⟨i, j, e1, e2, by simpa [CDiv] using c, e3⟩
def powD : D → D → Option D := iBinC (fun i j => decide (0 ≤ j) && decide (j ≤ 1000) && decide (i.natAbs < 2 ^ 64)) fun i j => .int (i ^ j.toNat)
theorem od_pow {K : Frg} : OpD K (rI CPow fun i j => .int (i ^ j.toNat)) powD := od_I (g := fun i j => .int (i ^ j.toNat)) (fun _ _ _ => .int _) fun a b d h => by
  obtain ⟨i, j, e1, e2, c, e3⟩ := iBinC_inv h
  refine ⟨i, j, e1, e2, ?_, e3⟩
  have c' : (0 ≤ j ∧ j ≤ 1000) ∧ i.natAbs < 2 ^ 64 := by simpa using c
  exact ⟨c'.1.1, by omega, c'.2⟩
/-! comparisons of ints -/
def ltD : D → D → Option D := iBin fun i j => .bl (decide (i < j))
def leD : D → D → Option D := iBin fun i j => .bl (decide (i ≤ j))
def gtD : D → D → Option D := iBin fun i j => .bl (decide (j < i))
def geD : D → D → Option D := iBin fun i j => .bl (decide (j ≤ i))
theorem od_lt {K : Frg} : OpD K (rI0 fun i j => .bl (decide (i < j))) ltD := od_I0 (g := fun i j => .bl (decide (i < j))) (fun _ _ _ => .bl _) fun _ _ _ h => iBin_inv h
theorem od_le {K : Frg} : OpD K (rI0 fun i j => .bl (decide (i ≤ j))) leD := od_I0 (g := fun i j => .bl (decide (i ≤ j))) (fun _ _ _ => .bl _) fun _ _ _ h => iBin_inv h
theorem od_gt {K : Frg} : OpD K (rI0 fun i j => .bl (decide (j < i))) gtD := od_I0 (g := fun i j => .bl (decide (j < i))) (fun _ _ _ => .bl _) fun _ _ _ h => iBin_inv h
theorem od_ge {K : Frg} : OpD K (rI0 fun i j => .bl (decide (j ≤ i))) geD := od_I0 (g := fun i j => .bl (decide (j ≤ i))) (fun _ _ _ => .bl _) fun _ _ _ h => iBin_inv h
end MX

namespace MX
open PySem PySem.Spec PyProof.Rows L2

/-! ### data as the library's data, for == and in -/
mutual
def pyD : D → Option PyData
  | .non => some .none
  | .bl b => some (.bool b)
  | .int i => some (.int i)
  | .str x => some (.str x)
  | .lst ds => (pyAll ds).map .list
  | .tup ds => (pyAll ds).map .tuple
  | .tupx ds => (pyAll ds).map .tuple
  | .obj _ _ => none
  | .dk _ => none
  | .dt _ => none
  | .scr ns => some (.list (ns.map .int))
  | .ty _ => none
  | .cls _ => none
  | .xo _ _ => none
def pyAll : List D → Option (List PyData)
  | [] => some []
  | d :: ds => match pyD d, pyAll ds with
    | some p, some ps => some (p :: ps)
    | _, _ => none
end
theorem dpAll_ints {K : Frg} {H : Hp} : ∀ ns : List Int, DpAll K H (ns.map V.int) (ns.map PyData.int)
  | [] => .nil
  | n :: ns => .cons (.int n) (dpAll_ints ns)
mutual
theorem dp_of {K : Frg} {G H : Hp} (e : Same G H) : ∀ (d : D) (p : PyData) (v : V), pyD d = some p → Rep K G v d → Dp K H v p
  | .non, p, v, h, r => by unfold pyD at h; cases h; cases r; exact .non
  | .bl b, p, v, h, r => by unfold pyD at h; cases h; cases r; exact .bl b
  | .int i, p, v, h, r => by unfold pyD at h; cases h; cases r; exact .int i
  | .str x, p, v, h, r => by unfold pyD at h; cases h; cases r; exact .str x
  | .lst ds, p, v, h, r => by
    unfold pyD at h
    cases q : pyAll ds with
    | none => rw [q] at h; cases h
    | some ps =>
      rw [q] at h; cases h
      obtain ⟨a, vs, rfl, s, r⟩ := repAll_of_lst r
      exact .lst (SqL.of (e _ _ s)) (dpAll_of e ds ps vs q r)
  | .tup ds, p, v, h, r => by
    unfold pyD at h
    cases q : pyAll ds with
    | none => rw [q] at h; cases h
    | some ps =>
      rw [q] at h; cases h
      obtain ⟨a, vs, rfl, s, r⟩ := repAll_of_tup r
      exact .tup (sqT_mono e s) (dpAll_of e ds ps vs q r)
  | .tupx ds, p, v, h, r => by
    unfold pyD at h
    cases q : pyAll ds with
    | none => rw [q] at h; cases h
    | some ps =>
      rw [q] at h; cases h
      cases r with
      | tupx s c z l rr => exact .tup (.inl (rd_mono e (.inr ⟨_, s⟩))) (dpAll_of e ds ps _ q ⟨l, rr⟩)
  | .obj _ _, p, v, h, r => by unfold pyD at h; cases h
  | .dk _, p, v, h, r => by unfold pyD at h; cases h
  | .dt _, p, v, h, r => by unfold pyD at h; cases h
  | .scr ns, p, v, h, r => by
    unfold pyD at h; cases h
    cases r with
    | scr s => exact .lst (sqL_mono e s) (dpAll_ints ns)
  | .ty _, p, v, h, r => by unfold pyD at h; cases h
  | .cls _, p, v, h, r => by unfold pyD at h; cases h
  | .xo _ _, p, v, h, r => by unfold pyD at h; cases h
theorem dpAll_of {K : Frg} {G H : Hp} (e : Same G H) : ∀ (ds : List D) (ps : List PyData) (vs : List V), pyAll ds = some ps → RepAll K G vs ds → DpAll K H vs ps
  | [], ps, vs, h, r => by
    unfold pyAll at h; cases h
    have : vs = [] := List.length_eq_zero_iff.mp (by simpa using r.1)
    subst this
    exact .nil
  | d :: ds, ps, vs, h, r => by
    unfold pyAll at h
    cases q1 : pyD d with
    | none => rw [q1] at h; cases h
    | some p =>
      cases q2 : pyAll ds with
      | none => rw [q1, q2] at h; cases h
      | some qs =>
        rw [q1, q2] at h; cases h
        cases vs with
        | nil => exact absurd r.1 (by simp)
        | cons v vs => exact .cons (dp_of e d p v q1 r.head) (dpAll_of e ds qs vs q2 r.tail)
end
/-! ### == -/
def eqB (a b : D) : Option Bool := match pyD a, pyD b with
  | some p, some q => if (SeqAt.shaped p && SeqAt.shaped q) = true then some (PyData.eqv p q) else none
  | _, _ => none
def eqD (a b : D) : Option D := (eqB a b).map .bl
def neD (a b : D) : Option D := (eqB a b).map fun c => .bl (!c)
theorem eqB_inv {a b : D} {c : Bool} (h : eqB a b = some c) : ∃ p q, pyD a = some p ∧ pyD b = some q ∧ SeqAt.shaped p = true ∧ SeqAt.shaped q = true ∧ c = PyData.eqv p q := by
  unfold eqB at h
  split at h
  · rename_i p q e1 e2
    split at h
    · rename_i z
      cases h
      obtain ⟨z1, z2⟩ := Bool.and_eq_true_iff.mp z
      exact ⟨p, q, e1, e2, z1, z2, rfl⟩
    · cases h
  · cases h
theorem od_eq {K : Frg} : OpD K (rEqD K) eqD := by
  intro G H a b d x y Q e ra rb hf k
  unfold eqD at hf
  cases q : eqB a b with
  | none => rw [q] at hf; cases hf
  | some c =>
    rw [q] at hf; cases hf
    obtain ⟨p, r, h1, h2, h3, h4, rfl⟩ := eqB_inv q
    exact ⟨p, r, dp_of e a p x h1 ra, dp_of e b r y h2 rb, h3, h4, k _ G H (.refl e) (.bl _)⟩
theorem od_ne {K : Frg} : OpD K (rNeD K) neD := by
  intro G H a b d x y Q e ra rb hf k
  unfold neD at hf
  cases q : eqB a b with
  | none => rw [q] at hf; cases hf
  | some c =>
    rw [q] at hf; cases hf
    obtain ⟨p, r, h1, h2, h3, h4, rfl⟩ := eqB_inv q
    exact ⟨p, r, dp_of e a p x h1 ra, dp_of e b r y h2 rb, h3, h4, k _ G H (.refl e) (.bl _)⟩
/-! is None, is True -/
def isND : D → D → Option D
  | d, .non => match d with
    | .non => some (.bl true)
    | _ => some (.bl false)
  | .bl a, .bl b => some (.bl (decide (a = b)))
  | _, _ => none
def rIsA : R2 := fun x y H Q => (y = .non ∧ Q (.bl (decide (x = .non))) H) ∨ rIsB x y H Q
def rNotA : R2 := fun x y H Q => (y = .non ∧ Q (.bl (!decide (x = .non))) H) ∨ rNotB x y H Q
section
variable {X : Cx}
theorem op_isA : OpR X (compareOp .Is) rIsA := OpR.or op_isN op_isBl
theorem op_notA : OpR X (compareOp .IsNot) rNotA := OpR.or op_notN op_notBl
end
theorem rep_non_iff {K : Frg} {G : Hp} {x : V} {d : D} (r : Rep K G x d) : decide (x = .non) = (match d with
    | .non => true
    | _ => false) := by
  cases r <;> rfl
theorem od_is {K : Frg} : OpD K rIsA isND := by
  intro G H a b d x y Q e ra rb hf k
  unfold isND at hf
  split at hf
  · cases rb
    have z := rep_non_iff ra
    refine .inl ⟨rfl, ?_⟩
    split at hf
    · cases hf; cases ra; exact k _ G H (.refl e) (.bl _)
    · rename_i nn
      cases hf
      have : decide (x = .non) = false := by
        rw [z]
        cases a <;> first | rfl | exact absurd rfl nn
      rw [this]
      exact k _ G H (.refl e) (.bl _)
  · cases hf; cases ra; cases rb
    exact .inr ⟨_, _, rfl, rfl, k _ G H (.refl e) (.bl _)⟩
  · cases hf
def isNotD (a b : D) : Option D := match isND a b with
  | some (.bl c) => some (.bl (!c))
  | _ => none
theorem od_isNot {K : Frg} : OpD K rNotA isNotD := by
  intro G H a b d x y Q e ra rb hf k
  unfold isNotD at hf
  split at hf
  · rename_i c hc
    cases hf
    unfold isND at hc
    split at hc
    · cases rb
      have z := rep_non_iff ra
      refine .inl ⟨rfl, ?_⟩
      split at hc
      · cases hc; cases ra; exact k _ G H (.refl e) (.bl _)
      · rename_i nn
        cases hc
        have : decide (x = .non) = false := by
          rw [z]
          cases a <;> first | rfl | exact absurd rfl nn
        rw [this]
        exact k _ G H (.refl e) (.bl _)
    · cases hc; cases ra; cases rb
      exact .inr ⟨_, _, rfl, rfl, k _ G H (.refl e) (.bl _)⟩
    · cases hc
  · cases hf
/-! ### rows that are read -/
def seqD : D → Option (List D)
  | .lst ds => some ds
  | .tup ds => some ds
  | .tupx ds => some ds
  | .scr ns => some (ns.map .int)
  | _ => none
def mSeq (m : M D) : M (List D) := fun ρ => bnd (m ρ) fun d ρ1 => retO (seqD d) ρ1
def imAll : List T → Option (List D)
  | [] => some []
  | .im d :: r => (imAll r).map (d :: ·)
  | _ :: _ => none
/-- an owned row of data at a name, or a frozen one -/
def ownL (ρ : Env) (i : Nat) : Option (List D) := match ρ[i]? with
  | some (some (.lst ts)) => imAll ts
  | _ => none
def mOwn (i : Nat) : M (List D) := fun ρ => retO (ownL ρ i) ρ
theorem imAll_eq : ∀ {ts : List T} {ds : List D}, imAll ts = some ds → ts = ds.map T.im
  | [], ds, h => by cases h; rfl
  | t :: ts, ds, h => by
    cases t with
    | im d =>
      cases e : imAll ts with
      | none => rw [show imAll (.im d :: ts) = (imAll ts).map (d :: ·) from rfl, e] at h; cases h
      | some es =>
        rw [show imAll (.im d :: ts) = (imAll ts).map (d :: ·) from rfl, e] at h
        cases h
        rw [imAll_eq e]; rfl
    | _ => cases h
@[simp] theorem imAll_map (ds : List D) : imAll (ds.map T.im) = some ds := by
  induction ds with
  | nil => rfl
  | cons n ns ih => show (imAll (ns.map T.im)).map (n :: ·) = _; rw [ih]; rfl
theorem ownL_eq {ρ : Env} {i : Nat} {ds : List D} (h : ownL ρ i = some ds) : ρ[i]? = some (some (.lst (ds.map T.im))) := by
  unfold ownL at h
  split at h
  · rename_i ts e
    rw [e, imAll_eq h]
  · cases h
theorem Own.flat {K : Frg} {G H : Hp} {v : V} {ds : List D} {F : Fp} (o : Own K G H v (.lst (ds.map T.im)) F) : ∃ p vs, v = .ref p ∧ H p = some (.lst vs) ∧ G p = none ∧ F p ∧ RepAll K G vs ds := by
  cases o with
  | lst f e n l s dj sub fp =>
    refine ⟨_, _, rfl, e, n, fp, by simpa using l, fun i v d a b => ?_⟩
    have z := s i v (.im d) a (by rw [List.getElem?_map, b]; rfl)
    cases z with
    | im r => exact r
theorem Own.flatOf {K : Frg} {G H : Hp} {p : Addr} {vs : List V} {ds : List D} (e : H p = some (.lst vs)) (n : G p = none) (r : RepAll K G vs ds) : Own K G H (.ref p) (.lst (ds.map T.im)) (fun a => a = p) := by
  refine .lst (fun _ => F0) e n (by simpa using r.1) (fun i v t a b => ?_) (fun _ _ _ _ z => z.elim) (fun _ _ z => z.elim) rfl
  rw [List.getElem?_map] at b
  cases q : ds[i]? with
  | none => rw [q] at b; cases b
  | some d =>
    rw [q] at b; cases b
    exact .im (r.2 i v d a q)
/-- what is owned is there -/
theorem Own.live {K : Frg} {G H : Hp} {w : V} {u : T} {F : Fp} (ow : Own K G H w u F) : Own K G H w u (fun a => F a ∧ H a ≠ none) := by
  induction ow with
  | im r => exact .im r
  | lst g e n l s dj sub fp ih => exact .lst (fun k a => g k a ∧ H a ≠ none) e n l (fun k v t a b => ih k v t a b) (fun k m a ne x y => dj k m a ne x.1 y.1) (fun k a x => ⟨⟨(sub k a x.1).1, x.2⟩, (sub k a x.1).2⟩) ⟨fp, by rw [e]; exact fun z => nomatch z⟩
  | obj g e n l s dj sub fp ih => exact .obj (fun k a => g k a ∧ H a ≠ none) e n l (fun k v t a b => ih k v t a b) (fun k m a ne x y => dj k m a ne x.1 y.1) (fun k a x => ⟨⟨(sub k a x.1).1, x.2⟩, (sub k a x.1).2⟩) ⟨fp, by rw [e]; exact fun z => nomatch z⟩
  | dk g e n l s dj sub fp ih => exact .dk (fun k a => g k a ∧ H a ≠ none) e n l (fun k v t a b => ih k v t a b) (fun k m a ne x y => dj k m a ne x.1 y.1) (fun k a x => ⟨⟨(sub k a x.1).1, x.2⟩, (sub k a x.1).2⟩) ⟨fp, by rw [e]; exact fun z => nomatch z⟩
  | dt g e n l s dj sub fp ih => exact .dt (fun k a => g k a ∧ H a ≠ none) e n l (fun k v t a b => ih k v t a b) (fun k m a ne x y => dj k m a ne x.1 y.1) (fun k a x => ⟨⟨(sub k a x.1).1, x.2⟩, (sub k a x.1).2⟩) ⟨fp, by rw [e]; exact fun z => nomatch z⟩
  | pr e n r o sub fp ih => exact .pr e n r ih (fun a x => ⟨⟨(sub a x.1).1, x.2⟩, (sub a x.1).2⟩) ⟨fp, by rw [e]; exact fun z => nomatch z⟩
theorem Slots.own {K : Frg} {F : Fp} {G H : Hp} {σ : L2.St} {ρ : Env} (h : Slots K G H σ ρ F) {i : Nat} {t : T} (e : ρ[i]? = some (some t)) : ∃ v Fv, σ[i]? = some (some v) ∧ Own K G H v t Fv ∧ (∀ a, Fv a → F a) ∧
    ∀ (F1 F2 : Fp) (G' H' : Hp) (t' : T), Stp F1 G H F2 G' H' → (∀ a, F1 a → Fv a) → Own K G' H' v t' F2 → (∀ a, F2 a → F1 a ∨ H a = none) → Slots K G' H' σ (ρ.set i (some t')) (fun a => (F a ∧ ¬ F1 a) ∨ F2 a) := by
  obtain ⟨l, f, h1, h2, h3⟩ := h
  obtain ⟨v, e1, o⟩ := h1 i t e
  refine ⟨v, f i, e1, o, h3 i, fun F1 F2 G' H' t' st sub o' fr => ?_⟩
  have hi : i < ρ.length := (List.getElem?_eq_some_iff.mp e).1
  have live : ∀ (j : Nat) (u : T), j ≠ i → ρ[j]? = some (some u) → ∃ w Fw, σ[j]? = some (some w) ∧ Own K G' H' w u Fw ∧ (∀ a, Fw a → f j a ∧ H a ≠ none) := by
    intro j u nj ej
    obtain ⟨w, e2, ow⟩ := h1 j u ej
    refine ⟨w, fun a => f j a ∧ H a ≠ none, e2, ?_, fun a x => x⟩
    have ow' : Own K G H w u (fun a => f j a ∧ H a ≠ none) := ow.live
    exact ow'.step st fun a x y => h2 j i a nj x.1 (sub a y)
  refine ⟨by simpa using l, fun j => if j = i then F2 else fun a => f j a ∧ H a ≠ none, fun j u ej => ?_, fun j k a n x y => ?_, fun j a x => ?_⟩
  · dsimp only
    by_cases c : j = i
    · subst c
      rw [List.getElem?_set_self hi] at ej
      cases ej
      rw [if_pos rfl]
      exact ⟨v, e1, o'⟩
    · rw [List.getElem?_set_ne (fun q => c q.symm)] at ej
      rw [if_neg c]
      obtain ⟨w, Fw, e2, ow, sw⟩ := live j u c ej
      exact ⟨w, e2, ow.wide sw⟩
  · dsimp only at x y
    by_cases c : j = i
    · rw [if_pos c] at x
      by_cases c' : k = i
      · exact n (c.trans c'.symm)
      · rw [if_neg c'] at y
        rcases fr a x with z | z
        · exact h2 k i a c' y.1 (sub a z)
        · exact y.2 z
    · rw [if_neg c] at x
      by_cases c' : k = i
      · rw [if_pos c'] at y
        rcases fr a y with z | z
        · exact h2 j i a c x.1 (sub a z)
        · exact x.2 z
      · rw [if_neg c'] at y
        exact h2 j k a n x.1 y.1
  · dsimp only at x
    by_cases c : j = i
    · rw [if_pos c] at x; exact .inr x
    · rw [if_neg c] at x
      exact .inl ⟨h3 j a x.1, fun z => h2 j i a c x.1 (sub a z)⟩
section
variable {X : Cx} {W : WX} {e a b c : Expr} {es : List Expr} {ta tb tc te : TE} {t : TA} {ma mb mc me : M D} {ms : M (List D)} {pos : Pos}
theorem relS_of {K : Frg} {G H : Hp} (e : Same G H) {v : V} {d : D} {ds : List D} (r : Rep K G v d) (h : seqD d = some ds) : relS K G H v ds := by
  cases d with
  | lst xs =>
    cases h
    obtain ⟨a, vs, rfl, s, r⟩ := repAll_of_lst r
    exact ⟨a, vs, rfl, .inl (SqL.of (e _ _ s)), r⟩
  | tup xs =>
    cases h
    obtain ⟨a, vs, rfl, s, r⟩ := tup_of r
    exact ⟨a, vs, rfl, .inr (SqT.of (e _ _ s)), r⟩
  | tupx xs =>
    cases h
    cases r with
    | tupx s c z l rr => exact ⟨_, _, rfl, .inr (.inl (rd_mono e (.inr ⟨_, s⟩))), l, rr⟩
  | scr ns =>
    cases h
    cases r with
    | scr s => exact ⟨_, _, rfl, .inl (sqL_mono e s), ints_repAll ns⟩
  | _ => cases h
theorem Se.of (h : Ex X W e te me) : Se X W e te (mSeq me) := by
  refine ⟨h.pe, fun F G H σ ρ Q e sl p => ?_⟩
  refine h.sim.bind e sl p fun v d ρ1 F1 G1 H1 e1 s1 sl1 r h1 => ?_
  obtain ⟨ds, hd, h1⟩ := h1.retO
  exact h1.here e1 sl1 (relS_of e1 r hd)
theorem Se.own (i : Nat) {x : Str} {pos : Pos} (hN : X.N[i]? = some x := by rfl) (hv : Vis X.env.scope x := by first | exact Or.inl rfl | exact Or.inr (Or.inl rfl) | exact Or.inr (Or.inr rfl)) (hd : (x == ("__debug__" : Str)) = false := by decide) (hcd : (x == ("__classdict__" : Str)) = false := by decide) :
    Se X W (.Name x pos) (tVar i) (mOwn i) := by
  refine ⟨pe_var hN hv hd hcd, fun F G H σ ρ Q e sl h => ?_⟩
  obtain ⟨ds, q, h⟩ := Post.retO h
  obtain ⟨v, Fv, e1, o, _⟩ := sl.own (ownL_eq q)
  obtain ⟨p, vs, rfl, e2, n, fp, r⟩ := o.flat
  exact ⟨_, e1, h.here e sl ⟨p, vs, rfl, .inl (SqL.of e2), r⟩⟩
/-! ### in, not in -/
def inB (a : D) (ds : List D) : Option Bool := match pyD a, pyAll ds with
  | some p, some ps => if (SeqAt.shaped p && SeqAt.shaped (.list ps)) = true then some (ps.any fun z => PyData.eqv z p) else none
  | _, _ => none
def mIn (ma : M D) (ms : M (List D)) : M D := fun ρ => bnd (ma ρ) fun a ρ1 => bnd (ms ρ1) fun ds ρ2 => retO ((inB a ds).map .bl) ρ2
def mNotIn (ma : M D) (ms : M (List D)) : M D := fun ρ => bnd (ma ρ) fun a ρ1 => bnd (ms ρ1) fun ds ρ2 => retO ((inB a ds).map fun c => .bl (!c)) ρ2
def rInS (K : Frg) (g : Bool → Bool) : R2 := fun x y H Q => ∃ (l : Addr) (vs : List V) (d : PyData) (ds : List PyData), y = .ref l ∧ (SqL K H l vs ∨ SqT K H l vs) ∧ DpAll K H vs ds ∧ Dp K H x d ∧ SeqAt.shaped d = true ∧ SeqAt.shaped (.list ds) = true ∧
  Q (.bl (g (ds.any fun z => PyData.eqv z d))) H
theorem op_inS (hu : X.A.units + 65 < cLine) : OpR X (compareOp .In) (rInS X.K id) := by
  rintro pz sz σ Hz x y v u Q J rx ry ⟨l, vs, d, ds, rfl, hq | hq, hds, hd, sd, se, q⟩
  all_goals obtain ⟨z1, k1⟩ := Dp.reads J d x v hd rx
  · exact (Dp.reads J (.list ds) _ u (.lst hq hds) ry).elim fun z2 k2 => SeqAt.in_list_reads k2 k1 (SeqAt.canLay_of_shaped se) (SeqAt.canLay_of_shaped sd) (room_in_shaped sd hu) ⟨.bl _, Hz, J, rfl, q⟩
  · exact (Dp.reads J (.tuple ds) _ u (.tup hq hds) ry).elim fun z2 k2 => SeqAt.in_tuple_reads k2 k1 (SeqAt.canLay_of_shaped se) (SeqAt.canLay_of_shaped sd) (room_in_shaped sd hu) ⟨.bl _, Hz, J, rfl, q⟩
theorem op_notInS (hu : X.A.units + 65 < cLine) : OpR X (compareOp .NotIn) (rInS X.K Bool.not) := by
  rintro pz sz σ Hz x y v u Q J rx ry ⟨l, vs, d, ds, rfl, hq | hq, hds, hd, sd, se, q⟩
  all_goals obtain ⟨z1, k1⟩ := Dp.reads J d x v hd rx
  · exact (Dp.reads J (.list ds) _ u (.lst hq hds) ry).elim fun z2 k2 => SeqAt.notIn_list_reads k2 k1 (SeqAt.canLay_of_shaped se) (SeqAt.canLay_of_shaped sd) (room_in_shaped sd hu) ⟨.bl _, Hz, J, rfl, q⟩
  · exact (Dp.reads J (.tuple ds) _ u (.tup hq hds) ry).elim fun z2 k2 => SeqAt.notIn_tuple_reads k2 k1 (SeqAt.canLay_of_shaped se) (SeqAt.canLay_of_shaped sd) (room_in_shaped sd hu) ⟨.bl _, Hz, J, rfl, q⟩
theorem inB_inv {a : D} {ds : List D} {c : Bool} (h : inB a ds = some c) : ∃ p ps, pyD a = some p ∧ pyAll ds = some ps ∧ SeqAt.shaped p = true ∧ SeqAt.shaped (.list ps) = true ∧ c = ps.any fun z => PyData.eqv z p := by
  unfold inB at h
  split at h
  · rename_i p q e1 e2
    split at h
    · rename_i z
      cases h
      obtain ⟨z1, z2⟩ := Bool.and_eq_true_iff.mp z
      exact ⟨p, q, e1, e2, z1, z2, rfl⟩
    · cases h
  · cases h
theorem sim_in {K : Frg} {g : Bool → Bool} (ha : Sim K W (relD K) ta ma) (hb : Sim K W (relS K) tb ms) : Sim K W (relD K) (tOp (rInS K g) ta tb) (fun ρ => bnd (ma ρ) fun a ρ1 => bnd (ms ρ1) fun ds ρ2 => retO ((inB a ds).map fun c => .bl (g c)) ρ2) := by
  intro F G H σ ρ Q e sl h
  refine ha.bind e sl h fun x a ρ1 F1 G1 H1 e1 s1 sl1 ra h1 => ?_
  refine hb.bind e1 sl1 h1 fun y ds ρ2 F2 G2 H2 e2 s2 sl2 rb h2 => ?_
  obtain ⟨d, hd, h2⟩ := h2.retO
  cases q : inB a ds with
  | none => rw [q] at hd; cases hd
  | some c =>
    rw [q] at hd; cases hd
    obtain ⟨p, ps, q1, q2, q3, q4, rfl⟩ := inB_inv q
    obtain ⟨l, vs, rfl, hq, r⟩ := rb
    exact ⟨l, vs, p, ps, rfl, hq, dpAll_of e2 ds ps vs q2 r, dp_of e2 a p x q1 (Rep.mono s2.gg ra), q3, q4, h2.here e2 sl2 (.bl _)⟩
theorem Ex.in_ (hu : X.A.units + 65 < cLine) (ha : Ex X W a ta ma) (hb : Se X W b tb ms) (hm : behindInMarks .In b = false := by rfl) : Ex X W (.Compare a [.In] [b] pos) (tOp (rInS X.K id) ta tb) (mIn ma ms) :=
  ⟨pe_cmpR (op_inS hu) ha.pe hb.pe hm, sim_in (g := id) ha.sim hb.sim⟩
theorem Ex.notIn (hu : X.A.units + 65 < cLine) (ha : Ex X W a ta ma) (hb : Se X W b tb ms) (hm : behindInMarks .NotIn b = false := by rfl) : Ex X W (.Compare a [.NotIn] [b] pos) (tOp (rInS X.K Bool.not) ta tb) (mNotIn ma ms) :=
  ⟨pe_cmpR (op_notInS hu) ha.pe hb.pe hm, sim_in (g := Bool.not) ha.sim hb.sim⟩
end
end MX

namespace MX
open PySem PySem.Spec PyProof.Rows L2
section
variable {X : Cx} {W : WX} {e a b c : Expr} {es rest : List Expr} {ta tb tc te : TE} {t tr : TA} {tt tu : TT} {ma mb mc me : M D} {mt mu : M Bool} {ms : M (List D)} {pos : Pos}
/-! ### truth -/
def blD : D → Option Bool
  | .bl b => some b
  | _ => none
theorem blD_eq {d : D} {b : Bool} (h : blD d = some b) : d = .bl b := by
  cases d <;> first | (cases h; rfl) | cases h
def mB (m : M D) : M Bool := fun ρ => bnd (m ρ) fun d ρ1 => retO (blD d) ρ1
theorem sim_test {K : Frg} (h : Sim K W (relD K) te me) : Sim K W relB (tTest te) (mB me) := by
  intro F G H σ ρ Q e sl p
  refine h.bind e sl p fun v d ρ1 F1 G1 H1 e1 s1 sl1 r h1 => ?_
  obtain ⟨b, hd, h1⟩ := h1.retO
  have := blD_eq hd
  subst this
  cases r
  exact ⟨b, rfl, h1.here e1 sl1 rfl⟩
theorem Te.val (h : Ex X W e te me) (he : ∀ whole, isTrue e X.env whole = (do let v ← whole; standAt e.pos; holding [v] (truthy v)) := by intro _; rfl) : Te X W e (tB te) (mB me) :=
  ⟨pt_val h.pe he, sim_test h.sim⟩
theorem Te.cmp {op : CmpOp} {r : R2} {f : D → D → Option D} (ho : OpR X (compareOp op) r) (od : OpD X.K r f) (ha : Ex X W a ta ma) (hb : Ex X W b tb mb) (hm : behindInMarks op b = false := by first | exact nomark _ | rfl) : Te X W (.Compare a [op] [b] pos) (tTest (tOp r ta tb)) (mB (mBin f ma mb)) :=
  ⟨pt_cmpR ho ha.pe hb.pe hm, sim_test (sim_bin od ha.sim hb.sim)⟩
theorem Te.in_ (hu : X.A.units + 65 < cLine) (ha : Ex X W a ta ma) (hb : Se X W b tb ms) (hm : behindInMarks .In b = false := by rfl) : Te X W (.Compare a [.In] [b] pos) (tTest (tOp (rInS X.K id) ta tb)) (mB (mIn ma ms)) :=
  ⟨pt_cmpR (op_inS hu) ha.pe hb.pe hm, sim_test (sim_in (g := id) ha.sim hb.sim)⟩
theorem Te.notIn (hu : X.A.units + 65 < cLine) (ha : Ex X W a ta ma) (hb : Se X W b tb ms) (hm : behindInMarks .NotIn b = false := by rfl) : Te X W (.Compare a [.NotIn] [b] pos) (tTest (tOp (rInS X.K Bool.not) ta tb)) (mB (mNotIn ma ms)) :=
  ⟨pt_cmpR (op_notInS hu) ha.pe hb.pe hm, sim_test (sim_in (g := Bool.not) ha.sim hb.sim)⟩
/-- a op b op c -/
def mChain (f g : D → D → Option D) (ma mb mc : M D) : M D := fun ρ => bnd (ma ρ) fun a ρ1 => bnd (mb ρ1) fun b ρ2 => bnd (retO ((f a b).bind blD) ρ2) fun k ρ3 => if k = true then bnd (mc ρ3) fun c ρ4 => retO (g b c) ρ4 else ret (.bl false) ρ3
theorem sim_chain {K : Frg} {r r' : R2} {f g : D → D → Option D} (ho : OpD K r f) (ho' : OpD K r' g) (ha : Sim K W (relD K) ta ma) (hb : Sim K W (relD K) tb mb) (hc : Sim K W (relD K) tc mc) : Sim K W (relD K) (tChain r r' ta tb tc) (mChain f g ma mb mc) := by
  intro F G H σ ρ Q e sl h
  refine ha.bind e sl h fun x a ρ1 F1 G1 H1 e1 s1 sl1 ra h1 => ?_
  refine hb.bind e1 sl1 h1 fun y b ρ2 F2 G2 H2 e2 s2 sl2 rb h2 => ?_
  cases q : f a b with
  | none => rw [q] at h2; exact h2.elim
  | some d =>
    rw [q] at h2
    cases q2 : blD d with
    | none => rw [show (some d).bind blD = blD d from rfl, q2] at h2; exact h2.elim
    | some k =>
      rw [show (some d).bind blD = blD d from rfl, q2] at h2
      have e3 := blD_eq q2
      subst e3
      refine ho G2 H2 a b _ x y _ e2 (Rep.mono s2.gg ra) rb q fun v G' H' st rv => ?_
      cases rv
      refine ⟨k, rfl, ?_⟩
      have h3 := Post.mono st.pure (show Post K W σ _ _ F2 G2 H2 (if k = true then bnd (mc ρ2) fun c ρ4 => MX.retO (g b c) ρ4 else ret (.bl false) ρ2) from h2)
      cases k with
      | false =>
        rw [if_neg Bool.false_ne_true] at h3 ⊢
        exact h3.here st.gh (sl2.pure st) (.bl _)
      | true =>
        rw [if_pos rfl] at h3 ⊢
        refine hc.bind st.gh (sl2.pure st) h3 fun z c ρ4 F4 G4 H4 e4 s4 sl4 rc h4 => ?_
        obtain ⟨d, hd, h4⟩ := h4.retO
        exact ho' G4 H4 b c d y z Q e4 ((Rep.mono st.gg rb).mono s4.gg) rc hd fun v G' H' st r => h4 v F4 G' H' st.pure (sl4.pure st) r
theorem Ex.chain {op op' : CmpOp} {r r' : R2} {f g : D → D → Option D} (ho : OpR X (compareOp op) r) (od : OpD X.K r f) (ho' : OpR X (compareOp op') r') (od' : OpD X.K r' g) (ha : Ex X W a ta ma) (hb : Ex X W b tb mb) (hc : Ex X W c tc mc)
    (hm : lastMarks [op, op'] [b, c] = false := by with_unfolding_all rfl) : Ex X W (.Compare a [op, op'] [b, c] pos) (tChain r r' ta tb tc) (mChain f g ma mb mc) :=
  ⟨pe_chain ho ho' ha.pe hb.pe hc.pe hm, sim_chain od od' ha.sim hb.sim hc.sim⟩
theorem Te.chain {op op' : CmpOp} {r r' : R2} {f g : D → D → Option D} (ho : OpR X (compareOp op) r) (od : OpD X.K r f) (ho' : OpR X (compareOp op') r') (od' : OpD X.K r' g) (ha : Ex X W a ta ma) (hb : Ex X W b tb mb) (hc : Ex X W c tc mc)
    (hm : lastMarks [op, op'] [b, c] = false := by with_unfolding_all rfl) : Te X W (.Compare a [op, op'] [b, c] pos) (tTest (tChain r r' ta tb tc)) (mB (mChain f g ma mb mc)) :=
  ⟨pt_chain ho ho' ha.pe hb.pe hc.pe hm, sim_test (sim_chain od od' ha.sim hb.sim hc.sim)⟩
/-! and, or, not as tests -/
structure Tw (X : Cx) (W : WX) (e : Expr) (t : TT) (m : M Bool) : Prop where
  pw : PW X e t
  sim : Sim X.K W relB t m
def mAnd (ma mb : M Bool) : M Bool := fun ρ => bnd (ma ρ) fun c ρ1 => if c = true then mb ρ1 else ret false ρ1
def mOr (ma mb : M Bool) : M Bool := fun ρ => bnd (ma ρ) fun c ρ1 => if c = true then ret true ρ1 else mb ρ1
def mNot (ma : M Bool) : M Bool := fun ρ => bnd (ma ρ) fun c ρ1 => ret (!c) ρ1
theorem sim_and {K : Frg} (ha : Sim K W relB tt mt) (hb : Sim K W relB tu mu) : Sim K W relB (tAnd tt tu) (mAnd mt mu) := by
  intro F G H σ ρ Q e sl h
  refine ha.bind e sl h fun x a ρ1 F1 G1 H1 e1 s1 sl1 ra h1 => ?_
  cases (show x = a from ra)
  cases x with
  | true => exact hb F1 G1 H1 σ ρ1 Q e1 sl1 h1
  | false => exact h1.here e1 sl1 rfl
theorem sim_or {K : Frg} (ha : Sim K W relB tt mt) (hb : Sim K W relB tu mu) : Sim K W relB (tOr tt tu) (mOr mt mu) := by
  intro F G H σ ρ Q e sl h
  refine ha.bind e sl h fun x a ρ1 F1 G1 H1 e1 s1 sl1 ra h1 => ?_
  cases (show x = a from ra)
  cases x with
  | false => exact hb F1 G1 H1 σ ρ1 Q e1 sl1 h1
  | true => exact h1.here e1 sl1 rfl
theorem Te.not (h : Te X W a tt mt) : Te X W (.UnaryOp .Not a pos) (tNot tt) (mNot mt) := by
  refine ⟨pt_not h.pt, fun F G H σ ρ Q e sl p => ?_⟩
  refine h.sim.bind e sl p fun x a ρ1 F1 G1 H1 e1 s1 sl1 ra h1 => ?_
  cases (show x = a from ra)
  exact h1.here e1 sl1 rfl
theorem Tw.and1 (h : Te X W a tt mt) : Tw X W (.BoolOp .And [a] pos) tt mt := ⟨pw_and1 h.pt, h.sim⟩
theorem Tw.or1 (h : Te X W a tt mt) : Tw X W (.BoolOp .Or [a] pos) tt mt := ⟨pw_or1 h.pt, h.sim⟩
theorem Tw.and (ha : Te X W a tt mt) (hb : Tw X W (.BoolOp .And (b :: rest) pos) tu mu) : Tw X W (.BoolOp .And (a :: b :: rest) pos) (tAnd tt tu) (mAnd mt mu) := ⟨pw_and ha.pt hb.pw, sim_and ha.sim hb.sim⟩
theorem Tw.or (ha : Te X W a tt mt) (hb : Tw X W (.BoolOp .Or (b :: rest) pos) tu mu) : Tw X W (.BoolOp .Or (a :: b :: rest) pos) (tOr tt tu) (mOr mt mu) := ⟨pw_or ha.pt hb.pw, sim_or ha.sim hb.sim⟩
theorem Tw.tst (h : Tw X W e tt mt) : Te X W e tt mt := ⟨h.pw.pt, h.sim⟩
/-! .. as values, all bools -/
def mAndV (ma mb : M D) : M D := fun ρ => bnd (ma ρ) fun d ρ1 => bnd (retO (blD d) ρ1) fun c ρ2 => if c = true then mb ρ2 else ret (.bl false) ρ2
def mOrV (ma mb : M D) : M D := fun ρ => bnd (ma ρ) fun d ρ1 => bnd (retO (blD d) ρ1) fun c ρ2 => if c = true then ret (.bl true) ρ2 else mb ρ2
def mNotV (ma : M D) : M D := fun ρ => bnd (ma ρ) fun d ρ1 => bnd (retO (blD d) ρ1) fun c ρ2 => ret (.bl (!c)) ρ2
theorem sim_andV {K : Frg} (ha : Sim K W (relD K) ta ma) (hb : Sim K W (relD K) tb mb) : Sim K W (relD K) (tAndV ta tb) (mAndV ma mb) := by
  intro F G H σ ρ Q e sl h
  refine ha.bind e sl h fun x a ρ1 F1 G1 H1 e1 s1 sl1 ra h1 => ?_
  cases q : blD a with
  | none => rw [q] at h1; exact h1.elim
  | some k =>
    rw [q] at h1
    have := blD_eq q
    subst this
    cases ra
    refine ⟨k, rfl, ?_⟩
    cases k with
    | true => exact hb F1 G1 H1 σ ρ1 Q e1 sl1 h1
    | false => exact Post.here (a := D.bl false) h1 e1 sl1 (.bl _)
theorem sim_orV {K : Frg} (ha : Sim K W (relD K) ta ma) (hb : Sim K W (relD K) tb mb) : Sim K W (relD K) (tOrV ta tb) (mOrV ma mb) := by
  intro F G H σ ρ Q e sl h
  refine ha.bind e sl h fun x a ρ1 F1 G1 H1 e1 s1 sl1 ra h1 => ?_
  cases q : blD a with
  | none => rw [q] at h1; exact h1.elim
  | some k =>
    rw [q] at h1
    have := blD_eq q
    subst this
    cases ra
    refine ⟨k, rfl, ?_⟩
    cases k with
    | false => exact hb F1 G1 H1 σ ρ1 Q e1 sl1 h1
    | true => exact Post.here (a := D.bl true) h1 e1 sl1 (.bl _)
theorem Ex.not (h : Ex X W a ta ma) : Ex X W (.UnaryOp .Not a pos) (tNotV ta) (mNotV ma) := by
  refine ⟨pe_not h.pe, fun F G H σ ρ Q e sl p => ?_⟩
  refine h.sim.bind e sl p fun x a ρ1 F1 G1 H1 e1 s1 sl1 ra h1 => ?_
  cases q : blD a with
  | none => rw [q] at h1; exact h1.elim
  | some k =>
    rw [q] at h1
    have := blD_eq q
    subst this
    cases ra
    exact ⟨k, rfl, Post.here (a := D.bl (!k)) h1 e1 sl1 (.bl _)⟩
theorem Ex.one {op} (h : Ex X W a ta ma) : Ex X W (.BoolOp op [a] pos) ta ma := ⟨pe_one h.pe, h.sim⟩
theorem Ex.and (ha : Ex X W a ta ma) (hb : Ex X W (.BoolOp .And (b :: rest) pos) tb mb) : Ex X W (.BoolOp .And (a :: b :: rest) pos) (tAndV ta tb) (mAndV ma mb) := ⟨pe_and ha.pe hb.pe, sim_andV ha.sim hb.sim⟩
theorem Ex.or (ha : Ex X W a ta ma) (hb : Ex X W (.BoolOp .Or (b :: rest) pos) tb mb) : Ex X W (.BoolOp .Or (a :: b :: rest) pos) (tOrV ta tb) (mOrV ma mb) := ⟨pe_or ha.pe hb.pe, sim_orV ha.sim hb.sim⟩
def mIf (mt : M Bool) (ma mb : M D) : M D := fun ρ => bnd (mt ρ) fun c ρ1 => if c = true then ma ρ1 else mb ρ1
theorem Ex.ifE (hc : Te X W c tt mt) (ha : Ex X W a ta ma) (hb : Ex X W b tb mb) : Ex X W (.IfExp c a b pos) (tIf tt ta tb) (mIf mt ma mb) := by
  refine ⟨pe_ifExp hc.pt ha.pe hb.pe, fun F G H σ ρ Q e sl p => ?_⟩
  refine hc.sim.bind e sl p fun x a ρ1 F1 G1 H1 e1 s1 sl1 ra h1 => ?_
  cases (show x = a from ra)
  cases x with
  | true => exact ha.sim F1 G1 H1 σ ρ1 Q e1 sl1 h1
  | false => exact hb.sim F1 G1 H1 σ ρ1 Q e1 sl1 h1
/-! ### arguments, displays -/
def mNil : M (List D) := fun ρ => ret [] ρ
def mCons (m : M D) (ms : M (List D)) : M (List D) := fun ρ => bnd (m ρ) fun d ρ1 => bnd (ms ρ1) fun ds ρ2 => ret (d :: ds) ρ2
theorem As.nil : As X W [] tNil mNil := ⟨pa_nil, fun F G H σ ρ Q e sl h => Post.here (K := X.K) (rel := relA X.K ([] : List Expr).length) h e sl ⟨.nil, rfl⟩⟩
theorem As.cons (h : Ex X W e te me) (hr : As X W es tr ms) (hs : starEach (e :: es) X.env = (false, eval e X.env) :: starEach es X.env := by rfl) : As X W (e :: es) (tCons te tr) (mCons me ms) := by
  refine ⟨pa_cons h.pe hr.pa hs, fun F G H σ ρ Q e sl p => ?_⟩
  refine h.sim.bind e sl p fun v d ρ1 F1 G1 H1 e1 s1 sl1 r h1 => ?_
  refine hr.sim.bind e1 sl1 h1 fun vs ds ρ2 F2 G2 H2 e2 s2 sl2 rs h2 => ?_
  exact Post.here (K := X.K) (rel := relA X.K (es.length + 1)) h2 e2 sl2 ⟨.cons (Rep.mono s2.gg r) rs.1, by rw [List.length_cons, rs.2]⟩
def mTup (ms : M (List D)) : M D := fun ρ => bnd (ms ρ) fun ds ρ1 => ret (.tup ds) ρ1
def mLst (ms : M (List D)) : M D := fun ρ => bnd (ms ρ) fun ds ρ1 => ret (.lst ds) ρ1
theorem Ex.tup {k} (h : As X W es t ms) (hl : es.length ≤ 1000 := by decide) : Ex X W (.Tuple es k pos) (tTup t) (mTup ms) := by
  refine ⟨pe_tup h.pa, fun F G H σ ρ Q e sl p => ?_⟩
  refine h.sim.bind e sl p fun vs ds ρ1 F1 G1 H1 e1 s1 sl1 r h1 => ?_
  refine ⟨line_big (by rw [r.2]; omega), fun p np => ?_⟩
  exact h1 _ F1 _ _ (Stp.new e1 np _).pure (sl1.pure (.new e1 np _)) (.newTup (none_of e1 np) r.1)
theorem Ex.lst (h : As X W es t ms) (hl : es.length ≤ 1000 := by decide) : Ex X W (.List es pos) (tLst t) (mLst ms) := by
  refine ⟨pe_lst h.pa, fun F G H σ ρ Q e sl p => ?_⟩
  refine h.sim.bind e sl p fun vs ds ρ1 F1 G1 H1 e1 s1 sl1 r h1 => ?_
  refine ⟨line_big (by rw [r.2]; omega), fun p np => ?_⟩
  exact h1 _ F1 _ _ (Stp.new e1 np _).pure (sl1.pure (.new e1 np _)) (.newLst (none_of e1 np) r.1)
/-! ### calls of built-ins -/
def CallD (K : Frg) (r : List V → Hp → VK → Prop) (n : Nat) (f : List D → Option D) : Prop := ∀ (G H : Hp) (ds : List D) (d : D) (vs : List V) (Q : VK), Same G H → RepAll K G vs ds → vs.length = n → f ds = some d → (∀ v G' H', Stp F0 G H F0 G' H' → Rep K G' v d → Q v H') → r vs H Q
def mCall (f : List D → Option D) (ms : M (List D)) : M D := fun ρ => bnd (ms ρ) fun ds ρ1 => retO (f ds) ρ1
theorem sim_call {K : Frg} {r : List V → Hp → VK → Prop} {n : Nat} {f : List D → Option D} (hf : CallD K r n f) (h : Sim K W (relA K n) t ms) : Sim K W (relD K) (tCB r t) (mCall f ms) := by
  intro F G H σ ρ Q e sl p
  refine h.bind e sl p fun vs ds ρ1 F1 G1 H1 e1 s1 sl1 r h1 => ?_
  obtain ⟨d, hd, h1⟩ := h1.retO
  exact hf G1 H1 ds d vs Q e1 r.1 r.2 hd fun v G' H' st rv => h1 v F1 G' H' st.pure (sl1.pure st) rv
theorem Ex.callB {x : Str} {p : Pos} {id : String} {r : List V → Hp → VK → Prop} {f : List D → Option D} (hc : CallR X (.builtin id) r) (hf : CallD X.K r (es.length + 1) f) (hm : X.mg x = none) (hv : bootBuiltins x = some (.builtin id)) (ha : As X W (e :: es) t ms) (hg : Gl X x := by rfl) (hn : x ≠ "__name__" := by decide) (hdb : (x == ("__debug__" : Str)) = false := by decide)
    (he : starEach (e :: es) X.env = (false, eval e X.env) :: starEach es X.env := by rfl) (hpl : (backTo pos (starEach es X.env)).any (·.1) = false := by rfl) : Ex X W (.Call (.Name x p) (e :: es) [] pos) (tCB r t) (mCall f ms) :=
  ⟨pe_callB hc hg hm hv ha.pa hn hdb he hpl, sim_call hf ha.sim⟩
theorem Ex.callTy {x : Str} {p : Pos} {id : String} {r : List V → Hp → VK → Prop} {f : List D → Option D} (hc : CallR X (.type id) r) (hf : CallD X.K r (es.length + 1) f) (hm : X.mg x = none) (hv : bootBuiltins x = some (.type id)) (ha : As X W (e :: es) t ms) (hg : Gl X x := by rfl) (hn : x ≠ "__name__" := by decide) (hdb : (x == ("__debug__" : Str)) = false := by decide)
    (he : starEach (e :: es) X.env = (false, eval e X.env) :: starEach es X.env := by rfl) (hpl : (backTo pos (starEach es X.env)).any (·.1) = false := by rfl) : Ex X W (.Call (.Name x p) (e :: es) [] pos) (tCB r t) (mCall f ms) :=
  ⟨pe_callTy hc hg hm hv ha.pa hn hdb he hpl, sim_call hf ha.sim⟩
/-- .. of one thing that is read as a row -/
def CallS (K : Frg) (r : List V → Hp → VK → Prop) (f : List D → Option D) : Prop := ∀ (G H : Hp) (a : Addr) (vs : List V) (ds : List D) (d : D) (Q : VK), Same G H → (SqL K H a vs ∨ SqT K H a vs) → RepAll K G vs ds → f ds = some d → (∀ v G' H', Stp F0 G H F0 G' H' → Rep K G' v d → Q v H') → r [.ref a] H Q
theorem sim_callS {K : Frg} {r : List V → Hp → VK → Prop} {f : List D → Option D} (hf : CallS K r f) (h : Sim K W (relS K) te ms) : Sim K W (relD K) (tCB r (tCons te tNil)) (mCall f ms) := by
  intro F G H σ ρ Q e sl p
  refine h.bind e sl p fun v ds ρ1 F1 G1 H1 e1 s1 sl1 r h1 => ?_
  obtain ⟨d, hd, h1⟩ := h1.retO
  obtain ⟨a, vs, rfl, hq, r⟩ := r
  exact hf G1 H1 a vs ds d Q e1 hq r hd fun v G' H' st rv => h1 v F1 G' H' st.pure (sl1.pure st) rv
theorem Ex.callBS {x : Str} {p : Pos} {id : String} {r : List V → Hp → VK → Prop} {f : List D → Option D} (hc : CallR X (.builtin id) r) (hf : CallS X.K r f) (hm : X.mg x = none) (hv : bootBuiltins x = some (.builtin id)) (ha : Se X W e te ms) (hg : Gl X x := by rfl) (hn : x ≠ "__name__" := by decide) (hdb : (x == ("__debug__" : Str)) = false := by decide)
    (he : starEach (e :: []) X.env = (false, eval e X.env) :: starEach [] X.env := by rfl) (hpl : (backTo pos (starEach [] X.env)).any (·.1) = false := by rfl) : Ex X W (.Call (.Name x p) [e] [] pos) (tCB r (tCons te tNil)) (mCall f ms) :=
  ⟨pe_callB hc hg hm hv (pa_cons ha.pe pa_nil he) hn hdb he hpl, sim_callS hf ha.sim⟩
theorem Ex.callTyS {x : Str} {p : Pos} {id : String} {r : List V → Hp → VK → Prop} {f : List D → Option D} (hc : CallR X (.type id) r) (hf : CallS X.K r f) (hm : X.mg x = none) (hv : bootBuiltins x = some (.type id)) (ha : Se X W e te ms) (hg : Gl X x := by rfl) (hn : x ≠ "__name__" := by decide) (hdb : (x == ("__debug__" : Str)) = false := by decide)
    (he : starEach (e :: []) X.env = (false, eval e X.env) :: starEach [] X.env := by rfl) (hpl : (backTo pos (starEach [] X.env)).any (·.1) = false := by rfl) : Ex X W (.Call (.Name x p) [e] [] pos) (tCB r (tCons te tNil)) (mCall f ms) :=
  ⟨pe_callTy hc hg hm hv (pa_cons ha.pe pa_nil he) hn hdb he hpl, sim_callS hf ha.sim⟩
end
/-! the built-ins -/
def lenS (ds : List D) : Option D := some (.int (ds.length : Nat))
theorem cs_len {K : Frg} : CallS K (fun xs H Q => ∃ p ys, xs = [.ref p] ∧ (SqL K H p ys ∨ SqT K H p ys) ∧ Q (.int ys.length) H) lenS := by
  intro G H a vs ds d Q e hq r hd k
  cases hd
  exact ⟨a, vs, rfl, hq, by rw [r.1]; exact k _ G H (.refl e) (.int _)⟩
/-! tuple(..) -/
def tupDO : D → Option D
  | .tup ds => some (.tup ds)
  | .tupx ds => some (.tupx ds)
  | .lst ds => some (.tup ds)
  | .scr ns => some (.tup (ns.map .int))
  | _ => none
def mTupOf (m : M D) : M D := fun ρ => bnd (m ρ) fun d ρ1 => retO (tupDO d) ρ1
def rTupA (K : Frg) : List V → Hp → VK → Prop := fun xs H Q => ∃ p ys, xs = [.ref p] ∧ ((SqL K H p ys ∧ ∀ l, H l = none → Q (.ref l) (upd H l (.tup ys))) ∨ (SqT K H p ys ∧ Q (.ref p) H))
/-- .. of a list, the new object known -/
def rTupX (K : Frg) : List V → Hp → VK → Prop := fun xs H Q => ∃ p ys, xs = [.ref p] ∧ SqL K H p ys ∧ ∀ (l : Addr) (o : Obj), H l = none → o.cls = .type "tuple" → o.dict = none → Q (.ref l) (upd H l (.frz o (.tup ys)))
section
variable {X : Cx} {W : WX} {e : Expr} {te : TE} {me : M D} {ms : M (List D)} {pos : Pos}
theorem call_tupX : CallR X (.type "tuple") (rTupX X.K) := by
  intro pins s σ H xs us Q I r h
  obtain ⟨p, ys, rfl, hq, q⟩ := h
  obtain ⟨u, rfl, rx⟩ := vals1 r
  cases rx
  obtain ⟨its, r2, pl, hz⟩ := I.list hq
  have hlen := r2.length
  refine call_tuple_list pl.isList (fun h2 kp => ?_) (by simp only [List.size_toArray] <;> omega)
  have I1 : Inv X pins σ H { s with heap := h2 } := I.kept (t' := s.toks) kp
  have g := Heap.get?_push_size h2 (o := { cls := .type "tuple", data := .seq its.toArray }) rfl
  have I2 : Inv X pins σ (upd H h2.objs.size (.frz { cls := .type "tuple", data := .seq its.toArray } (.tup ys))) { s with heap := h2.push { cls := .type "tuple", data := .seq its.toArray } } :=
    I1.laid (t' := s.toks) (fun b o e => Heap.get?_push_of_some _ e) (Nat.le_refl _) (show ObjOk X.prog X.w _ _ _ (.frz _ (.tup ys)) from ⟨g, hz, its, r2, IsTup.new _ _⟩)
  exact ⟨.ref h2.objs.size, _, I2, rfl, q _ _ (I1.hok.fresh (Nat.le_refl _)) rfl rfl⟩
theorem Ex.tupOf {x : Str} {p : Pos} (hm : X.mg x = none) (hv : bootBuiltins x = some (.type "tuple")) (h : Ex X W e te me) (hg : Gl X x := by rfl) (hn : x ≠ "__name__" := by decide) (hdb : (x == ("__debug__" : Str)) = false := by decide)
    (he : starEach (e :: []) X.env = (false, eval e X.env) :: starEach [] X.env := by rfl) (hpl : (backTo pos (starEach [] X.env)).any (·.1) = false := by rfl) : Ex X W (.Call (.Name x p) [e] [] pos) (tCB (rTupA X.K) (tCons te tNil)) (mTupOf me) := by
  refine ⟨pe_callTy call_tuple_of hg hm hv (pa_cons h.pe pa_nil he) hn hdb he hpl, fun F G H σ ρ Q e sl p => ?_⟩
  refine h.sim.bind e sl p fun v d ρ1 F1 G1 H1 e1 s1 sl1 r h1 => ?_
  obtain ⟨x, hd, h2⟩ := h1.retO
  cases d with
  | tup ds =>
    cases hd
    obtain ⟨a, vs, rfl, s, rr⟩ := tup_of r
    exact ⟨a, vs, rfl, .inr ⟨SqT.of (e1 _ _ s), h2 _ F1 G1 H1 (.refl e1) sl1 r⟩⟩
  | tupx ds =>
    cases hd
    have r0 := r
    cases r with
    | tupx s c z l rr => exact ⟨_, _, rfl, .inr ⟨.inl (rd_mono e1 (.inr ⟨_, s⟩)), h2 _ F1 G1 H1 (.refl e1) sl1 r0⟩⟩
  | lst ds =>
    cases hd
    obtain ⟨a, vs, rfl, s, rr⟩ := repAll_of_lst r
    exact ⟨a, vs, rfl, .inl ⟨SqL.of (e1 _ _ s), fun l nl => h2 _ F1 _ _ (Stp.new e1 nl _).pure (sl1.pure (.new e1 nl _)) (.newTup (none_of e1 nl) rr)⟩⟩
  | scr ns =>
    cases hd
    cases r with
    | scr s => exact ⟨_, ns.map V.int, rfl, .inl ⟨sqL_mono e1 s, fun l nl => h2 _ F1 _ _ (Stp.new e1 nl _).pure (sl1.pure (.new e1 nl _)) (.newTup (none_of e1 nl) (ints_repAll ns))⟩⟩
  | _ => cases hd
end
end MX

namespace MX
open PySem PySem.Spec PyProof.Rows L2
/-! ### more built-ins -/
def lstS (ds : List D) : Option D := some (.lst ds)
theorem cs_list {K : Frg} : CallS K (fun xs H Q => ∃ p ys, xs = [.ref p] ∧ (SqL K H p ys ∨ SqT K H p ys) ∧ ∀ l, H l = none → Q (.ref l) (upd H l (.lst ys))) lstS := by
  intro G H a vs ds d Q e hq r hd k
  cases hd
  exact ⟨a, vs, rfl, hq, fun l nl => k _ _ _ (.new e nl _) (.newLst (none_of e nl) r)⟩
def allS (ds : List D) : Option D := (blsD ds).map fun bs => .bl (bs.all id)
def anyS (ds : List D) : Option D := (blsD ds).map fun bs => .bl (bs.any id)
/-- of a list alone -/
def CallL (K : Frg) (r : List V → Hp → VK → Prop) (f : List D → Option D) : Prop := ∀ (G H : Hp) (a : Addr) (vs : List V) (ds : List D) (d : D) (Q : VK), Same G H → SqL K H a vs → RepAll K G vs ds → f ds = some d → (∀ v G' H', Stp F0 G H F0 G' H' → Rep K G' v d → Q v H') → r [.ref a] H Q
theorem cl_all {K : Frg} : CallL K (rAll K) allS := by
  intro G H a vs ds d Q e hq r hd k
  unfold allS at hd
  cases q : blsD ds with
  | none => rw [q] at hd; cases hd
  | some bs =>
    rw [q] at hd; cases hd
    have := blsD_eq q
    subst this
    have := repAll_bls r
    subst this
    exact ⟨a, bs, rfl, hq, k _ G H (.refl e) (.bl _)⟩
theorem cl_any {K : Frg} : CallL K (rAny K) anyS := by
  intro G H a vs ds d Q e hq r hd k
  unfold anyS at hd
  cases q : blsD ds with
  | none => rw [q] at hd; cases hd
  | some bs =>
    rw [q] at hd; cases hd
    have := blsD_eq q
    subst this
    have := repAll_bls r
    subst this
    exact ⟨a, bs, rfl, hq, k _ G H (.refl e) (.bl _)⟩
/-- sorted of ints -/
def insI (x : Int) : List Int → List Int
  | [] => [x]
  | y :: r => if x ≤ y then x :: y :: r else y :: insI x r
def sortI : List Int → List Int
  | [] => []
  | x :: r => insI x (sortI r)
theorem insI_perm (x : Int) : ∀ l, (insI x l).Perm (x :: l)
  | [] => .refl _
  | y :: r => by
    unfold insI
    split
    · exact .refl _
    · exact ((insI_perm x r).cons y).trans (.swap x y r)
theorem sortI_perm : ∀ l, (sortI l).Perm l
  | [] => .refl _
  | x :: r => (insI_perm x _).trans ((sortI_perm r).cons x)
theorem insI_sorted {x : Int} : ∀ {l : List Int}, l.Pairwise (· ≤ ·) → (insI x l).Pairwise (· ≤ ·)
  | [], _ => List.pairwise_singleton _ _
  | y :: r, h => by
    unfold insI
    rw [List.pairwise_cons] at h
    split
    · rename_i q
      rw [List.pairwise_cons, List.pairwise_cons]
      exact ⟨fun z hz => by
        rcases List.mem_cons.mp hz with e | hz
        · omega
        · have := h.1 z hz; omega, h⟩
    · rename_i q
      rw [List.pairwise_cons]
      refine ⟨fun z hz => ?_, insI_sorted h.2⟩
      rcases List.mem_cons.mp ((insI_perm x r).mem_iff.mp hz) with e | hz
      · omega
      · exact h.1 z hz
theorem sortI_sorted : ∀ l : List Int, (sortI l).Pairwise (· ≤ ·)
  | [] => List.Pairwise.nil
  | x :: r => insI_sorted (sortI_sorted r)
theorem sorted_uniq : ∀ {l m : List Int}, l.Pairwise (· ≤ ·) → m.Pairwise (· ≤ ·) → l.Perm m → l = m
  | [], m, _, _, h => (List.Perm.eq_nil h.symm).symm
  | x :: l, [], _, _, h => absurd h.length_eq (by simp)
  | x :: l, y :: m, hl, hm, h => by
    rw [List.pairwise_cons] at hl hm
    have e : x = y := by
      have h1 : x ∈ y :: m := h.mem_iff.mp List.mem_cons_self
      have h2 : y ∈ x :: l := h.mem_iff.mpr List.mem_cons_self
      rcases List.mem_cons.mp h1 with e | h1
      · exact e
      · rcases List.mem_cons.mp h2 with e | h2
        · exact e.symm
        · have a := hm.1 x h1
          have b := hl.1 y h2
          omega
    subst e
    rw [sorted_uniq hl.2 hm.2 ((List.perm_cons x).mp h)]
def sortedS (ds : List D) : Option D := (intsD ds).map fun ns => .lst ((sortI ns).map .int)
theorem cl_sorted {K : Frg} : CallL K (rSortedI K) sortedS := by
  intro G H a vs ds d Q e hq r hd k
  unfold sortedS at hd
  cases q : intsD ds with
  | none => rw [q] at hd; cases hd
  | some ns =>
    rw [q] at hd; cases hd
    have := intsD_eq q
    subst this
    have := repAll_ints r
    subst this
    refine ⟨a, ns, rfl, hq, fun ns' p h1 h2 np => ?_⟩
    have z : ns' = sortI ns := sorted_uniq h2 (sortI_sorted ns) (h1.trans (sortI_perm ns).symm)
    subst z
    exact k _ _ _ (.new e np _) (.newLst (none_of e np) (ints_repAll _))
section
variable {X : Cx} {W : WX} {e a b c : Expr} {es rest : List Expr} {ta tb tc te : TE} {t tr : TA} {tt tu : TT} {ma mb mc me : M D} {mt mu : M Bool} {ms : M (List D)} {pos : Pos}
/-- what may be read as a list (no tuple) -/
def relL (K : Frg) : Hp → Hp → V → List D → Prop := fun G H v ds => ∃ a vs, v = .ref a ∧ SqL K H a vs ∧ RepAll K G vs ds
structure Li (X : Cx) (W : WX) (e : Expr) (t : TE) (m : M (List D)) : Prop where
  pe : PE X e t
  sim : Sim X.K W (relL X.K) t m
def lstD : D → Option (List D)
  | .lst ds => some ds
  | .scr ns => some (ns.map .int)
  | _ => none
def mList (m : M D) : M (List D) := fun ρ => bnd (m ρ) fun d ρ1 => retO (lstD d) ρ1
theorem relL_of {K : Frg} {G H : Hp} (e : Same G H) {v : V} {d : D} {ds : List D} (r : Rep K G v d) (h : lstD d = some ds) : relL K G H v ds := by
  cases d with
  | lst xs =>
    cases h
    obtain ⟨a, vs, rfl, s, r⟩ := repAll_of_lst r
    exact ⟨a, vs, rfl, SqL.of (e _ _ s), r⟩
  | scr ns =>
    cases h
    cases r with
    | scr s => exact ⟨_, _, rfl, sqL_mono e s, ints_repAll ns⟩
  | _ => cases h
theorem Li.of (h : Ex X W e te me) : Li X W e te (mList me) := by
  refine ⟨h.pe, fun F G H σ ρ Q e sl p => ?_⟩
  refine h.sim.bind e sl p fun v d ρ1 F1 G1 H1 e1 s1 sl1 r h1 => ?_
  obtain ⟨ds, hd, h1⟩ := h1.retO
  exact h1.here e1 sl1 (relL_of e1 r hd)
theorem Li.own (i : Nat) {x : Str} {pos : Pos} (hN : X.N[i]? = some x := by rfl) (hv : Vis X.env.scope x := by first | exact Or.inl rfl | exact Or.inr (Or.inl rfl) | exact Or.inr (Or.inr rfl)) (hd : (x == ("__debug__" : Str)) = false := by decide) (hcd : (x == ("__classdict__" : Str)) = false := by decide) :
    Li X W (.Name x pos) (tVar i) (mOwn i) := by
  refine ⟨pe_var hN hv hd hcd, fun F G H σ ρ Q e sl h => ?_⟩
  obtain ⟨ds, q, h⟩ := Post.retO h
  obtain ⟨v, Fv, e1, o, _⟩ := sl.own (ownL_eq q)
  obtain ⟨p, vs, rfl, e2, n, fp, r⟩ := o.flat
  exact ⟨_, e1, h.here e sl ⟨p, vs, rfl, SqL.of e2, r⟩⟩
theorem sim_callL {K : Frg} {r : List V → Hp → VK → Prop} {f : List D → Option D} (hf : CallL K r f) (h : Sim K W (relL K) te ms) : Sim K W (relD K) (tCB r (tCons te tNil)) (mCall f ms) := by
  intro F G H σ ρ Q e sl p
  refine h.bind e sl p fun v ds ρ1 F1 G1 H1 e1 s1 sl1 r h1 => ?_
  obtain ⟨d, hd, h1⟩ := h1.retO
  obtain ⟨a, vs, rfl, hq, r⟩ := r
  exact hf G1 H1 a vs ds d Q e1 hq r hd fun v G' H' st rv => h1 v F1 G' H' st.pure (sl1.pure st) rv
theorem Ex.callBL {x : Str} {p : Pos} {id : String} {r : List V → Hp → VK → Prop} {f : List D → Option D} (hc : CallR X (.builtin id) r) (hf : CallL X.K r f) (hm : X.mg x = none) (hv : bootBuiltins x = some (.builtin id)) (ha : Li X W e te ms) (hg : Gl X x := by rfl) (hn : x ≠ "__name__" := by decide) (hdb : (x == ("__debug__" : Str)) = false := by decide)
    (he : starEach (e :: []) X.env = (false, eval e X.env) :: starEach [] X.env := by rfl) (hpl : (backTo pos (starEach [] X.env)).any (·.1) = false := by rfl) : Ex X W (.Call (.Name x p) [e] [] pos) (tCB r (tCons te tNil)) (mCall f ms) :=
  ⟨pe_callB hc hg hm hv (pa_cons ha.pe pa_nil he) hn hdb he hpl, sim_callL hf ha.sim⟩
/-- tuple(..) of a list, a new tuple; .. the new tuple known -/
def mTupL (ms : M (List D)) : M D := fun ρ => bnd (ms ρ) fun ds ρ1 => ret (.tup ds) ρ1
def mTupX (ms : M (List D)) : M D := fun ρ => bnd (ms ρ) fun ds ρ1 => ret (.tupx ds) ρ1
theorem Ex.tupL {x : Str} {p : Pos} (hm : X.mg x = none) (hv : bootBuiltins x = some (.type "tuple")) (h : Li X W e te ms) (hg : Gl X x := by rfl) (hn : x ≠ "__name__" := by decide) (hdb : (x == ("__debug__" : Str)) = false := by decide)
    (he : starEach (e :: []) X.env = (false, eval e X.env) :: starEach [] X.env := by rfl) (hpl : (backTo pos (starEach [] X.env)).any (·.1) = false := by rfl) : Ex X W (.Call (.Name x p) [e] [] pos) (tCB (rTupA X.K) (tCons te tNil)) (mTupL ms) := by
  refine ⟨pe_callTy call_tuple_of hg hm hv (pa_cons h.pe pa_nil he) hn hdb he hpl, fun F G H σ ρ Q e sl p => ?_⟩
  refine h.sim.bind e sl p fun v ds ρ1 F1 G1 H1 e1 s1 sl1 r h1 => ?_
  obtain ⟨a, vs, rfl, hq, rr⟩ := r
  exact ⟨a, vs, rfl, .inl ⟨hq, fun l nl => h1 _ F1 _ _ (Stp.new e1 nl _).pure (sl1.pure (.new e1 nl _)) (.newTup (none_of e1 nl) rr)⟩⟩
theorem Ex.tupX {x : Str} {p : Pos} (hm : X.mg x = none) (hv : bootBuiltins x = some (.type "tuple")) (h : Li X W e te ms) (hg : Gl X x := by rfl) (hn : x ≠ "__name__" := by decide) (hdb : (x == ("__debug__" : Str)) = false := by decide)
    (he : starEach (e :: []) X.env = (false, eval e X.env) :: starEach [] X.env := by rfl) (hpl : (backTo pos (starEach [] X.env)).any (·.1) = false := by rfl) : Ex X W (.Call (.Name x p) [e] [] pos) (tCB (rTupX X.K) (tCons te tNil)) (mTupX ms) := by
  refine ⟨pe_callTy call_tupX hg hm hv (pa_cons h.pe pa_nil he) hn hdb he hpl, fun F G H σ ρ Q e sl p => ?_⟩
  refine h.sim.bind e sl p fun v ds ρ1 F1 G1 H1 e1 s1 sl1 r h1 => ?_
  obtain ⟨a, vs, rfl, hq, rr⟩ := r
  exact ⟨a, vs, rfl, hq, fun l o nl c z => h1 _ F1 _ _ (Stp.new e1 nl _).pure (sl1.pure (.new e1 nl _)) (.tupx upd_same c z rr.1 fun i v d a b => (rr.2 i v d a b).mono (same_upd (none_of e1 nl)))⟩

end
/-! numbers -/
def absC : List D → Option D
  | [.int i] => some (.int (if i < 0 then -i else i))
  | _ => none
def intC : List D → Option D
  | [.int i] => some (.int i)
  | [.bl k] => some (.int (if k then 1 else 0))
  | _ => none
def maxC : List D → Option D
  | [.int i, .int j] => some (.int (if j > i then j else i))
  | _ => none
def minC : List D → Option D
  | [.int i, .int j] => some (.int (if j < i then j else i))
  | _ => none
theorem repAll_1 {K : Frg} {G : Hp} {vs : List V} {d : D} (r : RepAll K G vs [d]) : ∃ v, vs = [v] ∧ Rep K G v d := by
  match vs, r with
  | [], r => exact absurd r.1 (by simp)
  | [v], r => exact ⟨v, rfl, r.head⟩
  | _ :: _ :: _, r => exact absurd r.1 (by simp)
theorem repAll_2 {K : Frg} {G : Hp} {vs : List V} {d d' : D} (r : RepAll K G vs [d, d']) : ∃ v v', vs = [v, v'] ∧ Rep K G v d ∧ Rep K G v' d' := by
  match vs, r with
  | [], r => exact absurd r.1 (by simp)
  | [v], r => exact absurd r.1 (by simp)
  | [v, v'], r => exact ⟨v, v', rfl, r.head, r.tail.head⟩
  | _ :: _ :: _ :: _, r => exact absurd r.1 (by simp)
theorem cd_abs {K : Frg} : CallD K (fun xs H Q => ∃ i, xs = [.int i] ∧ Q (.int (if i < 0 then -i else i)) H) 1 absC := by
  intro G H ds d vs Q e r hl hd k
  unfold absC at hd
  split at hd
  · cases hd
    obtain ⟨v, rfl, r1⟩ := repAll_1 r
    cases r1
    exact ⟨_, rfl, k _ G H (.refl e) (.int _)⟩
  · cases hd
theorem cd_int {K : Frg} : CallD K (fun xs H Q => (∃ i, xs = [.int i] ∧ Q (.int i) H) ∨ ∃ k, xs = [.bl k] ∧ Q (.int (if k then 1 else 0)) H) 1 intC := by
  intro G H ds d vs Q e r hl hd k
  unfold intC at hd
  split at hd
  · cases hd
    obtain ⟨v, rfl, r1⟩ := repAll_1 r
    cases r1
    exact .inl ⟨_, rfl, k _ G H (.refl e) (.int _)⟩
  · cases hd
    obtain ⟨v, rfl, r1⟩ := repAll_1 r
    cases r1
    exact .inr ⟨_, rfl, k _ G H (.refl e) (.int _)⟩
  · cases hd
theorem cd_max {K : Frg} : CallD K (fun xs H Q => ∃ i j, xs = [.int i, .int j] ∧ Q (.int (if j > i then j else i)) H) 2 maxC := by
  intro G H ds d vs Q e r hl hd k
  unfold maxC at hd
  split at hd
  · cases hd
    obtain ⟨v, v', rfl, r1, r2⟩ := repAll_2 r
    cases r1
    cases r2
    exact ⟨_, _, rfl, k _ G H (.refl e) (.int _)⟩
  · cases hd
theorem cd_min {K : Frg} : CallD K (fun xs H Q => ∃ i j, xs = [.int i, .int j] ∧ Q (.int (if j < i then j else i)) H) 2 minC := by
  intro G H ds d vs Q e r hl hd k
  unfold minC at hd
  split at hd
  · cases hd
    obtain ⟨v, v', rfl, r1, r2⟩ := repAll_2 r
    cases r1
    cases r2
    exact ⟨_, _, rfl, k _ G H (.refl e) (.int _)⟩
  · cases hd
/-! isinstance -/
def isTab (a n : Ty) : Bool := decide (a = n) || (decide (a = .bl) && decide (n = .int))
theorem isTab_ok (a n : Ty) : kitB a.name n.name = some (isTab a n) := by
  cases a <;> cases n <;> decide +kernel
/-- the classes above one -/
def baseTab (c : Nat) : List Nat := if c = 1 then [0] else if c = 3 then [2] else if c = 6 then [5] else if 17 ≤ c then [16] else []
def subB (c d : Nat) : Bool := decide (c = d) || (baseTab c).contains d
def tyN : D → Option Ty
  | .non => some .non
  | .bl _ => some .bl
  | .int _ => some .int
  | .str _ => some .str
  | .lst _ => some .lst
  | .scr _ => some .lst
  | .tup _ => some .tup
  | .tupx _ => some .tup
  | .dk _ => some .dct
  | .dt _ => some .dct
  | _ => none
/-- what is known of the classes cs -/
structure KitC (K : Frg) (cs : List Nat) : Prop where
  cl : ∀ c ∈ cs, Cls K (cadr K c) ∧ PySem.W.findIn K (.ref (cadr K c)) "__class__" = some (some (.builtin "object.__class__")) ∧ PySem.W.specialIn K (.builtin "object.__class__") "__get__" = some (some (.builtin "getset_descriptor.__get__")) ∧
    PySem.W.takesIn K (.builtin "object.__class__") = some true ∧ PySem.W.mroIn K (cadr K c) (.type "object") = some true
  ty : ∀ c ∈ cs, ∀ n : Ty, PySem.W.kitOne K (.ref (cadr K c)) (.type n.name) = some false
  own : ∀ c ∈ cs, ∀ n : Ty, PySem.W.kitOne K (.type n.name) (.ref (cadr K c)) = some false
  sub : ∀ c ∈ cs, ∀ d ∈ cs, PySem.W.kitOne K (.ref (cadr K c)) (.ref (cadr K d)) = some (subB c d)
def kindD (cs : List Nat) (d : D) : Option (Sum Ty Nat) := match d with
  | .obj k _ => if k ∈ cs then some (.inr k) else none
  | d => (tyN d).map .inl
def isK (cs : List Nat) : Sum Ty Nat → D → Option Bool
  | .inl a, .ty n => some (isTab a n)
  | .inr _, .ty _ => some false
  | .inl _, .cls c => if c ∈ cs then some false else none
  | .inr k, .cls c => if c ∈ cs then some (subB k c) else none
  | _, _ => none
def isAnyK (cs : List Nat) (kd : Sum Ty Nat) : List D → Option Bool
  | [] => some false
  | c :: r => match isK cs kd c, isAnyK cs kd r with
    | some a, some b => some (a || b)
    | _, _ => none
def isOne (cs : List Nat) (d c : D) : Option Bool := (kindD cs d).bind fun kd => isK cs kd c
def isAny (cs : List Nat) (d : D) (ts : List D) : Option Bool := (kindD cs d).bind fun kd => isAnyK cs kd ts
theorem tyx_of {K : Frg} {G H : Hp} (e : Same G H) {v : V} {d : D} {a : Ty} (h : tyN d = some a) (r : Rep K G v d) : TyX K H v (.type a.name) := by
  cases r with
  | non => cases h; exact .base .non
  | bl b => cases h; exact .base (.bl b)
  | int i => cases h; exact .base (.int i)
  | str x => cases h; exact .base (.str x)
  | lst s l _ => cases h; exact .base (.lst (e _ _ s))
  | tup s l _ =>
    cases h
    exact .base (.tup (e _ _ s))
  | tupx s c z l _ =>
    cases h
    exact .fTuple (e _ _ s)
  | obj s _ _ => cases h
  | dk s _ _ => cases h; exact .base (.dK (e _ _ s))
  | dt s _ _ => cases h; exact .base (.dT (e _ _ s))
  | scr s =>
    cases h
    rcases sqL_mono e s with (q | ⟨o, q⟩) | ⟨o, its, n, q, c, _⟩
    · exact .base (.lst q)
    · exact .base (.frz q)
    · exact .kList q c
  | ty n => cases h
  | cls c => cases h
  | xo0 s => cases h
  | xo s t l _ => cases h
theorem kind_ok {K : Frg} {cs : List Nat} (kc : KitC K cs) {G H : Hp} (e : Same G H) {v : V} {d : D} {kd : Sum Ty Nat} (h : kindD cs d = some kd) (r : Rep K G v d) :
    ∃ t, TyX K H v t ∧ ((∃ a, kd = .inl a ∧ t = .type a.name) ∨ ∃ k, kd = .inr k ∧ k ∈ cs ∧ t = .ref (cadr K k)) := by
  have fin : ∀ {a : Ty}, tyN d = some a → (tyN d).map Sum.inl = some kd → ∃ t, TyX K H v t ∧ ((∃ a, kd = .inl a ∧ t = .type a.name) ∨ ∃ k, kd = .inr k ∧ k ∈ cs ∧ t = .ref (cadr K k)) := by
    intro a q z
    rw [q] at z
    cases z
    exact ⟨_, tyx_of e q r, .inl ⟨_, rfl, rfl⟩⟩
  cases d with
  | obj k fs =>
    unfold kindD at h
    dsimp only at h
    split at h
    · rename_i hk
      cases h
      cases r with
      | obj s _ _ =>
        obtain ⟨h1, h2, h3, h4, h5⟩ := kc.cl k hk
        exact ⟨_, .base (.ins (e _ _ s) h1 h2 h3 h4 h5), .inr ⟨_, rfl, hk, rfl⟩⟩
    · cases h
  | ty n => cases h
  | cls c => cases h
  | xo c fs => cases h
  | _ => exact fin rfl h
def KdT (K : Frg) (cs : List Nat) (kd : Sum Ty Nat) (t : Value) : Prop := (∃ a, kd = .inl a ∧ t = .type a.name) ∨ ∃ k, kd = .inr k ∧ k ∈ cs ∧ t = .ref (cadr K k)
theorem isK_ok {K : Frg} {cs : List Nat} (kc : KitC K cs) {G : Hp} {kd : Sum Ty Nat} {t : Value} (kt : KdT K cs kd t) {u : V} {c : D} {b : Bool} (h : isK cs kd c = some b) (rc : Rep K G u c) : ∃ w, ClsV u w ∧ PySem.W.kitOne K t w = some b := by
  rcases kt with ⟨a, rfl, rfl⟩ | ⟨k, rfl, hk, rfl⟩
  · cases c with
    | ty n => cases h; cases rc; exact ⟨_, .ty _, kit_ty (isTab_ok _ _)⟩
    | cls c =>
      have h' : (if c ∈ cs then some false else none) = some b := h
      split at h'
      · rename_i hc
        cases h'; cases rc; exact ⟨_, .own _, kc.own _ hc _⟩
      · cases h'
    | _ => cases h
  · cases c with
    | ty n => cases h; cases rc; exact ⟨_, .ty _, kc.ty _ hk _⟩
    | cls c =>
      have h' : (if c ∈ cs then some (subB k c) else none) = some b := h
      split at h'
      · rename_i hc
        cases h'; cases rc; exact ⟨_, .own _, kc.sub _ hk _ hc⟩
      · cases h'
    | _ => cases h
theorem isAnyK_ok {K : Frg} {cs : List Nat} (kc : KitC K cs) {G : Hp} {kd : Sum Ty Nat} {t : Value} (kt : KdT K cs kd t) : ∀ {ts : List D} {us : List V} {b : Bool}, isAnyK cs kd ts = some b → RepAll K G us ts →
    ∃ ws, Paired ClsV us ws ∧ PySem.W.kitAny K t ws = some b
  | [], us, b, h, r => by
    cases h
    have : us = [] := List.length_eq_zero_iff.mp (by simpa using r.1)
    subst this
    exact ⟨[], .nil, kitAny_nil⟩
  | c :: ts, [], b, h, r => absurd r.1 (by simp)
  | c :: ts, u :: us, b, h, r => by
    unfold isAnyK at h
    cases q1 : isK cs kd c with
    | none => rw [q1] at h; cases h
    | some x =>
      cases q2 : isAnyK cs kd ts with
      | none => rw [q1, q2] at h; cases h
      | some y =>
        rw [q1, q2] at h; cases h
        obtain ⟨w, h1, h2⟩ := isK_ok kc kt q1 r.head
        obtain ⟨ws, h3, h4⟩ := isAnyK_ok kc kt q2 r.tail
        refine ⟨w :: ws, .cons h1 h3, kitAny_cons h2 (fun z => ?_) fun z => ?_⟩
        · rw [h4, z]; rfl
        · rw [z]; rfl
section
variable {X : Cx} {W : WX} {e a b c : Expr} {es rest : List Expr} {ta tb tc te : TE} {t tr : TA} {tt tu : TT} {ma mb mc me : M D} {mt mu : M Bool} {ms : M (List D)} {pos : Pos}
def isiC (cs : List Nat) : List D → Option D
  | [d, c] => (isOne cs d c).map .bl
  | _ => none
theorem cd_isi {K : Frg} {cs : List Nat} (kc : KitC K cs) : CallD K (rIsi K) 2 (isiC cs) := by
  intro G H ds d vs Q e r hl hd k
  unfold isiC at hd
  split at hd
  · rename_i d' c
    obtain ⟨v, u, rfl, rv, rc⟩ := repAll_2 r
    unfold isOne at hd
    cases q : kindD cs d' with
    | none => rw [q] at hd; cases hd
    | some kd =>
      rw [q] at hd
      cases q2 : isK cs kd c with
      | none => rw [show (some kd).bind (fun kd => isK cs kd c) = isK cs kd c from rfl, q2] at hd; cases hd
      | some b =>
        rw [show (some kd).bind (fun kd => isK cs kd c) = isK cs kd c from rfl, q2] at hd
        cases hd
        obtain ⟨t, ht, kt⟩ := kind_ok kc e q rv
        obtain ⟨w, h1, h2⟩ := isK_ok kc kt q2 rc
        exact ⟨v, u, t, w, b, rfl, h1, ht, h2, k _ G H (.refl e) (.bl _)⟩
  · cases hd
/-- isinstance(x, (A, B, ..)) -/
def mIsT (cs : List Nat) (ma : M D) (ms : M (List D)) : M D := fun ρ => bnd (ma ρ) fun d ρ1 => bnd (ms ρ1) fun ts ρ2 => retO ((isAny cs d ts).map .bl) ρ2
theorem sim_isT {K : Frg} {cs : List Nat} (kc : KitC K cs) (ha : Sim K W (relD K) ta ma) (h : Sim K W (relA K es.length) t ms) (hl : es.length ≤ 1000) : Sim K W (relD K) (tCB (rIsiT K) (tCons ta (tCons (tTup t) tNil))) (mIsT cs ma ms) := by
  intro F G H σ ρ Q e sl p
  refine ha.bind e sl p fun v d ρ1 F1 G1 H1 e1 s1 sl1 r h1 => ?_
  refine h.bind e1 sl1 h1 fun us ts ρ2 F2 G2 H2 e2 s2 sl2 rs h2 => ?_
  obtain ⟨x, hx, h2⟩ := h2.retO
  refine ⟨line_big (by rw [rs.2]; omega), fun q nq => ?_⟩
  unfold isAny at hx
  cases q1 : kindD cs d with
  | none => rw [q1] at hx; cases hx
  | some kd =>
    rw [q1] at hx
    cases q2 : isAnyK cs kd ts with
    | none => rw [show (some kd).bind (fun kd => isAnyK cs kd ts) = isAnyK cs kd ts from rfl, q2] at hx; cases hx
    | some b =>
      rw [show (some kd).bind (fun kd => isAnyK cs kd ts) = isAnyK cs kd ts from rfl, q2] at hx
      cases hx
      have st := Stp.heap e2 nq (.tup us)
      obtain ⟨t', ht, kt⟩ := kind_ok kc st.gh q1 (Rep.mono s2.gg r)
      obtain ⟨ws, h3, h4⟩ := isAnyK_ok kc kt q2 rs.1
      exact ⟨v, q, us, t', ws, b, rfl, upd_same, h3, ht, h4, h2 _ F2 G2 _ st.pure (sl2.pure st) (.bl _)⟩
theorem Ex.isiT {x : Str} {p : Pos} {k tp} {cs : List Nat} (kc : KitC X.K cs) (hm : X.mg x = none) (hv : bootBuiltins x = some (.builtin "isinstance")) (ha : Ex X W a ta ma) (h : As X W es t ms) (hl : es.length ≤ 1000 := by decide) (hg : Gl X x := by rfl) (hn : x ≠ "__name__" := by decide) (hdb : (x == ("__debug__" : Str)) = false := by decide)
    (he : starEach [a, .Tuple es k tp] X.env = (false, eval a X.env) :: starEach [.Tuple es k tp] X.env := by rfl) (he2 : starEach [.Tuple es k tp] X.env = (false, eval (.Tuple es k tp) X.env) :: starEach [] X.env := by rfl) (hpl : (backTo pos (starEach [.Tuple es k tp] X.env)).any (·.1) = false := by rfl) :
    Ex X W (.Call (.Name x p) [a, .Tuple es k tp] [] pos) (tCB (rIsiT X.K) (tCons ta (tCons (tTup t) tNil))) (mIsT cs ma ms) :=
  ⟨pe_callB call_isiT hg hm hv (pa_cons ha.pe (pa_cons (pe_tup h.pa) pa_nil he2) he) hn hdb he hpl, sim_isT kc ha.sim h.sim hl⟩
/-- a built-in class as a value -/
theorem Ex.tyB {x : Str} {n : Ty} (hm : X.mg x = none) (hv : bootBuiltins x = some (.type n.name)) (hg : Gl X x := by rfl) (hn : x ≠ "__name__" := by decide) (hd : (x == ("__debug__" : Str)) = false := by decide) : Ex X W (.Name x pos) (tC (.ty n.name)) (mC (.ty n)) :=
  Ex.cst (pe_bltn hg hm hv rfl hn hd) fun _ => .ty n
theorem Ex.clsG {x : Str} {c : Nat} (hm : X.mg x = some (.ref (cadr X.K c))) (hg : Gl X x := by rfl) (hd : (x == ("__debug__" : Str)) = false := by decide) : Ex X W (.Name x pos) (tC (.ref (cadr X.K c))) (mC (.cls c)) :=
  Ex.cst (pe_glob hg hm rfl hd) fun _ => .cls c
/-! ### items, slices, attributes -/
def ixD : D → D → Option D
  | .lst ds, .int i => atI ds i
  | .tup ds, .int i => atI ds i
  | .tupx ds, .int i => atI ds i
  | .scr ns, .int i => (atI ns i).map .int
  | _, _ => none
theorem atI_rep {K : Frg} {G : Hp} {vs : List V} {ds : List D} {i : Int} {d : D} (r : RepAll K G vs ds) (h : atI ds i = some d) : ∃ v, atI vs i = some v ∧ Rep K G v d := by
  unfold atI at h ⊢
  rw [r.1]
  cases q : ixN ds.length i with
  | none => rw [q] at h; cases h
  | some j =>
    rw [q] at h
    obtain ⟨v, e, r⟩ := r.get (show ds[j]? = some d from h)
    exact ⟨v, e, r⟩
theorem atI_map {α β : Type} (f : α → β) (xs : List α) (i : Int) : atI (xs.map f) i = (atI xs i).map f := by
  unfold atI
  rw [List.length_map]
  cases ixN xs.length i with
  | none => rfl
  | some j =>
    show (xs.map f)[j]? = (xs[j]?).map f
    rw [List.getElem?_map]
theorem od_ix {K : Frg} : OpD K (rIx K) ixD := by
  intro G H a b d x y Q e ra rb hf k
  unfold ixD at hf
  split at hf
  · obtain ⟨p, vs, rfl, s, r⟩ := repAll_of_lst ra
    cases rb
    obtain ⟨v, h1, h2⟩ := atI_rep r hf
    exact .inl ⟨p, vs, _, v, rfl, rfl, SqL.of (e _ _ s), h1, k _ G H (.refl e) h2⟩
  · obtain ⟨p, vs, rfl, s, r⟩ := repAll_of_tup ra
    cases rb
    obtain ⟨v, h1, h2⟩ := atI_rep r hf
    exact .inr (.inl ⟨p, vs, _, v, rfl, rfl, sqT_mono e s, h1, k _ G H (.refl e) h2⟩)
  · cases ra with
    | tupx s c z l rr =>
      cases rb
      obtain ⟨v, h1, h2⟩ := atI_rep ⟨l, rr⟩ hf
      exact .inr (.inl ⟨_, _, _, v, rfl, rfl, .inl (rd_mono e (.inr ⟨_, s⟩)), h1, k _ G H (.refl e) h2⟩)
  · rename_i ns i
    cases ra with
    | scr s =>
      cases rb
      cases q : atI ns i with
      | none => rw [q] at hf; cases hf
      | some n =>
        rw [q] at hf; cases hf
        exact .inl ⟨_, _, _, .int n, rfl, rfl, sqL_mono e s, by rw [atI_map, q]; rfl, k _ G H (.refl e) (.int n)⟩
  · cases hf
/-- an item of an owned row -/
def mIxO (i : Nat) (mb : M D) : M D := fun ρ => bnd (retO (ownL ρ i) ρ) fun _ ρ0 => bnd (mb ρ0) fun k ρ1 => retO ((ownL ρ1 i).bind fun ds => ixD (.lst ds) k) ρ1
theorem Ex.ixOwn (i : Nat) {x : Str} {xp : Pos} (hb : Ex X W b tb mb) (hs : PlainIx b := by exact fun _ _ => rfl) (hN : X.N[i]? = some x := by rfl) (hv : Vis X.env.scope x := by first | exact Or.inl rfl | exact Or.inr (Or.inl rfl) | exact Or.inr (Or.inr rfl)) (hd : (x == ("__debug__" : Str)) = false := by decide) (hcd : (x == ("__classdict__" : Str)) = false := by decide) :
    Ex X W (.Subscript (.Name x xp) b pos) (tOp (rIxL X.K) (tVar i) tb) (mIxO i mb) := by
  refine ⟨pe_ix ix_list (pe_var hN hv hd hcd) hb.pe hs, fun F G H σ ρ Q e sl p => ?_⟩
  cases q0 : ownL ρ i with
  | none => unfold mIxO at p; rw [q0] at p; exact p.elim
  | some ds0 =>
    have p' : Post X.K W σ (relD X.K) (fun b _ _ _ _ H' => Q b H') F G H (bnd (mb ρ) fun k ρ1 => retO ((ownL ρ1 i).bind fun ds => ixD (.lst ds) k) ρ1) := by
      unfold mIxO at p
      rw [q0] at p
      exact p
    obtain ⟨v, Fv0, hv, _, _⟩ := sl.own (ownL_eq q0)
    refine ⟨v, hv, ?_⟩
    refine hb.sim.bind e sl p' fun y k ρ1 F1 G1 H1 e1 s1 sl1 r h1 => ?_
    obtain ⟨d, hd, hz⟩ := h1.retO
    cases q : ownL ρ1 i with
    | none => rw [q] at hd; cases hd
    | some ds =>
      rw [q] at hd
      obtain ⟨v', Fv, e2, o, _⟩ := sl1.own (ownL_eq q)
      rw [hv] at e2
      cases e2
      obtain ⟨l, vs, rfl, e3, n, fp, rr⟩ := o.flat
      have hd' : ixD (.lst ds) k = some d := hd
      cases k with
      | int j =>
        cases r
        obtain ⟨w, h2, h3⟩ := atI_rep rr (show atI ds j = some d from hd')
        exact ⟨l, vs, _, w, rfl, rfl, SqL.of e3, h2, hz w F1 G1 H1 (.refl e1) sl1 h3⟩
      | _ => cases hd'
end
end MX

namespace MX
open PySem PySem.Spec PyProof.Rows L2
theorem Stp.freeze {F F' : Fp} {G H G' H' : Hp} {p : Addr} {o : HO} (s : Stp F G H F' G' H') (e : Same G H) (n : H p = none) (n' : G' p = none) (h : H' p = some o) : Stp F G H F' (upd G' p o) H' where
  gg := fun a u q => by rw [upd_ne (ne_of_none (e _ _ q) n)]; exact s.gg _ _ q
  gh := fun a u q => by
    by_cases c : a = p
    · subst c; rw [upd_same] at q; cases q; exact h
    · rw [upd_ne c] at q; exact s.gh _ _ q
  fr := s.fr
  th := s.th
  gn := fun a q q' => by
    by_cases c : a = p
    · subst c; exact .inl n
    · rw [upd_ne c] at q'; exact s.gn a q q'
  fn := s.fn
/-- an object of one's own, known to nobody, changes -/
theorem Stp.touch {F F' : Fp} {G H G' H' : Hp} {p : Addr} {o : HO} (s : Stp F G H F' G' H') (n : H p = none) (n' : G' p = none) : Stp F G H F' G' (upd H' p o) where
  gg := s.gg
  gh := fun a u q => by
    rw [upd_ne (ne_of_none q n')]
    exact s.gh _ _ q
  fr := fun a u q nf => by rw [upd_ne (ne_of_none q n)]; exact s.fr a u q nf
  th := fun a q => by
    by_cases c : a = p
    · subst c; exact n
    · rw [upd_ne c] at q; exact s.th a q
  gn := s.gn
  fn := s.fn
theorem Slots.touch {K : Frg} {F : Fp} {G H : Hp} {σ : L2.St} {ρ : Env} {p : Addr} (h : Slots K G H σ ρ F) (nf : ¬ F p) (n : G p = none) (o : HO) : Slots K G (upd H p o) σ ρ F := by
  obtain ⟨l, f, h1, h2, h3⟩ := h
  refine ⟨l, f, fun i t e => ?_, h2, h3⟩
  obtain ⟨v, e1, ow⟩ := h1 i t e
  refine ⟨v, e1, ow.stay (Same.refl G) (fun a u fa q => ?_) fun a u fa q n => n⟩
  rw [upd_ne (fun c : a = p => nf (by rw [← c]; exact h3 i a fa))]
  exact q
theorem Slots.frz {K : Frg} {F : Fp} {G H : Hp} {σ : L2.St} {ρ : Env} {p : Addr} {o : HO} (h : Slots K G H σ ρ F) (nf : ¬ F p) (n : G p = none) : Slots K (upd G p o) H σ ρ F := by
  obtain ⟨l, f, h1, h2, h3⟩ := h
  refine ⟨l, f, fun i t e => ?_, h2, h3⟩
  obtain ⟨v, e1, ow⟩ := h1 i t e
  refine ⟨v, e1, ow.stay (same_upd n) (fun a u fa q => q) fun a u fa q n => ?_⟩
  rw [upd_ne (fun c : a = p => nf (by rw [← c]; exact h3 i a fa))]
  exact n
/-! ### what is walked -/
def JOk (J : It) (K : Frg) (G0 : Hp) (ds : List D) : Prop := ds.length ≤ sizeLine ∧ ∀ (G H : Hp) (i : Nat), Same G0 G → Same G H →
  (∀ d, ds[i]? = some d → J.go i H ∧ ∀ x H', J.yld i H x H' → ∃ G', Stp F0 G H F0 G' H' ∧ Rep K G' x d) ∧ (ds.length ≤ i → J.stop i H)
def relJ (K : Frg) : Hp → Hp → It → List D → Prop := fun G _ J ds => JOk J K G ds
structure Src (X : Cx) (W : WX) (tg iter : Expr) (wi : TI) (m : M (List D)) : Prop where
  pi : PI X tg iter wi
  sim : Sim X.K W (relJ X.K) wi m
def iSeq (K : Frg) (tl : TE) : TI := fun σ H R => tl σ H fun x H1 => ∃ a, x = .ref a ∧ ((∃ xs, SqL K H1 a xs ∧ (xs.length ≤ sizeLine → R (Itl K a) H1)) ∨ (∃ xs, SqT K H1 a xs ∧ (xs.length ≤ sizeLine → R (Itt K a) H1)))
section
variable {X : Cx} {W : WX} {tg e a b c : Expr} {es rest ifs : List Expr} {g : TG} {ta tb tc te : TE} {t tr : TA} {tt tu : TT} {ma mb mc me : M D} {mt mu : M Bool} {ms : M (List D)} {pos : Pos} {wi : TI}
theorem it_new {pins : List (Addr × Obj)} {σ : L2.St} {Hz : Hp} {sz : Shared} (J : Inv X pins σ Hz sz) : ∀ z ∈ [sz.heap.objs.size], FpOk X pins Hz z := by
  intro z hz
  cases List.mem_singleton.mp hz
  exact J.fpOk (Nat.le_refl _) (J.hok.fresh (Nat.le_refl _))
theorem pi_seq {l : Expr} {tl : TE} (hl : PE X l tl) : PI X tg l (iSeq X.K tl) := by
  constructor
  intro pins sa σ Ha R Ja hw
  refine thn (hl.run pins sa σ Ha _ Ja hw) ?_
  rintro v sb ⟨y, Hb, Jb, ry, a, rfl, q⟩
  obtain rfl : v = Value.ref a := ry
  rcases q with ⟨xs, hs, q⟩ | ⟨xs, hs, q⟩
  · obtain ⟨us, _, pl, hz⟩ := Jb.list hs
    exact wpAny_pyIter_list pl.isList ⟨_, [sb.heap.objs.size], _, _, Hb, rfl, Jb.kept (t' := sb.toks) fun _ _ w => Heap.get?_push_of_some _ w, turn_list a _, ⟨_, Heap.get?_push_size _ rfl, rfl, rfl⟩, it_new Jb, q hz⟩
  · obtain ⟨us, _, pl, hz⟩ := Jb.tuple hs
    exact wpAny_pyIter_tuple (show sb.heap.IsTuple a us.toArray from pl) ⟨_, [sb.heap.objs.size], _, _, Hb, rfl, Jb.kept (t' := sb.toks) fun _ _ w => Heap.get?_push_of_some _ w, turn_tuple a _, ⟨_, Heap.get?_push_size _ rfl, rfl, rfl⟩, it_new Jb, q hz⟩
theorem jok_list {K : Frg} {G0 : Hp} {a : Addr} {vs : List V} {ds : List D} (hz : vs.length ≤ sizeLine) (h : ∀ G H, Same G0 G → Same G H → SqL K H a vs) (r : RepAll K G0 vs ds) : JOk (Itl K a) K G0 ds := by
  refine ⟨by rw [← r.1]; exact hz, fun G H i e0 e => ⟨fun d hd => ?_, fun hi => ⟨vs, h G H e0 e, by rw [r.1]; exact hi⟩⟩⟩
  obtain ⟨v, hv, rv⟩ := r.get hd
  refine ⟨⟨vs, v, h G H e0 e, hv⟩, fun x H' ⟨e', q⟩ => ?_⟩
  subst e'
  have := q vs (h G H' e0 e)
  rw [hv] at this
  cases this
  exact ⟨G, .refl e, rv.mono e0⟩
theorem jok_tup {K : Frg} {G0 : Hp} {a : Addr} {vs : List V} {ds : List D} (hz : vs.length ≤ sizeLine) (h : ∀ G H, Same G0 G → Same G H → SqT K H a vs) (r : RepAll K G0 vs ds) : JOk (Itt K a) K G0 ds := by
  refine ⟨by rw [← r.1]; exact hz, fun G H i e0 e => ⟨fun d hd => ?_, fun hi => ⟨vs, h G H e0 e, by rw [r.1]; exact hi⟩⟩⟩
  obtain ⟨v, hv, rv⟩ := r.get hd
  refine ⟨⟨vs, v, h G H e0 e, hv⟩, fun x H' ⟨e', q⟩ => ?_⟩
  subst e'
  have := q vs (h G H' e0 e)
  rw [hv] at this
  cases this
  exact ⟨G, .refl e, rv.mono e0⟩
theorem Src.seq (h : Ex X W e te me) : Src X W tg e (iSeq X.K te) (mSeq me) := by
  refine ⟨pi_seq h.pe, fun F G H σ ρ R e sl p => ?_⟩
  refine h.sim.bind e sl p fun v d ρ1 F1 G1 H1 e1 s1 sl1 r h1 => ?_
  obtain ⟨ds, hd, h1⟩ := h1.retO
  cases d with
  | lst xs =>
    cases hd
    obtain ⟨a, vs, rfl, s, r⟩ := repAll_of_lst r
    refine ⟨a, rfl, .inl ⟨vs, SqL.of (e1 _ _ s), fun hz => ?_⟩⟩
    exact h1 _ F1 G1 H1 (.refl e1) sl1 (jok_list hz (fun G H a b => SqL.of (b _ _ (a _ _ s))) r)
  | tup xs =>
    cases hd
    obtain ⟨a, vs, rfl, s, r⟩ := repAll_of_tup r
    refine ⟨a, rfl, .inr ⟨vs, sqT_mono e1 s, fun hz => ?_⟩⟩
    exact h1 _ F1 G1 H1 (.refl e1) sl1 (jok_tup hz (fun G H a b => sqT_mono b (sqT_mono a s)) r)
  | tupx xs =>
    cases hd
    cases r with
    | tupx s c z l rr =>
      refine ⟨_, rfl, .inr ⟨_, .inl (rd_mono e1 (.inr ⟨_, s⟩)), fun hz => ?_⟩⟩
      exact h1 _ F1 G1 H1 (.refl e1) sl1 (jok_tup hz (fun G H a b => .inl (rd_mono b (rd_mono a (.inr ⟨_, s⟩)))) ⟨l, rr⟩)
  | scr ns =>
    cases hd
    cases r with
    | scr s =>
      refine ⟨_, rfl, .inl ⟨ns.map V.int, sqL_mono e1 s, fun hz => ?_⟩⟩
      exact h1 _ F1 G1 H1 (.refl e1) sl1 (jok_list hz (fun G H a b => sqL_mono b (sqL_mono a s)) (ints_repAll ns))
  | _ => cases hd
def rngL (lo : Int) (n : Nat) : List D := (List.range n).map fun (k : Nat) => .int (lo + (k : Int))
theorem jok_range {K : Frg} {G0 : Hp} {lo : Int} {n : Nat} (h : n ≤ 1000000) : JOk (Itr lo n) K G0 (rngL lo n) := by
  refine ⟨by rw [rngL, List.length_map, List.length_range]; exact line_big h, fun G H i e0 e => ⟨fun d hd => ?_, fun hi => ?_⟩⟩
  · unfold rngL at hd
    rw [List.getElem?_map] at hd
    have hi : i < n := by
      cases q : (List.range n)[i]? with
      | none => rw [q] at hd; cases hd
      | some k => simpa using (List.getElem?_eq_some_iff.mp q).1
    rw [List.getElem?_range hi] at hd
    cases hd
    refine ⟨hi, fun x H' ⟨e', q⟩ => ?_⟩
    subst e'
    subst q
    exact ⟨G, .refl e, .int _⟩
  · rw [rngL, List.length_map, List.length_range] at hi
    exact hi
def rngC : List D → Option (List D)
  | [.int j] => if j ≤ 1000000 ∧ -1000000 ≤ j then some (rngL 0 j.toNat) else none
  | [.int i, .int j] => if (-1000000 ≤ i ∧ i ≤ 1000000) ∧ (-1000000 ≤ j ∧ j ≤ 1000000) ∧ j - i ≤ 1000000 then some (rngL i (j - i).toNat) else none
  | _ => none
def mRng (ms : M (List D)) : M (List D) := fun ρ => bnd (ms ρ) fun ds ρ1 => retO (rngC ds) ρ1
theorem Src.range1 {p pos : Pos} (hm : X.mg "range" = none) (ha : As X W [a] t ms) (hg : Gl X "range" := by rfl) (hs : starEach [a] X.env = [(false, eval a X.env)] := by rfl) : Src X W tg (.Call (.Name "range" p) [a] [] pos) (iRng1 t) (mRng ms) := by
  refine ⟨pi_range1 hg hm ha.pa hs, fun F G H σ ρ R e sl p => ?_⟩
  refine ha.sim.bind e sl p fun vs ds ρ1 F1 G1 H1 e1 s1 sl1 r h1 => ?_
  obtain ⟨xs, hd, h2⟩ := h1.retO
  have hl : ds.length = 1 := by rw [← r.1.1, r.2]; rfl
  match ds, hl with
  | [d], _ =>
    obtain ⟨v, rfl, rv⟩ := repAll_1 r.1
    cases d with
    | int j =>
      cases rv
      have hd' : (if j ≤ 1000000 ∧ -1000000 ≤ j then some (rngL 0 j.toNat) else none) = some xs := hd
      split at hd'
      · rename_i hb
        cases hd'
        exact ⟨j, rfl, by omega, by omega, h2 _ F1 G1 H1 (.refl e1) sl1 (jok_range (by omega))⟩
      · cases hd'
    | _ => cases hd
theorem Src.range2 {p pos : Pos} (hm : X.mg "range" = none) (ha : As X W [a, b] t ms) (hg : Gl X "range" := by rfl) (hs : starEach [a, b] X.env = [(false, eval a X.env), (false, eval b X.env)] := by rfl) (hs2 : starEach [b] X.env = [(false, eval b X.env)] := by rfl) : Src X W tg (.Call (.Name "range" p) [a, b] [] pos) (iRng2 t) (mRng ms) := by
  refine ⟨pi_range2 hg hm ha.pa hs hs2, fun F G H σ ρ R e sl p => ?_⟩
  refine ha.sim.bind e sl p fun vs ds ρ1 F1 G1 H1 e1 s1 sl1 r h1 => ?_
  obtain ⟨xs, hd, h2⟩ := h1.retO
  have hl : ds.length = 2 := by rw [← r.1.1, r.2]; rfl
  match ds, hl with
  | [d, d'], _ =>
    obtain ⟨v, v', rfl, rv, rv'⟩ := repAll_2 r.1
    cases d with
    | int i =>
      cases d' with
      | int j =>
        cases rv
        cases rv'
        have hd' : (if (-1000000 ≤ i ∧ i ≤ 1000000) ∧ (-1000000 ≤ j ∧ j ≤ 1000000) ∧ j - i ≤ 1000000 then some (rngL i (j - i).toNat) else none) = some xs := hd
        split at hd'
        · rename_i hb
          cases hd'
          exact ⟨i, j, rfl, ⟨by omega, by omega, by omega, by omega⟩, h2 _ F1 G1 H1 (.refl e1) sl1 (jok_range (by omega))⟩
        · cases hd'
      | _ => cases hd
    | _ => cases hd
/-! ### targets -/
def SimG (K : Frg) (js : List Nat) (g : TG) (bd : D → Env → Option Env) : Prop := ∀ (F : Fp) (G H : Hp) (σ : L2.St) (ρ ρ' : Env) (v : V) (d : D) (Q : L2.St → Hp → Prop), Same G H → Slots K G H σ ρ F → Rep K G v d → bd d ρ = some ρ' →
  (∀ σ', Slots K G H σ' ρ' F → σ'.length = σ.length → (∀ j, j ∉ js → σ'[j]? = σ[j]?) → Q σ' H) → g v σ H Q
structure Tg (X : Cx) (tg : Expr) (js : List Nat) (g : TG) (bd : D → Env → Option Env) : Prop where
  pg : PG X tg g
  sim : SimG X.K js g bd
def bN (i : Nat) (d : D) (ρ : Env) : Option Env := some (ρ.set i (some (.im d)))
theorem Tg.name (i : Nat) {x : Str} (hN : X.N.Nodup) (hi : X.N[i]? = some x := by rfl) (hx : Loc X.env.scope x := by first | exact Or.inl rfl | exact Or.inr rfl) (hf : X.fn x = true ∨ X.env.scope.names.lookup x = some .local := by first | exact .inl rfl | exact .inr rfl) : Tg X (.Name x pos) [i] (gName i) (bN i) := by
  refine ⟨pg_name hN hi hx hf, fun F G H σ ρ ρ' v d Q e sl r hb k => ?_⟩
  cases hb
  refine k _ (sl.setIm r i) (by simp) fun j hj => ?_
  rw [List.getElem?_set_ne (fun z => hj (by rw [z]; simp))]
/-- two, three names in a row -/
def bds : List (D → Env → Option Env) → List D → Env → Option Env
  | [], [], ρ => some ρ
  | b :: bs, d :: ds, ρ => (b d ρ).bind fun ρ1 => bds bs ds ρ1
  | _, _, _ => none
def bT (bs : List (D → Env → Option Env)) (d : D) (ρ : Env) : Option Env := match d with
  | .tup ds => bds bs ds ρ
  | _ => none
def SimGs (K : Frg) (js : List Nat) (g : TGs) (bs : List (D → Env → Option Env)) : Prop := ∀ (F : Fp) (G H : Hp) (σ : L2.St) (ρ ρ' : Env) (vs : List V) (ds : List D) (Q : L2.St → Hp → Prop), Same G H → Slots K G H σ ρ F → RepAll K G vs ds → bds bs ds ρ = some ρ' →
  (∀ σ', Slots K G H σ' ρ' F → σ'.length = σ.length → (∀ j, j ∉ js → σ'[j]? = σ[j]?) → Q σ' H) → g vs σ H Q
structure Tgs (X : Cx) (es : List Expr) (js : List Nat) (g : TGs) (bs : List (D → Env → Option Env)) : Prop where
  pg : PGs X es g
  sim : SimGs X.K js g bs
  len : bs.length = es.length
theorem Tgs.nil : Tgs X [] [] gNil [] := by
  refine ⟨pgs_nil, fun F G H σ ρ ρ' vs ds Q e sl r hb k => ?_, rfl⟩
  cases ds with
  | cons d ds => cases hb
  | nil =>
    cases hb
    have : vs = [] := List.length_eq_zero_iff.mp (by simpa using r.1)
    subst this
    exact ⟨rfl, k σ sl rfl fun _ _ => rfl⟩
theorem Tgs.cons {js ks : List Nat} {gs : TGs} {bd : D → Env → Option Env} {bs : List (D → Env → Option Env)} (h : Tg X e js g bd) (hr : Tgs X es ks gs bs) (hs : (assignEach (e :: es) X.env).map (·.2) = assign e X.env :: (assignEach es X.env).map (·.2) := by rfl) : Tgs X (e :: es) (js ++ ks) (gCons g gs) (bd :: bs) := by
  refine ⟨pgs_cons h.pg hr.pg hs, fun F G H σ ρ ρ' vs ds Q e sl r hb k => ?_, by simp [hr.len]⟩
  cases ds with
  | nil => cases hb
  | cons d ds =>
    cases vs with
    | nil => exact absurd r.1 (by simp)
    | cons v vs =>
      have hb' : (bd d ρ).bind (fun ρ1 => bds bs ds ρ1) = some ρ' := hb
      cases q : bd d ρ with
      | none => rw [q] at hb'; cases hb'
      | some ρ1 =>
        rw [q] at hb'
        refine ⟨v, vs, rfl, h.sim F G H σ ρ ρ1 v d _ e sl r.head q fun σ1 sl1 l1 u1 => ?_⟩
        refine hr.sim F G H σ1 ρ1 ρ' vs ds _ e sl1 r.tail hb' fun σ2 sl2 l2 u2 => k σ2 sl2 (l2.trans l1) fun j hj => ?_
        rw [u2 j (fun z => hj (List.mem_append_right _ z)), u1 j (fun z => hj (List.mem_append_left _ z))]
theorem bds_len : ∀ {bs : List (D → Env → Option Env)} {ds : List D} {ρ ρ' : Env}, bds bs ds ρ = some ρ' → ds.length = bs.length
  | [], [], _, _, _ => rfl
  | [], _ :: _, _, _, h => by cases h
  | _ :: _, [], _, _, h => by cases h
  | b :: bs, d :: ds, ρ, ρ', h => by
    have h' : (b d ρ).bind (fun ρ1 => bds bs ds ρ1) = some ρ' := h
    cases q : b d ρ with
    | none => rw [q] at h'; cases h'
    | some ρ1 => rw [q] at h'; rw [List.length_cons, List.length_cons, bds_len h']
theorem Tg.tup {js : List Nat} {gs : TGs} {bs : List (D → Env → Option Env)} {k : Nat} (hc : X.calm = true) (h : Tgs X es js gs bs) (hn : (assignEach es X.env).length = es.length := by rfl) (hst : (assignEach es X.env).findIdx? (·.1) = none := by rfl) : Tg X (.Tuple es k pos) js (gTup X.K es.length gs) (bT bs) := by
  refine ⟨pg_tup hc h.pg hn hst, fun F G H σ ρ ρ' v d Q e sl r hb kk => ?_⟩
  cases d with
  | tup ds =>
    obtain ⟨a, vs, rfl, s, r⟩ := repAll_of_tup r
    exact ⟨a, vs, rfl, sqT_mono e s, by rw [r.1, bds_len (show bds bs ds ρ = some ρ' from hb), h.len], h.sim F G H σ ρ ρ' vs ds Q e sl r hb kk⟩
  | _ => cases hb
end
end MX

namespace MX
open PySem PySem.Spec PyProof.Rows L2
/-! ### list comprehensions -/
def okO {α : Type} (r : Option (Res α × Env)) : Option (α × Env) := match r with
  | some (.ok a, ρ) => some (a, ρ)
  | _ => none
@[simp] theorem okO_ret {α : Type} (a : α) (ρ : Env) : okO (ret a ρ) = some (a, ρ) := rfl
@[simp] theorem okO_some {α : Type} (a : α) (ρ : Env) : okO (some (Res.ok a, ρ)) = some (a, ρ) := rfl
theorem post_ok {α β : Type} {K : Frg} {W : WX} {σ : L2.St} {rel : Hp → Hp → β → α → Prop} {Φ : β → α → Env → Fp → Hp → Hp → Prop} {F : Fp} {G H : Hp} {r : Option (Res α × Env)} {a : α} {ρ' : Env} (h : okO r = some (a, ρ'))
    (k : ∀ b F' G' H', Stp F G H F' G' H' → Slots K G' H' σ ρ' F' → rel G' H' b a → Φ b a ρ' F' G' H') : Post K W σ rel Φ F G H r := by
  match r, h with
  | some (.ok a, ρ), h => cases h; exact k
def wipeE (ρ : Env) : List Nat → Env
  | [] => ρ
  | v :: vs => (wipeE ρ vs).set v none
def restE (ρ1 : Env) : List Nat → Env → Env
  | [], ρ => ρ
  | v :: vs, ρ => (restE ρ1 vs ρ).set v (match ρ1[v]? with
    | some (some (.im d)) => some (.im d)
    | _ => none)
def lcM (vs : List Nat) (bd : D → Env → Option Env) (mt : M Bool) (me : M D) : List D → Env → Option (List D × Env)
  | [], ρ => some ([], ρ)
  | d :: ds, ρ => (bd d (wipeE ρ vs)).bind fun ρ1 => (okO (mt ρ1)).bind fun b => if b.1 = true then (okO (me b.2)).bind fun y => (lcM vs bd mt me ds y.2).map fun r => (y.1 :: r.1, r.2) else lcM vs bd mt me ds b.2
def mLcN (ms : M (List D)) (vs : List Nat) (bd : D → Env → Option Env) (mt : M Bool) (me : M D) : M (List D) := fun ρ => bnd (ms ρ) fun ds ρ1 => match lcM vs bd mt me ds ρ1 with
  | some r => ret r.1 (restE ρ1 vs r.2)
  | none => none
def mFz (m : M (List D)) : M D := fun ρ => bnd (m ρ) fun ds ρ1 => ret (.lst ds) ρ1
/-- a row that was just made, nobody's yet -/
def PostN (K : Frg) (W : WX) (σ : L2.St) (Q : VK) (F : Fp) (G H : Hp) : Option (Res (List D) × Env) → Prop
  | none => False
  | some (.ok ds, ρ') => ∀ p vs F' G' H', Stp F G H F' G' H' → Slots K G' H' σ ρ' F' → H' p = some (.lst vs) → G' p = none → ¬ F' p → H p = none → RepAll K G' vs ds → Q (.ref p) H'
  | some (.exc C fs, ρ') => ∀ x F' G' H', Stp F G H F' G' H' → Slots K G' H' σ ρ' F' → ExcAt K G' H' x fs → W (.ref (cadr K C)) x σ H'
def SimN (K : Frg) (W : WX) (t : TE) (m : M (List D)) : Prop := ∀ (F : Fp) (G H : Hp) (σ : L2.St) (ρ : Env) (Q : VK), Same G H → Slots K G H σ ρ F → PostN K W σ Q F G H (m ρ) → t σ H Q
structure Nw (X : Cx) (W : WX) (e : Expr) (t : TE) (m : M (List D)) : Prop where
  pe : PE X e t
  sim : SimN X.K W t m
theorem PostN.mono {K : Frg} {W : WX} {σ : L2.St} {Q : VK} {F F1 : Fp} {G H G1 H1 : Hp} {r : Option (Res (List D) × Env)} (s : Stp F G H F1 G1 H1) (h : PostN K W σ Q F G H r) : PostN K W σ Q F1 G1 H1 r := by
  match r, h with
  | some (.ok a, ρ'), h => exact fun p vs F' G' H' st sl a b c d => h p vs F' G' H' (s.trans st) sl a b c (s.th _ d)
  | some (.exc C fs, ρ'), h => exact fun x F' G' H' st => h x F' G' H' (s.trans st)
theorem Sim.bindN {α β : Type} {K : Frg} {W : WX} {rel : Hp → Hp → β → α → Prop} {t : L2.St → Hp → (β → Hp → Prop) → Prop} {m : M α} (ht : Sim K W rel t m) {F : Fp} {G H : Hp} {σ : L2.St} {ρ : Env} {Q : β → Hp → Prop} {QN : VK} {f : α → Env → Option (Res (List D) × Env)}
    (e : Same G H) (sl : Slots K G H σ ρ F) (h : PostN K W σ QN F G H (bnd (m ρ) f))
    (k : ∀ b a ρ' F' G' H', Same G' H' → Stp F G H F' G' H' → Slots K G' H' σ ρ' F' → rel G' H' b a → PostN K W σ QN F' G' H' (f a ρ') → Q b H') : t σ H Q := by
  refine ht F G H σ ρ Q e sl ?_
  revert h
  cases m ρ with
  | none => exact fun h => h
  | some r =>
    obtain ⟨a, ρ'⟩ := r
    cases a with
    | ok a => exact fun h b F' G' H' st sl' r => k b a ρ' F' G' H' st.gh st sl' r (PostN.mono st h)
    | exc C fs => exact fun h x F' G' H' st sl' ex => h x F' G' H' st sl' ex
structure Ts (X : Cx) (W : WX) (ifs : List Expr) (t : TT) (m : M Bool) : Prop where
  pt : PTs X ifs t
  sim : Sim X.K W relB t m
def mYes : M Bool := fun ρ => ret true ρ
def WF : WX := fun _ _ _ _ => False
theorem takesF {X : Cx} : Takes X WF := takes0
section
variable {X : Cx} {W : WX} {tg iter e a b c : Expr} {es rest ifs : List Expr} {g : TG} {ta tb tc te : TE} {t tr : TA} {tt tu : TT} {ma mb mc me : M D} {mt mu : M Bool} {ms : M (List D)} {pos : Pos} {wi : TI}
theorem Ts.nil : Ts X W [] tYes mYes := ⟨pts_nil, fun F G H σ ρ Q e sl h => Post.here (K := X.K) (rel := relB) h e sl rfl⟩
theorem Ts.one (h : Te X W a tt mt) : Ts X W [a] tt mt := ⟨pts_one h.pt, h.sim⟩
theorem Slots.wipe {K : Frg} {F : Fp} {G H : Hp} {σ : L2.St} {ρ : Env} (h : Slots K G H σ ρ F) : ∀ vs : List Nat, Slots K G H (L2.wipe σ vs) (wipeE ρ vs) F
  | [] => h
  | v :: vs => (Slots.wipe h vs).drop v none
theorem wipe_at {σ : L2.St} {i : Nat} : ∀ {vs : List Nat}, (L2.wipe σ vs)[i]? = if i ∈ vs ∧ i < σ.length then some none else σ[i]?
  | [] => by simp [L2.wipe]
  | v :: vs => by
    have ih := wipe_at (σ := σ) (i := i) (vs := vs)
    unfold L2.wipe
    by_cases c : v = i
    · subst c
      by_cases hl : v < σ.length
      · rw [List.getElem?_set_self (by rw [wipe_length]; exact hl), if_pos ⟨List.mem_cons_self, hl⟩]
      · rw [List.getElem?_eq_none (by rw [List.length_set, wipe_length]; omega), if_neg (fun z => hl z.2), List.getElem?_eq_none (by omega)]
    · rw [List.getElem?_set_ne c, ih]
      by_cases m : i ∈ vs ∧ i < σ.length
      · rw [if_pos m, if_pos ⟨List.mem_cons_of_mem _ m.1, m.2⟩]
      · rw [if_neg m, if_neg]
        rintro ⟨z, hl⟩
        rcases List.mem_cons.mp z with q | q
        · exact c q.symm
        · exact m ⟨q, hl⟩
theorem wipe_same {σ τ : L2.St} {vs js : List Nat} (hl : τ.length = σ.length) (h : ∀ j, j ∉ js → τ[j]? = σ[j]?) (hj : ∀ j ∈ js, j ∈ vs) : L2.wipe τ vs = L2.wipe σ vs := by
  apply List.ext_getElem?
  intro i
  rw [wipe_at, wipe_at, hl]
  by_cases m : i ∈ vs ∧ i < σ.length
  · rw [if_pos m, if_pos m]
  · rw [if_neg m, if_neg m]
    by_cases q : i ∈ js
    · have := hj i q
      have hi : ¬ i < σ.length := fun z => m ⟨this, z⟩
      rw [List.getElem?_eq_none (by omega), List.getElem?_eq_none (by omega)]
    · exact h i q
theorem wipe_wipe {σ : L2.St} {vs : List Nat} : L2.wipe (L2.wipe σ vs) vs = L2.wipe σ vs := by
  apply List.ext_getElem?
  intro i
  rw [wipe_at, wipe_at, wipe_length]
  split <;> rfl
theorem wipeE_length (ρ : Env) : ∀ vs : List Nat, (wipeE ρ vs).length = ρ.length
  | [] => rfl
  | v :: vs => by unfold wipeE; rw [List.length_set, wipeE_length ρ vs]
theorem wipeE_out {ρ : Env} {i : Nat} : ∀ {vs : List Nat}, i ∉ vs → (wipeE ρ vs)[i]? = ρ[i]?
  | [], _ => rfl
  | v :: vs, h => by
    unfold wipeE
    rw [List.getElem?_set_ne (fun z => h (by rw [z]; exact List.mem_cons_self)), wipeE_out (fun z => h (List.mem_cons_of_mem _ z))]
theorem restE_length (ρ1 : Env) : ∀ (vs : List Nat) (ρ : Env), (restE ρ1 vs ρ).length = ρ.length
  | [], _ => rfl
  | v :: vs, ρ => by unfold restE; rw [List.length_set, restE_length ρ1 vs ρ]
theorem restE_out {ρ1 : Env} {i : Nat} : ∀ {vs : List Nat} {ρ : Env}, i ∉ vs → (restE ρ1 vs ρ)[i]? = ρ[i]?
  | [], _, _ => rfl
  | v :: vs, ρ, h => by
    unfold restE
    rw [List.getElem?_set_ne (fun z => h (by rw [z]; exact List.mem_cons_self)), restE_out (fun z => h (List.mem_cons_of_mem _ z))]
theorem restE_in {ρ1 : Env} {i : Nat} {t : T} : ∀ {vs : List Nat} {ρ : Env}, i ∈ vs → (restE ρ1 vs ρ)[i]? = some (some t) → ∃ d, t = .im d ∧ ρ1[i]? = some (some (.im d))
  | v :: vs, ρ, hm, h => by
    unfold restE at h
    by_cases c : v = i
    · subst c
      by_cases hl : v < (restE ρ1 vs ρ).length
      · rw [List.getElem?_set_self hl] at h
        split at h
        · rename_i d q
          cases h
          exact ⟨d, rfl, q⟩
        · cases h
      · rw [List.getElem?_eq_none (by rw [List.length_set]; omega)] at h
        cases h
    · rw [List.getElem?_set_ne c] at h
      rcases List.mem_cons.mp hm with q | q
      · exact absurd q.symm c
      · exact restE_in q h
theorem Slots.back {K : Frg} {F F1 : Fp} {G H G1 H1 : Hp} {σ : L2.St} {ρ ρ1 : Env} {vs : List Nat} (h : Slots K G H (L2.wipe σ vs) (wipeE ρ vs) F) (h1 : Slots K G1 H1 σ ρ1 F1) (e : Same G1 G) : Slots K G H σ (restE ρ1 vs ρ) F := by
  obtain ⟨l, f, g1, g2, g3⟩ := h
  refine ⟨by rw [restE_length, ← wipe_length σ vs, l, wipeE_length], fun i a => f i a, fun i t q => ?_, g2, g3⟩
  by_cases m : i ∈ vs
  · obtain ⟨d, rfl, q1⟩ := restE_in m q
    obtain ⟨v, e1, r⟩ := h1.at q1
    exact ⟨v, e1, .im (r.mono e)⟩
  · rw [restE_out m, ← wipeE_out m] at q
    obtain ⟨v, e1, o⟩ := g1 i t q
    rw [wipe_at, if_neg (fun z => m z.1)] at e1
    exact ⟨v, e1, o⟩
theorem Slots.len {K : Frg} {F : Fp} {G H : Hp} {σ : L2.St} {ρ : Env} (h : Slots K G H σ ρ F) : σ.length = ρ.length := h.1
/-- what holds ahead of turn i, the new list at D -/
structure LcI (K : Frg) (σ : L2.St) (vs : List Nat) (bd : D → Env → Option Env) (mt : M Bool) (me : M D) (ds : List D) (F1 : Fp) (G1 H1 : Hp) (fin : List D) (ρf : Env) (D : Addr) (i : Nat) (H : Hp) : Prop where
  ex : ∃ (F' : Fp) (G' : Hp) (ρ' : Env) (acc : List V) (accd rest : List MX.D), Stp F1 G1 H1 F' G' H ∧ Slots K G' H (L2.wipe σ vs) (wipeE ρ' vs) F' ∧ H D = some (.lst acc) ∧ G' D = none ∧ ¬ F' D ∧ RepAll K G' acc accd ∧ acc.length ≤ i ∧
    lcM vs bd mt me (ds.drop i) ρ' = some (rest, ρf) ∧ fin = accd ++ rest
theorem sim_lc {K : Frg} {js vs : List Nat} {bd : D → Env → Option Env} (hi : Sim K W (relJ K) wi ms) (hg : SimG K js g bd) (ht : Sim K WF relB tt mt) (he : Sim K WF (relD K) te me) (hj : ∀ j ∈ js, j ∈ vs) : SimN K W (tLc wi g tt te vs) (mLcN ms vs bd mt me) := by
  intro F G H σ ρ Q e sl p
  refine hi.bindN e sl p fun J ds ρ1 F1 G1 H1 e1 s1 sl1 jk h1 => ?_
  intro D nD
  cases q : lcM vs bd mt me ds ρ1 with
  | none => rw [q] at h1; exact h1.elim
  | some r =>
    obtain ⟨fin, ρf⟩ := r
    rw [q] at h1
    have nG : G1 D = none := none_of e1 nD
    have hlen : ds.length ≤ sizeLine := jk.1
    refine ⟨fun i m H => i + m = ds.length ∧ LcI K σ vs bd mt me ds F1 G1 H1 fin ρf D i H, ⟨ds.length, by omega, ?_⟩, ?_⟩
    · have nF : Slots K G1 H1 σ ρ1 (fun a => F1 a ∧ H1 a ≠ none) := by
        obtain ⟨l, f, g1, g2, g3⟩ := sl1
        refine ⟨l, fun i a => f i a ∧ H1 a ≠ none, fun i t q => ?_, fun i j a n x y => g2 i j a n x.1 y.1, fun i a x => ⟨g3 i a x.1, x.2⟩⟩
        obtain ⟨v, e2, o⟩ := g1 i t q
        exact ⟨v, e2, o.live⟩
      have st := Stp.heap e1 nD (.lst [])
      refine ⟨fun a => F1 a ∧ H1 a ≠ none, G1, ρ1, [], [], fin, ⟨st.gg, st.gh, fun a o x _ => st.fr a o x fun z => z.elim, st.th, fun a x y => absurd x y, fun a x => .inl x.1⟩, (nF.touch (fun z => z.2 nD) nG (.lst [])).wipe vs, upd_same, nG, fun z => z.2 nD, .nil, Nat.le_refl _, q, rfl⟩
    · rintro i m H ⟨him, ⟨F', G', ρ', acc, accd, rest, st, sl', hD, nG', nF', ra, hl, hq, hf⟩⟩
      cases m with
      | zero =>
        refine .inl ⟨(jk.2 G' H i st.gg st.gh).2 (by omega), ?_⟩
        rw [List.drop_eq_nil_of_le (by omega)] at hq
        cases hq
        rw [List.append_nil] at hf
        subst hf
        exact h1 D acc F' G' H st (sl'.back sl1 st.gg) hD nG' nF' nD ra
      | succ m =>
        have hi : i < ds.length := by omega
        refine .inr ⟨((jk.2 G' H i st.gg st.gh).1 _ (List.getElem?_eq_getElem hi)).1, fun H' => (i + 1) + m = ds.length ∧ LcI K σ vs bd mt me ds F1 G1 H1 fin ρf D (i + 1) H', fun H' w => ⟨m, Nat.lt_succ_self m, w⟩, fun x H' hy => ?_⟩
        obtain ⟨G2, st2, rx⟩ := ((jk.2 G' H i st.gg st.gh).1 _ (List.getElem?_eq_getElem hi)).2 x H' hy
        rw [List.drop_eq_getElem_cons hi] at hq
        have hq' : (bd ds[i] (wipeE ρ' vs)).bind (fun ρ1 => (okO (mt ρ1)).bind fun b => if b.1 = true then (okO (me b.2)).bind fun y => (lcM vs bd mt me (ds.drop (i + 1)) y.2).map fun r => (y.1 :: r.1, r.2) else lcM vs bd mt me (ds.drop (i + 1)) b.2) = some (rest, ρf) := hq
        cases q1 : bd ds[i] (wipeE ρ' vs) with
        | none => rw [q1] at hq'; cases hq'
        | some ρ2 =>
          rw [q1] at hq'
          refine hg F' G2 H' (L2.wipe σ vs) _ ρ2 x _ _ st2.gh (sl'.pure st2) rx q1 fun σ2 sl2 l2 u2 => ?_
          have hw : L2.wipe σ2 vs = L2.wipe σ vs := by
            rw [← wipe_wipe (σ := σ)]
            exact wipe_same l2 u2 hj
          refine ⟨hw, ?_⟩
          cases q2 : okO (mt ρ2) with
          | none => rw [show (some ρ2).bind (fun ρ1 => (okO (mt ρ1)).bind fun b => if b.1 = true then (okO (me b.2)).bind fun y => (lcM vs bd mt me (ds.drop (i + 1)) y.2).map fun r => (y.1 :: r.1, r.2) else lcM vs bd mt me (ds.drop (i + 1)) b.2) = (okO (mt ρ2)).bind fun b => if b.1 = true then (okO (me b.2)).bind fun y => (lcM vs bd mt me (ds.drop (i + 1)) y.2).map fun r => (y.1 :: r.1, r.2) else lcM vs bd mt me (ds.drop (i + 1)) b.2 from rfl, q2] at hq'; cases hq'
          | some bb =>
            obtain ⟨b, ρ3⟩ := bb
            have hq2 : (if b = true then (okO (me ρ3)).bind fun y => (lcM vs bd mt me (ds.drop (i + 1)) y.2).map fun r => (y.1 :: r.1, r.2) else lcM vs bd mt me (ds.drop (i + 1)) ρ3) = some (rest, ρf) := by
              have z : (okO (mt ρ2)).bind (fun b => if b.1 = true then (okO (me b.2)).bind fun y => (lcM vs bd mt me (ds.drop (i + 1)) y.2).map fun r => (y.1 :: r.1, r.2) else lcM vs bd mt me (ds.drop (i + 1)) b.2) = some (rest, ρf) := hq'
              rw [q2] at z
              exact z
            refine ht F' G2 H' σ2 ρ2 _ st2.gh sl2 (post_ok q2 fun b' F3 G3 H3 st3 sl3 rb => ?_)
            cases (show b' = b from rb)
            have stA : Stp F1 G1 H1 F' G2 H' := st.trans st2.pure
            have dA : H' D = some (.lst acc) := st2.fr D _ hD fun z => z.elim
            have gA : G2 D = none := by
              cases z : G2 D with
              | none => rfl
              | some u =>
                rcases st2.gn D nG' (by rw [z]; exact fun y => nomatch y) with y | y
                · rw [hD] at y; cases y
                · exact y.elim
            have dB : H3 D = some (.lst acc) := st3.fr D _ dA nF'
            have gB : G3 D = none := by
              cases z : G3 D with
              | none => rfl
              | some u =>
                rcases st3.gn D gA (by rw [z]; exact fun y => nomatch y) with y | y
                · rw [dA] at y; cases y
                · exact (nF' y).elim
            have fB : ¬ F3 D := fun z => by
              rcases st3.fn D z with y | y
              · exact nF' y
              · rw [dA] at y; cases y
            have stB : Stp F1 G1 H1 F3 G3 H3 := stA.trans st3
            cases b with
            | false =>
              rw [if_neg Bool.false_ne_true] at hq2 ⊢
              refine ⟨by omega, ⟨F3, G3, ρ3, acc, accd, rest, stB, ?_, dB, gB, fB, ra.mono (st2.gg.trans st3.gg), by omega, hq2, hf⟩⟩
              rw [← hw]
              exact sl3.wipe vs
            | true =>
              rw [if_pos rfl] at hq2 ⊢
              cases q3 : okO (me ρ3) with
              | none => rw [q3] at hq2; cases hq2
              | some yy =>
                obtain ⟨y, ρ4⟩ := yy
                rw [q3] at hq2
                have hq3 : (lcM vs bd mt me (ds.drop (i + 1)) ρ4).map (fun r => (y :: r.1, r.2)) = some (rest, ρf) := hq2
                cases q4 : lcM vs bd mt me (ds.drop (i + 1)) ρ4 with
                | none => rw [q4] at hq3; cases hq3
                | some rr =>
                  obtain ⟨rest', ρg⟩ := rr
                  rw [q4] at hq3
                  cases hq3
                  refine he F3 G3 H3 σ2 ρ3 _ stB.gh sl3 (post_ok q3 fun v F4 G4 H4 st4 sl4 rv => ?_)
                  have dC : H4 D = some (.lst acc) := st4.fr D _ dB fB
                  have gC : G4 D = none := by
                    cases z : G4 D with
                    | none => rfl
                    | some u =>
                      rcases st4.gn D gB (by rw [z]; exact fun y => nomatch y) with y | y
                      · rw [dB] at y; cases y
                      · exact (fB y).elim
                  have fC : ¬ F4 D := fun z => by
                    rcases st4.fn D z with y | y
                    · exact fB y
                    · rw [dB] at y; cases y
                  refine ⟨acc, dC, by omega, by omega, ⟨F4, G4, ρ4, acc ++ [v], accd ++ [y], rest', (stB.trans st4).touch nD gC, ?_, upd_same, gC, fC, (ra.mono (st2.gg.trans (st3.gg.trans st4.gg))).append (.cons rv .nil), by rw [List.length_append]; simp only [List.length_cons, List.length_nil]; omega, q4, by rw [hf]; simp⟩⟩
                  rw [← hw]
                  exact (sl4.wipe vs).touch fC gC _
theorem sim_fz {K : Frg} {m : M (List D)} (h : SimN K W te m) : Sim K W (relD K) te (mFz m) := by
  intro F G H σ ρ Q e sl p
  refine h F G H σ ρ Q e sl ?_
  revert p
  unfold mFz
  cases m ρ with
  | none => exact fun p => p
  | some r =>
    obtain ⟨a, ρ'⟩ := r
    cases a with
    | ok ds => exact fun p l vs F' G' H' st sl' hl nl nf n r => p (.ref l) F' _ H' (st.freeze e n nl hl) (sl'.frz nf nl) (.newLst nl r)
    | exc C fs => exact fun p => p
theorem Ex.fz {m : M (List D)} (h : Nw X W e te m) : Ex X W e te (mFz m) := ⟨h.pe, sim_fz h.sim⟩
/-- [e for tg in iter if ..] -/
theorem Nw.lc {js : List Nat} {bd : D → Env → Option Env} {scope : Scope} {own : List (Str × Nat)} (hc : X.calm = true) (hN : X.N.Nodup) (hi : Src X W tg iter wi ms) (ok : BlkOk X.N X.env.scope scope own)
    (hg : ∀ (s : Shared) (H : Hp) (C : Addr) (cl : List (Str × Addr)) (fp : List Addr), Tg (X.blk s H scope (compEnvC scope cl C X.env) fp) tg js g bd)
    (ht : ∀ (s : Shared) (H : Hp) (C : Addr) (cl : List (Str × Addr)) (fp : List Addr), Ts (X.blk s H scope (compEnvC scope cl C X.env) fp) WF ifs tt mt)
    (he : ∀ (s : Shared) (H : Hp) (C : Addr) (cl : List (Str × Addr)) (fp : List Addr), Ex (X.blk s H scope (compEnvC scope cl C X.env) fp) WF e te me)
    (hj : ∀ j ∈ js, j ∈ own.map (·.2)) (hs : ∀ x, foldedSetIterable iter X.env x = pure x := by intro _; rfl) :
    Nw X W (.ListComp e [⟨tg, iter, ifs, 0⟩] scope pos) (tLc wi g tt te (own.map (·.2))) (mLcN ms (own.map (·.2)) bd mt me) :=
  ⟨pe_lc hc hN hi.pi ok (fun s H C cl fp => (hg s H C cl fp).pg) (fun s H C cl fp => (ht s H C cl fp).pt) (fun s H C cl fp => (he s H C cl fp).pe) hs,
    sim_lc hi.sim (hg X.s_0 X.H_0 0 [] []).sim (ht X.s_0 X.H_0 0 [] []).sim (he X.s_0 X.H_0 0 [] []).sim hj⟩
end
end MX

namespace MX
open PySem PySem.Spec PyProof.Rows L2
/-! ### statements -/
inductive Flow where
  | nx | bk | ct | rt (t : T) | exc (c : Nat) (fs : List (Nat × D))
abbrev N := Env → Option (Flow × Env)
def Keep (kp : List Nat) (σ σ' : L2.St) : Prop := ∀ i ∈ kp, σ'[i]? = σ[i]?
theorem Keep.refl (kp : List Nat) (σ : L2.St) : Keep kp σ σ := fun _ _ => rfl
theorem Keep.trans {kp : List Nat} {σ τ υ : L2.St} (a : Keep kp σ τ) (b : Keep kp τ υ) : Keep kp σ υ := fun i h => (b i h).trans (a i h)
theorem Keep.set {kp : List Nat} {σ : L2.St} {i : Nat} (h : i ∉ kp) (x : Option V) : Keep kp σ (σ.set i x) := fun j hj => by
  rw [List.getElem?_set_ne (fun z => h (by rw [z]; exact hj))]
def PostS (K : Frg) (W : WX) (kp : List Nat) (σ : L2.St) (D : Ends) (F : Fp) (G H : Hp) : Option (Flow × Env) → Prop
  | none => False
  | some (.nx, ρ') => ∀ σ' F' G' H', Stp F G H F' G' H' → Slots K G' H' σ' ρ' F' → Keep kp σ σ' → D.nx σ' H'
  | some (.bk, ρ') => ∀ σ' F' G' H', Stp F G H F' G' H' → Slots K G' H' σ' ρ' F' → Keep kp σ σ' → D.bk σ' H'
  | some (.ct, ρ') => ∀ σ' F' G' H', Stp F G H F' G' H' → Slots K G' H' σ' ρ' F' → Keep kp σ σ' → D.ct σ' H'
  | some (.rt t, ρ') => ∀ σ' v Fs Fv G' H', Stp F G H (fun a => Fs a ∨ Fv a) G' H' → Slots K G' H' σ' ρ' Fs → Own K G' H' v t Fv → (∀ a, Fv a → ¬ Fs a) → Keep kp σ σ' → D.rt v H'
  | some (.exc C fs, ρ') => ∀ x σ' F' G' H', Stp F G H F' G' H' → Slots K G' H' σ' ρ' F' → Keep kp σ σ' → ExcAt K G' H' x fs → W (.ref (cadr K C)) x σ' H'
def SimS (K : Frg) (W : WX) (kp : List Nat) (t : TS) (n : N) : Prop := ∀ (F : Fp) (G H : Hp) (σ : L2.St) (ρ : Env) (D : Ends), Same G H → Slots K G H σ ρ F → PostS K W kp σ D F G H (n ρ) → t D σ H
structure Sm (X : Cx) (W : WX) (kp : List Nat) (st : Stmt) (t : TS) (n : N) : Prop where
  ps : PS X st t
  sim : SimS X.K W kp t n
structure Sms (X : Cx) (W : WX) (kp : List Nat) (st : List Stmt) (t : TS) (n : N) : Prop where
  ps : PSs X st t
  sim : SimS X.K W kp t n
theorem PostS.mono {K : Frg} {W : WX} {kp : List Nat} {σ σ1 : L2.St} {D : Ends} {F F1 : Fp} {G H G1 H1 : Hp} {r : Option (Flow × Env)} (s : Stp F G H F1 G1 H1) (k : Keep kp σ σ1) (h : PostS K W kp σ D F G H r) : PostS K W kp σ1 D F1 G1 H1 r := by
  match r, h with
  | some (.nx, ρ'), h => exact fun σ' F' G' H' st sl kk => h σ' F' G' H' (s.trans st) sl (k.trans kk)
  | some (.bk, ρ'), h => exact fun σ' F' G' H' st sl kk => h σ' F' G' H' (s.trans st) sl (k.trans kk)
  | some (.ct, ρ'), h => exact fun σ' F' G' H' st sl kk => h σ' F' G' H' (s.trans st) sl (k.trans kk)
  | some (.rt t, ρ'), h => exact fun σ' v Fs Fv G' H' st sl o dj kk => h σ' v Fs Fv G' H' (s.trans st) sl o dj (k.trans kk)
  | some (.exc C fs, ρ'), h => exact fun x σ' F' G' H' st sl kk => h x σ' F' G' H' (s.trans st) sl (k.trans kk)
def bndS {α : Type} (x : Option (Res α × Env)) (f : α → Env → Option (Flow × Env)) : Option (Flow × Env) := match x with
  | none => none
  | some (.ok a, ρ) => f a ρ
  | some (.exc C fs, ρ) => some (.exc C fs, ρ)
@[simp] theorem bndS_ret {α : Type} (a : α) (ρ : Env) (f : α → Env → Option (Flow × Env)) : bndS (ret a ρ) f = f a ρ := rfl
@[simp] theorem bndS_ok {α : Type} (a : α) (ρ : Env) (f : α → Env → Option (Flow × Env)) : bndS (some (Res.ok a, ρ)) f = f a ρ := rfl
theorem Sim.bindS {α β : Type} {K : Frg} {W : WX} {kp : List Nat} {rel : Hp → Hp → β → α → Prop} {t : L2.St → Hp → (β → Hp → Prop) → Prop} {m : M α} (ht : Sim K W rel t m) {F : Fp} {G H : Hp} {σ : L2.St} {ρ : Env} {Q : β → Hp → Prop} {D : Ends} {f : α → Env → Option (Flow × Env)}
    (e : Same G H) (sl : Slots K G H σ ρ F) (h : PostS K W kp σ D F G H (bndS (m ρ) f))
    (k : ∀ b a ρ' F' G' H', Same G' H' → Stp F G H F' G' H' → Slots K G' H' σ ρ' F' → rel G' H' b a → PostS K W kp σ D F' G' H' (f a ρ') → Q b H') : t σ H Q := by
  refine ht F G H σ ρ Q e sl ?_
  revert h
  cases m ρ with
  | none => exact fun h => h
  | some r =>
    obtain ⟨a, ρ'⟩ := r
    cases a with
    | ok a => exact fun h b F' G' H' st sl' r => k b a ρ' F' G' H' st.gh st sl' r (PostS.mono st (.refl _ _) h)
    | exc C fs => exact fun h x F' G' H' st sl' ex => h x σ F' G' H' st sl' (.refl _ _) ex
section
variable {X : Cx} {W : WX} {kp : List Nat} {st : Stmt} {sts rest : List Stmt} {tg iter e a b c : Expr} {es : List Expr} {g : TG} {ta tb tc te : TE} {t tr : TA} {tt tu : TT} {u u' : TS} {n n' : N} {ma mb mc me : M D} {mt mu : M Bool} {ms : M (List D)} {pos : Pos} {wi : TI}
def nNx : N := fun ρ => some (.nx, ρ)
def sq (n n' : N) : N := fun ρ => match n ρ with
  | some (.nx, ρ1) => n' ρ1
  | r => r
theorem Sms.nil : Sms X W kp [] tNext nNx := ⟨pss_nil, fun F G H σ ρ D e sl h => h σ F G H (.refl e) sl (.refl _ _)⟩
theorem Sms.cons (h1 : Sm X W kp st u n) (h2 : Sms X W kp rest u' n') : Sms X W kp (st :: rest) (tSeq u u') (sq n n') := by
  refine ⟨pss_cons h1.ps h2.ps, fun F G H σ ρ D e sl h => ?_⟩
  refine h1.sim F G H σ ρ _ e sl ?_
  revert h
  unfold sq
  cases n ρ with
  | none => exact fun h => h
  | some r =>
    obtain ⟨f, ρ1⟩ := r
    cases f with
    | nx => exact fun h σ' F' G' H' st sl' kk => h2.sim F' G' H' σ' ρ1 D st.gh sl' (PostS.mono st kk h)
    | bk => exact fun h => h
    | ct => exact fun h => h
    | rt t => exact fun h => h
    | exc C fs => exact fun h => h
theorem Sms.one (h1 : Sm X W kp st u n) : Sms X W kp [st] u n := ⟨pss_one h1.ps, h1.sim⟩
/-- an owned row is frozen ahead of what follows -/
def frzN (i : Nat) (n : N) : N := fun ρ => match ownL ρ i with
  | some ds => n (ρ.set i (some (.im (.lst ds))))
  | none => none
theorem sim_frz {K : Frg} {i : Nat} (h : SimS K W kp u n) : SimS K W kp u (frzN i n) := by
  intro F G H σ ρ D e sl p
  unfold frzN at p
  cases q : ownL ρ i with
  | none => rw [q] at p; exact p.elim
  | some ds =>
    rw [q] at p
    obtain ⟨v, Fv, e1, o, sub, _⟩ := sl.own (ownL_eq q)
    obtain ⟨p0, vs, rfl, e2, nn, fp, rr⟩ := o.flat
    have st : Stp F G H F (upd G p0 (.lst vs)) H := ⟨same_upd nn, fun a u q => by
      by_cases c : a = p0
      · subst c; rw [upd_same] at q; cases q; exact e2
      · rw [upd_ne c] at q; exact e _ _ q, fun _ _ h _ => h, fun _ h => h, fun a q q' => by
      by_cases c : a = p0
      · subst c; exact .inr (sub _ fp)
      · rw [upd_ne c] at q'; exact absurd q q', fun _ h => .inl h⟩
    have sl2 : Slots K (upd G p0 (.lst vs)) H σ (ρ.set i (some (.im (.lst ds)))) F := by
      obtain ⟨l, f, h1, h2, h3⟩ := sl
      have hi : i < ρ.length := (List.getElem?_eq_some_iff.mp (ownL_eq q)).1
      refine ⟨by simpa using l, f, fun j t ej => ?_, h2, h3⟩
      by_cases c : j = i
      · subst c
        rw [List.getElem?_set_self hi] at ej
        cases ej
        exact ⟨_, e1, .im (.newLst nn rr)⟩
      · rw [List.getElem?_set_ne (fun z => c z.symm)] at ej
        obtain ⟨w, e3, ow⟩ := h1 j t ej
        refine ⟨w, e3, ow.stay (same_upd nn) (fun a o fa q => q) fun a o fa qq n' => ?_⟩
        obtain ⟨w', e4, ow'⟩ := h1 i _ (ownL_eq q)
        rw [e1] at e4
        cases e4
        have fi : f i p0 := by
          obtain ⟨p1, vs1, z, _, _, fp1, _⟩ := ow'.flat
          cases z
          exact fp1
        rw [upd_ne (fun z : a = p0 => h2 j i a c fa (by rw [z]; exact fi))]
        exact n'
    exact h F _ H σ _ D st.gh sl2 (PostS.mono st (.refl _ _) p)
theorem Sms.frz (i : Nat) (h : Sms X W kp sts u n) : Sms X W kp sts u (frzN i n) := ⟨h.ps, sim_frz h.sim⟩
/-! names -/
def nSet (i : Nat) (m : M D) : N := fun ρ => bndS (m ρ) fun d ρ1 => some (.nx, ρ1.set i (some (.im d)))
theorem sim_set {K : Frg} {i : Nat} (hk : i ∉ kp) (h : Sim K W (relD K) te me) : SimS K W kp (tAsg te (gName i)) (nSet i me) := by
  intro F G H σ ρ D e sl p
  refine h.bindS e sl p fun v d ρ1 F1 G1 H1 e1 s1 sl1 r h1 => ?_
  exact h1 _ F1 G1 H1 (.refl e1) (sl1.setIm r i) (.set hk _)
theorem Sm.set {x : Str} {pos' : Pos} (i : Nat) (hN : X.N.Nodup) (h : Ex X W e te me) (hk : i ∉ kp := by decide) (hi : X.N[i]? = some x := by rfl) (hx : Loc X.env.scope x := by first | exact Or.inl rfl | exact Or.inr rfl) (hs : swapsWith e (some (.Name x pos')) pos.line X.env = pure false := by rfl) (hf : X.fn x = true ∨ X.env.scope.names.lookup x = some .local := by first | exact .inl rfl | exact .inr rfl) :
    Sm X W kp (.Assign [.Name x pos'] e pos) (tAsg te (gName i)) (nSet i me) := ⟨ps_set hN hi hx h.pe hs hf, sim_set hk h.sim⟩
/-- x = [..]: a comprehension, one line -/
theorem Sm.setLc {js : List Nat} {bd : D → Env → Option Env} {scope : Scope} {own : List (Str × Nat)} {ifs : List Expr} {x : Str} {py spos : Pos} (i : Nat) (hc : X.calm = true) (hN : X.N.Nodup) (hi : Src X W tg iter wi ms) (ok : BlkOk X.N X.env.scope scope own)
    (hg : ∀ (s : Shared) (H : Hp) (C : Addr) (cl : List (Str × Addr)) (fp : List Addr), Tg (X.blk s H scope (compEnvC scope cl C X.env) fp) tg js g bd)
    (ht : ∀ (s : Shared) (H : Hp) (C : Addr) (cl : List (Str × Addr)) (fp : List Addr), Ts (X.blk s H scope (compEnvC scope cl C X.env) fp) WF ifs tt mt)
    (he : ∀ (s : Shared) (H : Hp) (C : Addr) (cl : List (Str × Addr)) (fp : List Addr), Ex (X.blk s H scope (compEnvC scope cl C X.env) fp) WF e te me)
    (hj : ∀ j ∈ js, j ∈ own.map (·.2)) (hy : X.N[i]? = some x := by rfl) (hyl : X.env.scope.names.lookup x = some .local := by rfl) (hk : i ∉ kp := by decide)
    (hsw : swapsWith (.ListComp e [⟨tg, iter, ifs, 0⟩] scope pos) (some (.Name x py)) spos.line X.env = pure true := by exact sw_true rfl rfl rfl (by decide +kernel)) (hs : ∀ x, foldedSetIterable iter X.env x = pure x := by intro _; rfl) :
    Sm X W kp (.Assign [.Name x py] (.ListComp e [⟨tg, iter, ifs, 0⟩] scope pos) spos) (tAsg (tLc wi g tt te (own.map (·.2))) (gName i)) (nSet i (mFz (mLcN ms (own.map (·.2)) bd mt me))) :=
  ⟨ps_setLc hc hN hy hyl hsw hi.pi ok (fun s H C cl fp => (hg s H C cl fp).pg) (fun s H C cl fp => (ht s H C cl fp).pt) (fun s H C cl fp => (he s H C cl fp).pe) hs,
    sim_set hk (sim_fz <| sim_lc hi.sim (hg X.s_0 X.H_0 0 [] []).sim (ht X.s_0 X.H_0 0 [] []).sim (he X.s_0 X.H_0 0 [] []).sim hj)⟩
/-- target = e, any target -/
def nAsg (bd : D → Env → Option Env) (m : M D) : N := fun ρ => bndS (m ρ) fun d ρ1 => (bd d ρ1).map fun ρ2 => (.nx, ρ2)
theorem Sm.asg {js : List Nat} {bd : D → Env → Option Env} (h : Ex X W e te me) (hg : Tg X tg js g bd) (hk : ∀ j ∈ js, j ∉ kp := by decide) (hs : swapsWithSole [tg] e pos.line X.env = pure false := by rfl) (hw : swappedStores [tg] e X.env = pure none := by rfl)
    (h1 : (assignEach [tg] X.env).map (·.2) = [assign tg X.env] := by rfl) : Sm X W kp (.Assign [tg] e pos) (tAsg te g) (nAsg bd me) := by
  refine ⟨ps_asg h.pe hg.pg hs hw h1, fun F G H σ ρ D e sl p => ?_⟩
  refine h.sim.bindS e sl p fun v d ρ1 F1 G1 H1 e1 s1 sl1 r h1 => ?_
  cases q : bd d ρ1 with
  | none => rw [q] at h1; exact h1.elim
  | some ρ2 =>
    rw [q] at h1
    exact hg.sim F1 G1 H1 σ ρ1 ρ2 v d _ e1 sl1 r q fun σ' sl' l' u' => h1 σ' F1 G1 H1 (.refl e1) sl' fun j hj => u' j fun z => hk j z hj
/-- a, b = e1, e2 -/
def nPar (i j : Nat) (ms : M (List D)) : N := fun ρ => bndS (ms ρ) fun ds ρ1 => match ds with
  | [d, d'] => some (.nx, (ρ1.set i (some (.im d))).set j (some (.im d')))
  | _ => none
theorem Sm.par {x y : Str} {px py pt : Pos} {kt k2 pt2} (i j : Nat) (hc : X.calm = true) (hN : X.N.Nodup) (ha : As X W [a, b] t ms) (hij : i ≠ j := by decide) (hk : i ∉ kp ∧ j ∉ kp := by decide) (hi : X.N[i]? = some x := by rfl) (hj : X.N[j]? = some y := by rfl)
    (hx : X.env.scope.names.lookup x = some .local := by rfl) (hy : X.env.scope.names.lookup y = some .local := by rfl)
    (hw : swappedStores [.Tuple [.Name x px, .Name y py] kt pt] (.Tuple [a, b] k2 pt2) X.env = pure (some [x, y]) := by rfl)
    (hs : swapsWithSole [.Tuple [.Name x px, .Name y py] kt pt] (.Tuple [a, b] k2 pt2) pos.line X.env = pure false := by rfl) :
    Sm X W kp (.Assign [.Tuple [.Name x px, .Name y py] kt pt] (.Tuple [a, b] k2 pt2) pos) (tPar i j t) (nPar i j ms) := by
  refine ⟨ps_par hc hN hi hj hij hx hy ha.pa hw hs, fun F G H σ ρ D e sl p => ?_⟩
  refine ha.sim.bindS e sl p fun vs ds ρ1 F1 G1 H1 e1 s1 sl1 r h1 => ?_
  have hl : ds.length = 2 := by rw [← r.1.1, r.2]; rfl
  match ds, hl with
  | [d, d'], _ =>
    obtain ⟨v, v', rfl, rv, rv'⟩ := repAll_2 r.1
    exact ⟨v, v', rfl, h1 _ F1 G1 H1 (.refl e1) ((sl1.setIm rv i).setIm rv' j) ((Keep.set hk.1 _).trans (.set hk.2 _))⟩
/-- x op= e, ints -/
def nAug (i : Nat) (f : Int → Int → Int) (m : M D) : N := fun ρ => match ρ[i]? with
  | some (some (.im (.int x))) => bndS (m ρ) fun d ρ1 => match d with
    | .int y => some (.nx, ρ1.set i (some (.im (.int (f x y)))))
    | _ => none
  | _ => none
theorem Sm.aug {x : Str} {pos' : Pos} {op : Operator} {f : Int → Int → Int} (i : Nat) (hN : X.N.Nodup) (ho : PIp X op (ipI f)) (h : Ex X W e te me) (hk : i ∉ kp := by decide) (hi : X.N[i]? = some x := by rfl) (hx : Loc X.env.scope x := by first | exact Or.inl rfl | exact Or.inr rfl) (hf : X.fn x = true ∨ X.env.scope.names.lookup x = some .local := by first | exact .inl rfl | exact .inr rfl) :
    Sm X W kp (.AugAssign (.Name x pos') op e pos) (tAug i te (ipI f)) (nAug i f me) := by
  refine ⟨ps_aug hN hi hx h.pe ho hf, fun F G H σ ρ D e sl p => ?_⟩
  unfold nAug at p
  split at p
  · rename_i z q
    obtain ⟨v, e1, r⟩ := sl.at q
    cases r
    refine ⟨_, e1, ?_⟩
    refine h.sim.bindS e sl p fun v d ρ1 F1 G1 H1 e1 s1 sl1 r h1 => ?_
    cases d with
    | int y =>
      cases r
      exact ⟨z, y, rfl, rfl, h1 _ F1 G1 H1 (.refl e1) (sl1.setIm (.int _) i) (.set hk _)⟩
    | _ => exact h1.elim
  · exact p.elim
/-! tests, loops -/
def nIf (m : M Bool) (n n' : N) : N := fun ρ => bndS (m ρ) fun c ρ1 => if c = true then n ρ1 else n' ρ1
theorem Sm.if_ (hc : Te X W c tt mt) (h1 : Sms X W kp sts u n) (h2 : Sms X W kp rest u' n') : Sm X W kp (.If c sts rest pos) (tIfS tt u u') (nIf mt n n') := by
  refine ⟨ps_if hc.pt h1.ps h2.ps, fun F G H σ ρ D e sl p => ?_⟩
  refine hc.sim.bindS e sl p fun x a ρ1 F1 G1 H1 e1 s1 sl1 ra hp => ?_
  cases (show x = a from ra)
  cases x with
  | true => exact h1.sim F1 G1 H1 σ ρ1 D e1 sl1 hp
  | false => exact h2.sim F1 G1 H1 σ ρ1 D e1 sl1 hp
theorem Sm.pass : Sm X W kp (.Pass pos) tNext nNx := ⟨ps_pass, fun F G H σ ρ D e sl h => h σ F G H (.refl e) sl (.refl _ _)⟩
def nBk : N := fun ρ => some (.bk, ρ)
def nCt : N := fun ρ => some (.ct, ρ)
theorem Sm.brk : Sm X W kp (.Break pos) tBreak nBk := ⟨ps_break, fun F G H σ ρ D e sl h => h σ F G H (.refl e) sl (.refl _ _)⟩
theorem Sm.cont : Sm X W kp (.Continue pos) tCont nCt := ⟨ps_continue, fun F G H σ ρ D e sl h => h σ F G H (.refl e) sl (.refl _ _)⟩
def nRet (m : M D) : N := fun ρ => bndS (m ρ) fun d ρ1 => some (.rt (.im d), ρ1)
theorem Sm.ret (h : Ex X W e te me) : Sm X W kp (.Return (some e) pos) (tRet te) (nRet me) := by
  refine ⟨ps_ret h.pe, fun F G H σ ρ D e sl p => ?_⟩
  refine h.sim.bindS e sl p fun v d ρ1 F1 G1 H1 e1 s1 sl1 r h1 => ?_
  refine h1 σ v F1 F0 G1 H1 ?_ sl1 (.im r) (fun _ z => z.elim) (.refl _ _)
  have z := Stp.refl (F := F1) e1
  exact ⟨z.gg, z.gh, z.fr, z.th, z.gn, fun a h => h.elim .inl fun w => w.elim⟩
def nRetN : N := fun ρ => some (.rt (.im .non), ρ)
theorem Sm.retN : Sm X W kp (.Return none pos) tRetN nRetN := by
  refine ⟨ps_retN, fun F G H σ ρ D e sl h => ?_⟩
  refine h σ .non F F0 G H ?_ sl (.im .non) (fun _ z => z.elim) (.refl _ _)
  have z := Stp.refl (F := F) e
  exact ⟨z.gg, z.gh, z.fr, z.th, z.gn, fun a h => h.elim .inl fun w => w.elim⟩
def nDrop (m : M D) : N := fun ρ => bndS (m ρ) fun _ ρ1 => some (.nx, ρ1)
theorem Sm.expr (h : Ex X W e te me) (hs : swapsWith e none pos.line X.env = pure false := by rfl) : Sm X W kp (.Expr e pos) (tDrop te) (nDrop me) := by
  refine ⟨ps_expr h.pe hs, fun F G H σ ρ D e sl p => ?_⟩
  refine h.sim.bindS e sl p fun v d ρ1 F1 G1 H1 e1 s1 sl1 r h1 => ?_
  exact h1 σ F1 G1 H1 (.refl e1) sl1 (.refl _ _)
theorem Sm.never : Sm X W kp st tNever (fun _ => none) := ⟨ps_never, fun F G H σ ρ D e sl h => h.elim⟩
def forL (bd : D → Env → Option Env) (n : N) : List D → N
  | [], ρ => some (.nx, ρ)
  | d :: ds, ρ => (bd d ρ).bind fun ρ1 => match n ρ1 with
    | some (.nx, ρ2) => forL bd n ds ρ2
    | some (.ct, ρ2) => forL bd n ds ρ2
    | some (.bk, ρ2) => some (.nx, ρ2)
    | r => r
def nFor (ms : M (List D)) (bd : D → Env → Option Env) (n : N) : N := fun ρ => bndS (ms ρ) fun ds ρ1 => forL bd n ds ρ1
theorem sim_for {K : Frg} {js : List Nat} {bd : D → Env → Option Env} (hi : Sim K W (relJ K) wi ms) (hg : SimG K js g bd) (hb : SimS K W kp u n) (hj : ∀ j ∈ js, j ∉ kp) : SimS K W kp (tFor wi g u) (nFor ms bd n) := by
  intro F G H σ ρ D e sl p
  refine hi.bindS e sl p fun J ds ρ1 F1 G1 H1 e1 s1 sl1 jk h1 => ?_
  refine ⟨fun i m σ' H' => i + m = ds.length ∧ ∃ F' G' ρ', Stp F1 G1 H1 F' G' H' ∧ Slots K G' H' σ' ρ' F' ∧ PostS K W kp σ' D F' G' H' (forL bd n (ds.drop i) ρ'), ⟨ds.length, by omega, F1, G1, ρ1, .refl e1, sl1, h1⟩, ?_⟩
  rintro i m σ' H' ⟨him, F', G', ρ', st, sl', hp⟩
  cases m with
  | zero =>
    refine .inl ⟨(jk.2 G' H' i st.gg st.gh).2 (by omega), ?_⟩
    rw [List.drop_eq_nil_of_le (by omega)] at hp
    exact hp σ' F' G' H' (.refl st.gh) sl' (.refl _ _)
  | succ m =>
    have hi : i < ds.length := by omega
    refine .inr ⟨((jk.2 G' H' i st.gg st.gh).1 _ (List.getElem?_eq_getElem hi)).1, fun σ' H' => (i + 1) + m = ds.length ∧ ∃ F' G' ρ', Stp F1 G1 H1 F' G' H' ∧ Slots K G' H' σ' ρ' F' ∧ PostS K W kp σ' D F' G' H' (forL bd n (ds.drop (i + 1)) ρ'), fun σ' H' w => ⟨m, Nat.lt_succ_self m, w⟩, fun x H2 hy => ?_⟩
    obtain ⟨G2, st2, rx⟩ := ((jk.2 G' H' i st.gg st.gh).1 _ (List.getElem?_eq_getElem hi)).2 x H2 hy
    rw [List.drop_eq_getElem_cons hi] at hp
    have hp' : PostS K W kp σ' D F' G' H' ((bd ds[i] ρ').bind fun ρ1 => match n ρ1 with
      | some (.nx, ρ2) => forL bd n (ds.drop (i + 1)) ρ2
      | some (.ct, ρ2) => forL bd n (ds.drop (i + 1)) ρ2
      | some (.bk, ρ2) => some (.nx, ρ2)
      | r => r) := hp
    cases q1 : bd ds[i] ρ' with
    | none => rw [q1] at hp'; exact hp'.elim
    | some ρ2 =>
      rw [q1] at hp'
      have hp2 : PostS K W kp σ' D F' G' H' (match n ρ2 with
        | some (.nx, ρ2) => forL bd n (ds.drop (i + 1)) ρ2
        | some (.ct, ρ2) => forL bd n (ds.drop (i + 1)) ρ2
        | some (.bk, ρ2) => some (.nx, ρ2)
        | r => r) := hp'
      refine hg F' G2 H2 σ' ρ' ρ2 x _ _ st2.gh (sl'.pure st2) rx q1 fun σ2 sl2 l2 u2 => ?_
      have k2 : Keep kp σ' σ2 := fun j hj' => u2 j fun z => hj j z hj'
      have hp3 := PostS.mono st2.pure k2 hp2
      have stA : Stp F1 G1 H1 F' G2 H2 := st.trans st2.pure
      refine hb F' G2 H2 σ2 ρ2 _ st2.gh sl2 ?_
      revert hp3
      cases n ρ2 with
      | none => exact fun h => h
      | some r =>
        obtain ⟨f, ρ3⟩ := r
        cases f with
        | nx => exact fun h σ3 F3 G3 H3 st3 sl3 k3 => ⟨by omega, F3, G3, ρ3, stA.trans st3, sl3, PostS.mono st3 k3 h⟩
        | ct => exact fun h σ3 F3 G3 H3 st3 sl3 k3 => ⟨by omega, F3, G3, ρ3, stA.trans st3, sl3, PostS.mono st3 k3 h⟩
        | bk => exact fun h => h
        | rt t => exact fun h => h
        | exc C fs => exact fun h => h
theorem Sm.for_ {js : List Nat} {bd : D → Env → Option Env} (hp : PassesOwn (model X.prog X.w) X.A X.env X.xe) (hc : X.calm = true) (hi : Src X W tg iter wi ms) (hg : Tg X tg js g bd) (hb : Sms X W kp sts u n) (hj : ∀ j ∈ js, j ∉ kp := by decide) (hs : ∀ x, foldedSetIterable iter X.env x = pure x := by intro _; rfl) :
    Sm X W kp (.For tg iter sts [] pos) (tFor wi g u) (nFor ms bd n) := ⟨ps_for hp hc hi.pi hg.pg hb.ps hs, sim_for hi.sim hg.sim hb.sim hj⟩
/-- while: fuel f turns at most -/
def whileN (mt : M Bool) (n : N) : Nat → N
  | 0, _ => none
  | f + 1, ρ => bndS (mt ρ) fun c ρ1 => if c = true then (match n ρ1 with
    | some (.nx, ρ2) => whileN mt n f ρ2
    | some (.ct, ρ2) => whileN mt n f ρ2
    | some (.bk, ρ2) => some (.nx, ρ2)
    | r => r) else some (.nx, ρ1)
theorem sim_while {K : Frg} (f : Nat) (hc : Sim K W relB tt mt) (hb : SimS K W kp u n) : SimS K W kp (tWhile tt u) (whileN mt n f) := by
  intro F G H σ ρ D e sl p
  refine ⟨fun m σ' H' => ∃ F' G' ρ', Same G' H' ∧ Slots K G' H' σ' ρ' F' ∧ PostS K W kp σ' D F' G' H' (whileN mt n m ρ'), ⟨f, F, G, ρ, e, sl, p⟩, ?_⟩
  rintro m σ' H' ⟨F', G', ρ', e', sl', hp⟩
  cases m with
  | zero => exact hp.elim
  | succ m =>
    refine hc.bindS e' sl' hp fun x a ρ1 F1 G1 H1 e1 s1 sl1 ra h1 => ?_
    cases (show x = a from ra)
    cases x with
    | false =>
      rw [if_neg Bool.false_ne_true] at h1 ⊢
      exact h1 σ' F1 G1 H1 (.refl e1) sl1 (.refl _ _)
    | true =>
      rw [if_pos rfl] at h1 ⊢
      refine ⟨fun σ' H' => ∃ F' G' ρ', Same G' H' ∧ Slots K G' H' σ' ρ' F' ∧ PostS K W kp σ' D F' G' H' (whileN mt n m ρ'), fun σ' H' w => ⟨m, Nat.lt_succ_self m, w⟩, ?_⟩
      refine hb F1 G1 H1 σ' ρ1 _ e1 sl1 ?_
      revert h1
      cases n ρ1 with
      | none => exact fun h => h
      | some r =>
        obtain ⟨fl, ρ3⟩ := r
        cases fl with
        | nx => exact fun h σ3 F3 G3 H3 st3 sl3 k3 => ⟨F3, G3, ρ3, st3.gh, sl3, PostS.mono st3 k3 h⟩
        | ct => exact fun h σ3 F3 G3 H3 st3 sl3 k3 => ⟨F3, G3, ρ3, st3.gh, sl3, PostS.mono st3 k3 h⟩
        | bk => exact fun h => h
        | rt t => exact fun h => h
        | exc C fs => exact fun h => h
theorem Sm.while_ (f : Nat) (hp : PassesOwn (model X.prog X.w) X.A X.env X.xe) (hc : Te X W c tt mt) (hb : Sms X W kp sts u n) : Sm X W kp (.While c sts [] pos) (tWhile tt u) (whileN mt n f) := ⟨ps_while hp hc.pt hb.ps, sim_while f hc.sim hb.sim⟩
end
end MX

namespace MX
open PySem PySem.Spec PyProof.Rows L2
/-! ### functions -/
abbrev Fn := List T → Option (Res T × List T)
def PostF (K : Frg) (vs : List V) (Q : VK) (E : XK) (F : Fp) (G H : Hp) : Option (Res T × List T) → Prop
  | none => False
  | some (.ok t, ts') => ∀ v Fa Fv G' H', Stp F G H (fun a => Fa a ∨ Fv a) G' H' → Owns K G' H' vs ts' Fa → Own K G' H' v t Fv → (∀ a, Fv a → ¬ Fa a) → Q v H'
  | some (.exc C fs, ts') => ∀ x Fa G' H', Stp F G H Fa G' H' → Owns K G' H' vs ts' Fa → ExcAt K G' H' x fs → E (.ref (cadr K C)) x H'
def spM (K : Frg) (n : Nat) (f : Fn) : Sp := fun vs H Q E => ∃ (F : Fp) (G : Hp) (ts : List T), ts.length = n ∧ Same G H ∧ Owns K G H vs ts F ∧ PostF K vs Q E F G H (f ts)
def imOf : T → Option T
  | .im d => some (.im d)
  | _ => none
def backL (kp : List Nat) : Nat → List T → Env → Option (List T)
  | _, [], _ => some []
  | i, t :: ts, ρ => (if i ∈ kp then (ρ[i]?).join else imOf t).bind fun t' => (backL kp (i + 1) ts ρ).map (t' :: ·)
def endFn (kp : List Nat) (ts : List T) : Option (Flow × Env) → Option (Res T × List T)
  | some (.rt t, ρ) => (backL kp 0 ts ρ).map fun ts' => (.ok t, ts')
  | some (.nx, ρ) => (backL kp 0 ts ρ).map fun ts' => (.ok (.im .non), ts')
  | some (.exc C fs, ρ) => (backL kp 0 ts ρ).map fun ts' => (.exc C fs, ts')
  | _ => none
def env0 (m : Nat) (ts : List T) : Env := ts.map some ++ List.replicate (m - ts.length) none
def runFn (m : Nat) (kp : List Nat) (n : N) : Fn := fun ts => endFn kp ts (n (env0 m ts))
theorem start_get {N : List Str} {vs : List V} {i : Nat} {v : V} (h : vs[i]? = some v) : (L2.start N vs)[i]? = some (some v) := by
  unfold L2.start
  have hi : i < vs.length := (List.getElem?_eq_some_iff.mp h).1
  rw [List.getElem?_append_left (by simpa using hi), List.getElem?_map, h]
  rfl
theorem env0_get {m : Nat} {ts : List T} {i : Nat} {t : T} (h : (env0 m ts)[i]? = some (some t)) : ts[i]? = some t := by
  unfold env0 at h
  by_cases hi : i < ts.length
  · rw [List.getElem?_append_left (by simpa using hi), List.getElem?_map] at h
    cases q : ts[i]? with
    | none => rw [q] at h; cases h
    | some u => rw [q] at h; cases h; rfl
  · rw [List.getElem?_append_right (by simpa using hi), List.getElem?_replicate] at h
    split at h <;> cases h
theorem slots_start {K : Frg} {G H : Hp} {N : List Str} {vs : List V} {ts : List T} {F : Fp} (o : Owns K G H vs ts F) : Slots K G H (start N vs) (env0 N.length ts) F := by
  obtain ⟨l, f, h1, h2, h3⟩ := o
  refine ⟨by simp [L2.start, env0, l], f, fun i t e => ?_, h2, h3⟩
  have e' := env0_get e
  have hi : i < vs.length := by rw [l]; exact (List.getElem?_eq_some_iff.mp e').1
  have ev : vs[i]? = some vs[i] := List.getElem?_eq_getElem hi
  exact ⟨vs[i], start_get ev, h1 i _ t ev e'⟩
theorem backL_at {kp : List Nat} : ∀ {ts ts' : List T} {i : Nat} {ρ : Env}, backL kp i ts ρ = some ts' → ts'.length = ts.length ∧ ∀ (j : Nat) (t' : T), ts'[j]? = some t' → ((i + j) ∈ kp ∧ ρ[i + j]? = some (some t')) ∨ ∃ d, t' = .im d ∧ ts[j]? = some (.im d)
  | [], ts', i, ρ, h => by cases h; exact ⟨rfl, fun j t' e => by simp at e⟩
  | t :: ts, ts', i, ρ, h => by
    unfold backL at h
    cases q : (if i ∈ kp then (ρ[i]?).join else imOf t) with
    | none => rw [q] at h; cases h
    | some t0 =>
      rw [q] at h
      have h' : (backL kp (i + 1) ts ρ).map (t0 :: ·) = some ts' := h
      cases q2 : backL kp (i + 1) ts ρ with
      | none => rw [q2] at h'; cases h'
      | some us =>
        rw [q2] at h'; cases h'
        obtain ⟨l, a⟩ := backL_at q2
        refine ⟨by simp [l], fun j t' e => ?_⟩
        cases j with
        | zero =>
          cases e
          split at q
          · rename_i hk
            refine .inl ⟨hk, ?_⟩
            cases z : ρ[i]? with
            | none => rw [z] at q; cases q
            | some o => rw [z] at q; exact congrArg some q
          · refine .inr ?_
            cases t with
            | im d => cases q; exact ⟨_, rfl, rfl⟩
            | _ => cases q
        | succ j =>
          rcases a j t' (by simpa using e) with ⟨k, r⟩ | ⟨d, rfl, r⟩
          · refine .inl ⟨by rw [show i + (j + 1) = i + 1 + j by omega]; exact k, by rw [show i + (j + 1) = i + 1 + j by omega]; exact r⟩
          · exact .inr ⟨d, rfl, by simpa using r⟩
theorem owns_back {K : Frg} {G H G' H' : Hp} {kp : List Nat} {N : List Str} {vs : List V} {ts ts' : List T} {F F' : Fp} {σ' : L2.St} {ρ' : Env} (o : Owns K G H vs ts F) (e : Same G G') (sl : Slots K G' H' σ' ρ' F') (k : Keep kp (start N vs) σ') (h : backL kp 0 ts ρ' = some ts') : Owns K G' H' vs ts' F' := by
  obtain ⟨l, a⟩ := backL_at h
  obtain ⟨l0, f0, h0, _⟩ := o
  obtain ⟨l1, f, h1, h2, h3⟩ := sl
  refine ⟨by rw [l, l0], f, fun i v t ev et => ?_, h2, h3⟩
  rcases a i t et with ⟨hk, r⟩ | ⟨d, rfl, r⟩
  · rw [Nat.zero_add] at hk r
    obtain ⟨w, e1, ow⟩ := h1 i t r
    rw [k i hk, start_get ev] at e1
    cases e1
    exact ow
  · have z := h0 i v _ ev r
    cases z with
    | im r => exact .im (r.mono e)
section
variable {P : Program} {w : World} {K : Frg} {mg : Str → Option Value} {base : Heap}
/-- THE RULE for a def: its body's mirror is its own -/
theorem fn_ok {x qual : Str} {params : Arguments} {body : List Stmt} {scope : Scope} {f : Addr} {fd : FuncData} {N ps : List Str} {k : Nat} {kp : List Nat} {n : MX.N} (F : FunD K x qual params body scope [] [] f fd) (S : FnScope N ps scope)
    (hb : ∀ (cdv : Value) (A : Around) (outer : List PySem.Env) (s : Shared) (H : Hp) (E : XK), Room k (A.deeper (envOfC qual scope s.heap.objs.size f cdv)) → ∀ W : WX, Takes (cxOf (L2.CX P w) P w K mg base N qual scope f cdv A outer s H E) W →
      ∃ t, Sms (cxOf (L2.CX P w) P w K mg base N qual scope f cdv A outer s H E) W kp body t n) :
    FnOk P w K mg base (L2.CX P w) (k + 1) f fd ps (spM K ps.length (runFn N.length kp n)) := by
  refine F.ok S (fun vs H Q E h => ?_) (fun cdv A outer s H vs Q E hr h => ?_)
  · obtain ⟨Fp, G, ts, hl, _, o, _⟩ := h
    rw [o.1, hl]
  · obtain ⟨Fp, G, ts, hl, e, o, p⟩ := h
    obtain ⟨t, hs⟩ := hb cdv A outer s H E hr (fun cls d _ H => E cls d H) (takes_of rfl rfl rfl rfl)
    refine ⟨t, hs.ps, hs.sim Fp G H _ (env0 N.length ts) _ e (slots_start o) ?_⟩
    unfold runFn at p
    revert p
    cases n (env0 N.length ts) with
    | none => exact fun p => p
    | some r =>
      obtain ⟨fl, ρ'⟩ := r
      cases fl with
      | nx =>
        intro p σ' F' G' H' st sl kk
        cases q : backL kp 0 ts ρ' with
        | none => rw [show endFn kp ts (some (Flow.nx, ρ')) = (backL kp 0 ts ρ').map fun ts' => (Res.ok (T.im .non), ts') from rfl, q] at p; exact p.elim
        | some ts' =>
          rw [show endFn kp ts (some (Flow.nx, ρ')) = (backL kp 0 ts ρ').map fun ts' => (Res.ok (T.im .non), ts') from rfl, q] at p
          refine p .non F' F0 G' H' ?_ (owns_back o st.gg sl kk q) (.im .non) (fun _ z => z.elim)
          exact ⟨st.gg, st.gh, st.fr, st.th, st.gn, fun a h => h.elim (st.fn a) fun z => z.elim⟩
      | bk => exact fun p => p.elim
      | ct => exact fun p => p.elim
      | rt t =>
        intro p σ' v Fs Fv G' H' st sl ow dj kk
        cases q : backL kp 0 ts ρ' with
        | none => rw [show endFn kp ts (some (Flow.rt t, ρ')) = (backL kp 0 ts ρ').map fun ts' => (Res.ok t, ts') from rfl, q] at p; exact p.elim
        | some ts' =>
          rw [show endFn kp ts (some (Flow.rt t, ρ')) = (backL kp 0 ts ρ').map fun ts' => (Res.ok t, ts') from rfl, q] at p
          exact p v Fs Fv G' H' st (owns_back o st.gg sl kk q) ow dj
      | exc C fs =>
        intro p x σ' F' G' H' st sl kk ex
        cases q : backL kp 0 ts ρ' with
        | none => rw [show endFn kp ts (some (Flow.exc C fs, ρ')) = (backL kp 0 ts ρ').map fun ts' => (Res.exc C fs, ts') from rfl, q] at p; exact p.elim
        | some ts' =>
          rw [show endFn kp ts (some (Flow.exc C fs, ρ')) = (backL kp 0 ts ρ').map fun ts' => (Res.exc C fs, ts') from rfl, q] at p
          exact p x F' G' H' st (owns_back o st.gg sl kk q) ex
end
/-! ### calls -/
section
variable {X : Cx} {W : WX} {kp : List Nat} {e a b c : Expr} {es : List Expr} {ta tb tc te : TE} {t tr : TA} {ma mb mc me : M D} {ms : M (List D)} {pos : Pos}
theorem owns_im {K : Frg} {G H : Hp} {vs : List V} {ds : List D} (r : RepAll K G vs ds) : Owns K G H vs (ds.map T.im) F0 := by
  refine ⟨by simpa using r.1, fun _ => F0, fun i v t ev et => ?_, fun _ _ _ _ z => z.elim, fun _ _ z => z⟩
  rw [List.getElem?_map] at et
  cases q : ds[i]? with
  | none => rw [q] at et; cases et
  | some d => rw [q] at et; cases et; exact .im (r.2 i v d ev q)
def resD : Option (Res T × List T) → Env → Option (Res D × Env)
  | some (.ok (.im d), _), ρ => some (.ok d, ρ)
  | some (.exc C fs, _), ρ => some (.exc C fs, ρ)
  | _, _ => none
def mFn (f : Fn) (ms : M (List D)) : M D := fun ρ => bnd (ms ρ) fun ds ρ1 => resD (f (ds.map .im)) ρ1
/-- a step over no lot of one's own, its end's lots dropped -/
theorem Stp.shut {Fa Fv : Fp} {G H G' H' : Hp} (s : Stp F0 G H (fun a => Fa a ∨ Fv a) G' H') : Stp F0 G H F0 G' H' := ⟨s.gg, s.gh, s.fr, s.th, s.gn, fun a h => h.elim⟩
theorem Stp.shut1 {Fa : Fp} {G H G' H' : Hp} (s : Stp F0 G H Fa G' H') : Stp F0 G H F0 G' H' := ⟨s.gg, s.gh, s.fr, s.th, s.gn, fun a h => h.elim⟩
theorem Ex.fn {x : Str} {p : Pos} {k n : Nat} {f : Addr} {fd : FuncData} {ps : List Str} {fn : Fn} (F : FnOk X.prog X.w X.K X.mg X.base (L2.CX X.prog X.w) k f fd ps (spM X.K n fn)) (tk : Takes X W) (hr : Room k X.A) (hm : X.mg x = some (.ref f)) (hk : PySem.W.keepIn X.K (.ref f) = true) (hb : Binds X.K fd ps [])
    (ha : As X W (e :: es) t ms) (hn : es.length + 1 = n := by rfl) (hg : Gl X x := by rfl) (hdb : (x == ("__debug__" : Str)) = false := by decide)
    (he : starEach (e :: es) X.env = (false, eval e X.env) :: starEach es X.env := by rfl) (hpl : (backTo pos (starEach es X.env)).any (·.1) = false := by rfl) :
    Ex X W (.Call (.Name x p) (e :: es) [] pos) (tCallS (spM X.K n fn) (WE W) t) (mFn fn ms) := by
  refine ⟨pe_callS F hr hg hm hk hb (fun σ => passAt tk σ) ha.pa hdb he hpl, fun F G H σ ρ Q e sl p => ?_⟩
  refine ha.sim.bind e sl p fun vs ds ρ1 F1 G1 H1 e1 s1 sl1 r h1 => ?_
  refine ⟨F0, G1, ds.map .im, by rw [List.length_map, ← r.1.1, r.2]; exact hn, e1, owns_im r.1, ?_⟩
  revert h1
  cases fn (ds.map .im) with
  | none => exact fun h => h.elim
  | some q =>
    obtain ⟨q, ts'⟩ := q
    cases q with
    | ok u =>
      cases u with
      | im d =>
        intro h v Fa Fv G' H' st _ ow _
        cases ow with
        | im rv => exact h v F1 G' H' st.shut.pure (sl1.pure st.shut) rv
      | _ => exact fun h => h.elim
    | exc C fs => exact fun h x Fa G' H' st _ ex => h x F1 G' H' st.shut1.pure (sl1.pure st.shut1) ex
/-- f(x, e, ..), x a name that lends what it owns -/
def resO (i : Nat) : Option (Res T × List T) → Env → Option (Res D × Env)
  | some (.ok (.im d), t :: _), ρ => some (.ok d, ρ.set i (some t))
  | some (.exc C fs, t :: _), ρ => some (.exc C fs, ρ.set i (some t))
  | _, _ => none
def ownA (i : Nat) (ρ : Env) : Option T := (ρ[i]?).join
def mFnO (f : Fn) (i : Nat) (ms : M (List D)) : M D := fun ρ => bnd (retO (ownA i ρ) ρ) fun _ ρ0 => bnd (ms ρ0) fun ds ρ1 => bnd (retO (ownA i ρ1) ρ1) fun t ρ2 => resO i (f (t :: ds.map .im)) ρ2
theorem ownA_eq {i : Nat} {ρ : Env} {t : T} (h : ownA i ρ = some t) : ρ[i]? = some (some t) := by
  unfold ownA at h
  cases q : ρ[i]? with
  | none => rw [q] at h; cases h
  | some o => rw [q] at h; exact congrArg some h
theorem sim_fnO {K : Frg} {n i : Nat} {fn : Fn} (ha : Sim K W (relA K n) t ms) : Sim K W (relD K) (tCallS (spM K (n + 1) fn) (WE W) (tCons (tVar i) t)) (mFnO fn i ms) := by
  intro F G H σ ρ Q e sl p
  unfold mFnO at p
  cases q0 : ownA i ρ with
  | none => rw [q0] at p; exact p.elim
  | some t0 =>
    rw [q0] at p
    obtain ⟨v, Fv0, hv, _, _⟩ := sl.own (ownA_eq q0)
    refine ⟨v, hv, ?_⟩
    refine ha.bind e sl p fun vs ds ρ1 F1 G1 H1 e1 s1 sl1 r h1 => ?_
    cases q1 : ownA i ρ1 with
    | none => rw [q1] at h1; exact h1.elim
    | some t1 =>
      rw [q1] at h1
      obtain ⟨v', Fw, hv', ow, sub, back⟩ := sl1.own (ownA_eq q1)
      rw [hv] at hv'
      cases hv'
      have oo : Owns K G1 H1 (v :: vs) (t1 :: ds.map .im) Fw := by
        refine ⟨by simp [r.1.1], fun j => if j = 0 then Fw else F0, fun j u s eu es => ?_, fun j k a n x y => ?_, fun j a x => ?_⟩
        · cases j with
          | zero => cases eu; cases es; exact ow
          | succ j =>
            show Own K G1 H1 u s F0
            have es' : (ds.map T.im)[j]? = some s := by simpa using es
            have eu' : vs[j]? = some u := by simpa using eu
            rw [List.getElem?_map] at es'
            cases z : ds[j]? with
            | none => rw [z] at es'; cases es'
            | some d => rw [z] at es'; cases es'; exact .im (r.1.2 j u d eu' z)
        · dsimp only at x y
          by_cases c : j = 0
          · rw [if_neg (fun z => n (c.trans z.symm))] at y
            exact y
          · rw [if_neg c] at x
            exact x.elim
        · dsimp only at x
          by_cases c : j = 0
          · rw [if_pos c] at x; exact x
          · rw [if_neg c] at x; exact x.elim
      refine ⟨Fw, G1, t1 :: ds.map .im, by rw [List.length_cons, List.length_map, ← r.1.1, r.2], e1, oo, ?_⟩
      have h2 : Post K W σ (relD K) (fun b _ _ _ _ H' => Q b H') F1 G1 H1 (resO i (fn (t1 :: ds.map .im)) ρ1) := h1
      revert h2
      have wide : ∀ {Fa : Fp} {G' H' : Hp}, Stp Fw G1 H1 Fa G' H' → Stp F1 G1 H1 (fun a => (F1 a ∧ ¬ Fw a) ∨ Fa a) G' H' := fun st => ⟨st.gg, st.gh, fun a o h n => st.fr a o h fun z => n (sub a z), st.th, fun a x y => (st.gn a x y).imp id (sub a), fun a x => by
        rcases x with x | x
        · exact .inl x.1
        · rcases st.fn a x with z | z
          · exact .inl (sub a z)
          · exact .inr z⟩
      cases fn (t1 :: ds.map .im) with
      | none => exact fun h => h.elim
      | some q =>
        obtain ⟨q, ts'⟩ := q
        have own0 : ∀ {Fa : Fp} {G' H' : Hp} {t' : T} {r' : List T}, ts' = t' :: r' → Owns K G' H' (v :: vs) ts' Fa → Own K G' H' v t' Fa := by
          rintro Fa G' H' t' r' rfl ⟨_, f, h1, _, h3⟩
          exact (h1 0 v t' rfl rfl).wide (h3 0)
        cases q with
        | ok u =>
          cases u with
          | im d =>
            cases ts' with
            | nil => exact fun h => h.elim
            | cons t' r' =>
              intro h v2 Fa Fv G' H' st os ow2 _
              cases ow2 with
              | im rv =>
                have st' : Stp Fw G1 H1 Fa G' H' := ⟨st.gg, st.gh, st.fr, st.th, st.gn, fun a x => st.fn a (.inl x)⟩
                exact h v2 _ G' H' (wide st') (back Fw Fa G' H' t' st' (fun _ z => z) (own0 rfl os) st'.fn) rv
          | _ => exact fun h => h.elim
        | exc C fs =>
          cases ts' with
          | nil => exact fun h => h.elim
          | cons t' r' =>
            intro h x Fa G' H' st os ex
            exact h x _ G' H' (wide st) (back Fw Fa G' H' t' st (fun _ z => z) (own0 rfl os) st.fn) ex
theorem Ex.fnO {x y : Str} {p yp : Pos} {k n : Nat} {f : Addr} {fd : FuncData} {ps : List Str} {fn : Fn} (i : Nat) (F : FnOk X.prog X.w X.K X.mg X.base (L2.CX X.prog X.w) k f fd ps (spM X.K (n + 1) fn)) (tk : Takes X W) (hr : Room k X.A) (hm : X.mg x = some (.ref f)) (hk : PySem.W.keepIn X.K (.ref f) = true) (hb : Binds X.K fd ps [])
    (ha : As X W es t ms) (hn : es.length = n := by rfl) (hg : Gl X x := by rfl) (hdb : (x == ("__debug__" : Str)) = false := by decide)
    (he : starEach (.Name y yp :: es) X.env = (false, eval (.Name y yp) X.env) :: starEach es X.env := by rfl) (hpl : (backTo pos (starEach es X.env)).any (·.1) = false := by rfl)
    (hN : X.N[i]? = some y := by rfl) (hv : Vis X.env.scope y := by first | exact Or.inl rfl | exact Or.inr (Or.inl rfl) | exact Or.inr (Or.inr rfl)) (hd : (y == ("__debug__" : Str)) = false := by decide) (hcd : (y == ("__classdict__" : Str)) = false := by decide) :
    Ex X W (.Call (.Name x p) (.Name y yp :: es) [] pos) (tCallS (spM X.K (n + 1) fn) (WE W) (tCons (tVar i) t)) (mFnO fn i ms) := by
  subst hn
  exact ⟨pe_callS F hr hg hm hk hb (fun σ => passAt tk σ) (pa_cons (pe_var hN hv hd hcd) ha.pa he) hdb he hpl, sim_fnO ha.sim⟩
end
end MX

namespace MX
open PySem PySem.Spec PyProof.Rows L2
/-! ### expressions whose value the taker owns -/
def PostT (K : Frg) (W : WX) (σ : L2.St) (Q : VK) (F : Fp) (G H : Hp) : Option (Res T × Env) → Prop
  | none => False
  | some (.ok t, ρ') => ∀ v Fs Fv G' H', Stp F G H (fun a => Fs a ∨ Fv a) G' H' → Slots K G' H' σ ρ' Fs → Own K G' H' v t Fv → (∀ a, Fv a → ¬ Fs a) → Q v H'
  | some (.exc C fs, ρ') => ∀ x F' G' H', Stp F G H F' G' H' → Slots K G' H' σ ρ' F' → ExcAt K G' H' x fs → W (.ref (cadr K C)) x σ H'
def SimT (K : Frg) (W : WX) (t : TE) (m : M T) : Prop := ∀ (F : Fp) (G H : Hp) (σ : L2.St) (ρ : Env) (Q : VK), Same G H → Slots K G H σ ρ F → PostT K W σ Q F G H (m ρ) → t σ H Q
structure Ot (X : Cx) (W : WX) (e : Expr) (t : TE) (m : M T) : Prop where
  pe : PE X e t
  sim : SimT X.K W t m
theorem PostT.mono {K : Frg} {W : WX} {σ : L2.St} {Q : VK} {F F1 : Fp} {G H G1 H1 : Hp} {r : Option (Res T × Env)} (s : Stp F G H F1 G1 H1) (h : PostT K W σ Q F G H r) : PostT K W σ Q F1 G1 H1 r := by
  match r, h with
  | some (.ok a, ρ'), h => exact fun v Fs Fv G' H' st sl a b => h v Fs Fv G' H' (s.trans st) sl a b
  | some (.exc C fs, ρ'), h => exact fun x F' G' H' st => h x F' G' H' (s.trans st)
theorem Sim.bindT {α β : Type} {K : Frg} {W : WX} {rel : Hp → Hp → β → α → Prop} {t : L2.St → Hp → (β → Hp → Prop) → Prop} {m : M α} (ht : Sim K W rel t m) {F : Fp} {G H : Hp} {σ : L2.St} {ρ : Env} {Q : β → Hp → Prop} {QN : VK} {f : α → Env → Option (Res T × Env)}
    (e : Same G H) (sl : Slots K G H σ ρ F) (h : PostT K W σ QN F G H (bnd (m ρ) f))
    (k : ∀ b a ρ' F' G' H', Same G' H' → Stp F G H F' G' H' → Slots K G' H' σ ρ' F' → rel G' H' b a → PostT K W σ QN F' G' H' (f a ρ') → Q b H') : t σ H Q := by
  refine ht F G H σ ρ Q e sl ?_
  revert h
  cases m ρ with
  | none => exact fun h => h
  | some r =>
    obtain ⟨a, ρ'⟩ := r
    cases a with
    | ok a => exact fun h b F' G' H' st sl' r => k b a ρ' F' G' H' st.gh st sl' r (PostT.mono st h)
    | exc C fs => exact fun h x F' G' H' st sl' ex => h x F' G' H' st sl' ex
def mFlat (m : M (List D)) : M T := fun ρ => bnd (m ρ) fun ds ρ1 => ret (.lst (ds.map .im)) ρ1
def nSetT (i : Nat) (m : M T) : N := fun ρ => bndS (m ρ) fun t ρ1 => some (.nx, ρ1.set i (some t))
def nRetT (m : M T) : N := fun ρ => bndS (m ρ) fun t ρ1 => some (.rt t, ρ1)
section
variable {X : Cx} {W : WX} {kp : List Nat} {tg iter e a b c : Expr} {es rest : List Expr} {ta tb tc te : TE} {t tr : TA} {ma mb mc me : M D} {mt : M Bool} {tt : TT} {ms : M (List D)} {mT : M T} {g : TG} {wi : TI} {pos : Pos}
theorem Ot.nw (h : Nw X W e te ms) : Ot X W e te (mFlat ms) := by
  refine ⟨h.pe, fun F G H σ ρ Q e sl p => ?_⟩
  refine h.sim F G H σ ρ Q e sl ?_
  revert p
  unfold mFlat
  cases ms ρ with
  | none => exact fun p => p
  | some r =>
    obtain ⟨a, ρ'⟩ := r
    cases a with
    | ok ds =>
      intro p l vs F' G' H' st sl' hl nl nf n r
      exact p (.ref l) F' (fun a => a = l) G' H' ⟨st.gg, st.gh, st.fr, st.th, st.gn, fun a h => h.elim (st.fn a) fun z => .inr (by rw [z]; exact n)⟩ sl' (.flatOf hl nl r) (fun a z => by rw [z]; exact nf)
    | exc C fs => exact fun p => p
theorem Nw.lst (h : As X W es t ms) (hl : es.length ≤ 1000 := by decide) : Nw X W (.List es pos) (tLst t) ms := by
  refine ⟨pe_lst h.pa, fun F G H σ ρ Q e sl p => ?_⟩
  refine h.sim.bindN (QN := Q) (f := fun ds ρ1 => MX.ret ds ρ1) e sl ?_ fun vs ds ρ1 F1 G1 H1 e1 s1 sl1 r h1 => ?_
  · revert p
    cases ms ρ with
    | none => exact fun p => p
    | some r =>
      obtain ⟨a, ρ'⟩ := r
      cases a <;> exact fun p => p
  · refine ⟨line_big (by rw [r.2]; omega), fun p np => ?_⟩
    have nF : Slots X.K G1 H1 σ ρ1 (fun a => F1 a ∧ H1 a ≠ none) := by
      obtain ⟨l, f, g1, g2, g3⟩ := sl1
      refine ⟨l, fun i a => f i a ∧ H1 a ≠ none, fun i t q => ?_, fun i j a n x y => g2 i j a n x.1 y.1, fun i a x => ⟨g3 i a x.1, x.2⟩⟩
      obtain ⟨v, e2, o⟩ := g1 i t q
      exact ⟨v, e2, o.live⟩
    have st := Stp.heap e1 np (.lst vs)
    exact h1 p vs (fun a => F1 a ∧ H1 a ≠ none) G1 _ ⟨st.gg, st.gh, fun a o x _ => st.fr a o x fun z => z.elim, st.th, fun a x y => absurd x y, fun a x => .inl x.1⟩ (nF.touch (fun z => z.2 np) (none_of e1 np) _) upd_same (none_of e1 np) (fun z => z.2 np) np r.1
/-- x = e, e owned -/
theorem sim_setT {K : Frg} {i : Nat} (hk : i ∉ kp) (h : SimT K W te mT) : SimS K W kp (tAsg te (gName i)) (nSetT i mT) := by
  intro F G H σ ρ D e sl p
  refine h F G H σ ρ _ e sl ?_
  revert p
  unfold nSetT
  cases mT ρ with
  | none => exact fun p => p
  | some r =>
    obtain ⟨a, ρ'⟩ := r
    cases a with
    | ok t => exact fun p v Fs Fv G' H' st sl' ow dj => p _ _ G' H' st (sl'.set ow dj i) (.set hk _)
    | exc C fs => exact fun p x F' G' H' st sl' ex => p x σ F' G' H' st sl' (.refl _ _) ex
theorem Sm.setT {x : Str} {pos' : Pos} (i : Nat) (hN : X.N.Nodup) (h : Ot X W e te mT) (hk : i ∉ kp := by decide) (hi : X.N[i]? = some x := by rfl) (hx : Loc X.env.scope x := by first | exact Or.inl rfl | exact Or.inr rfl) (hs : swapsWith e (some (.Name x pos')) pos.line X.env = pure false := by rfl) (hf : X.fn x = true ∨ X.env.scope.names.lookup x = some .local := by first | exact .inl rfl | exact .inr rfl) :
    Sm X W kp (.Assign [.Name x pos'] e pos) (tAsg te (gName i)) (nSetT i mT) := ⟨ps_set hN hi hx h.pe hs hf, sim_setT hk h.sim⟩
theorem Ot.flat {K : Frg} {m : M (List D)} (h : SimN K W te m) : SimT K W te (mFlat m) := by
  intro F G H σ ρ Q e sl p
  refine h F G H σ ρ Q e sl ?_
  revert p
  unfold mFlat
  cases m ρ with
  | none => exact fun p => p
  | some r =>
    obtain ⟨a, ρ'⟩ := r
    cases a with
    | ok ds =>
      intro p l vs F' G' H' st sl' hl nl nf n r
      exact p (.ref l) F' (fun a => a = l) G' H' ⟨st.gg, st.gh, st.fr, st.th, st.gn, fun a h => h.elim (st.fn a) fun z => .inr (by rw [z]; exact n)⟩ sl' (.flatOf hl nl r) (fun a z => by rw [z]; exact nf)
    | exc C fs => exact fun p => p
/-- x = [.. for ..], owned -/
theorem Sm.setLcO {js : List Nat} {bd : D → Env → Option Env} {scope : Scope} {own : List (Str × Nat)} {ifs : List Expr} {x : Str} {py spos : Pos} (i : Nat) (hc : X.calm = true) (hN : X.N.Nodup) (hi : Src X W tg iter wi ms) (ok : BlkOk X.N X.env.scope scope own)
    (hg : ∀ (s : Shared) (H : Hp) (C : Addr) (cl : List (Str × Addr)) (fp : List Addr), Tg (X.blk s H scope (compEnvC scope cl C X.env) fp) tg js g bd)
    (ht : ∀ (s : Shared) (H : Hp) (C : Addr) (cl : List (Str × Addr)) (fp : List Addr), Ts (X.blk s H scope (compEnvC scope cl C X.env) fp) WF rest tt mt)
    (he : ∀ (s : Shared) (H : Hp) (C : Addr) (cl : List (Str × Addr)) (fp : List Addr), Ex (X.blk s H scope (compEnvC scope cl C X.env) fp) WF e te me)
    (hj : ∀ j ∈ js, j ∈ own.map (·.2)) (hy : X.N[i]? = some x := by rfl) (hyl : X.env.scope.names.lookup x = some .local := by rfl) (hk : i ∉ kp := by decide)
    (hsw : swapsWith (.ListComp e [⟨tg, iter, rest, 0⟩] scope pos) (some (.Name x py)) spos.line X.env = pure true := by exact sw_true rfl rfl rfl (by decide +kernel)) (hs : ∀ x, foldedSetIterable iter X.env x = pure x := by intro _; rfl) :
    Sm X W kp (.Assign [.Name x py] (.ListComp e [⟨tg, iter, rest, 0⟩] scope pos) spos) (tAsg (tLc wi g tt te (own.map (·.2))) (gName i)) (nSetT i (mFlat (mLcN ms (own.map (·.2)) bd mt me))) :=
  ⟨ps_setLc hc hN hy hyl hsw hi.pi ok (fun s H C cl fp => (hg s H C cl fp).pg) (fun s H C cl fp => (ht s H C cl fp).pt) (fun s H C cl fp => (he s H C cl fp).pe) hs,
    sim_setT hk (Ot.flat <| sim_lc hi.sim (hg X.s_0 X.H_0 0 [] []).sim (ht X.s_0 X.H_0 0 [] []).sim (he X.s_0 X.H_0 0 [] []).sim hj)⟩
theorem Sm.retT (h : Ot X W e te mT) : Sm X W kp (.Return (some e) pos) (tRet te) (nRetT mT) := by
  refine ⟨ps_ret h.pe, fun F G H σ ρ D e sl p => ?_⟩
  refine h.sim F G H σ ρ _ e sl ?_
  revert p
  unfold nRetT
  cases mT ρ with
  | none => exact fun p => p
  | some r =>
    obtain ⟨a, ρ'⟩ := r
    cases a with
    | ok t => exact fun p v Fs Fv G' H' st sl' ow dj => p σ v Fs Fv G' H' st sl' ow dj (.refl _ _)
    | exc C fs => exact fun p x F' G' H' st sl' ex => p x σ F' G' H' st sl' (.refl _ _) ex
/-- f(..) of an owned answer -/
def resT : Option (Res T × List T) → Env → Option (Res T × Env)
  | some (.ok t, _), ρ => some (.ok t, ρ)
  | some (.exc C fs, _), ρ => some (.exc C fs, ρ)
  | none, _ => none
def mFnT (f : Fn) (ms : M (List D)) : M T := fun ρ => bnd (ms ρ) fun ds ρ1 => resT (f (ds.map .im)) ρ1
theorem Ot.fn {x : Str} {p : Pos} {k n : Nat} {f : Addr} {fd : FuncData} {ps : List Str} {fn : Fn} (F : FnOk X.prog X.w X.K X.mg X.base (L2.CX X.prog X.w) k f fd ps (spM X.K n fn)) (tk : Takes X W) (hr : Room k X.A) (hm : X.mg x = some (.ref f)) (hk : PySem.W.keepIn X.K (.ref f) = true) (hb : Binds X.K fd ps [])
    (ha : As X W (e :: es) t ms) (hn : es.length + 1 = n := by rfl) (hg : Gl X x := by rfl) (hdb : (x == ("__debug__" : Str)) = false := by decide)
    (he : starEach (e :: es) X.env = (false, eval e X.env) :: starEach es X.env := by rfl) (hpl : (backTo pos (starEach es X.env)).any (·.1) = false := by rfl) :
    Ot X W (.Call (.Name x p) (e :: es) [] pos) (tCallS (spM X.K n fn) (WE W) t) (mFnT fn ms) := by
  refine ⟨pe_callS F hr hg hm hk hb (fun σ => passAt tk σ) ha.pa hdb he hpl, fun F G H σ ρ Q e sl p => ?_⟩
  refine ha.sim.bindT e sl p fun vs ds ρ1 F1 G1 H1 e1 s1 sl1 r h1 => ?_
  refine ⟨F0, G1, ds.map .im, by rw [List.length_map, ← r.1.1, r.2]; exact hn, e1, owns_im r.1, ?_⟩
  have nF : Slots X.K G1 H1 σ ρ1 (fun a => F1 a ∧ H1 a ≠ none) := by
    obtain ⟨l, f, g1, g2, g3⟩ := sl1
    refine ⟨l, fun i a => f i a ∧ H1 a ≠ none, fun i t q => ?_, fun i j a n x y => g2 i j a n x.1 y.1, fun i a x => ⟨g3 i a x.1, x.2⟩⟩
    obtain ⟨v, e2, o⟩ := g1 i t q
    exact ⟨v, e2, o.live⟩
  revert h1
  cases fn (ds.map .im) with
  | none => exact fun h => h.elim
  | some q =>
    obtain ⟨q, ts'⟩ := q
    cases q with
    | ok u =>
      intro h v Fa Fv G' H' st _ ow _
      refine h v (fun a => F1 a ∧ H1 a ≠ none) Fv G' H' ⟨st.gg, st.gh, fun a o x _ => st.fr a o x fun z => z, st.th, fun a x y => (st.gn a x y).imp id fun z => z.elim, fun a x => ?_⟩ (nF.pure st.shut) ow fun a x y => ?_
      · rcases x with x | x
        · exact .inl x.1
        · rcases st.fn a (.inr x) with z | z
          · exact z.elim
          · exact .inr z
      · rcases st.fn a (.inr x) with z | z
        · exact z
        · exact y.2 z
    | exc C fs => exact fun h x Fa G' H' st _ ex => h x F1 G' H' st.shut1.pure (sl1.pure st.shut1) ex
/-! ### what is done to an owned row at a name -/
theorem Own.flatUpd {K : Frg} {G H : Hp} {p : Addr} {vs : List V} {ds : List D} (n : G p = none) (r : RepAll K G vs ds) : Own K G (upd H p (.lst vs)) (.ref p) (.lst (ds.map T.im)) (fun a => a = p) := .flatOf upd_same n r
theorem Stp.mine {G H : Hp} {p : Addr} {o : HO} (e : Same G H) (n : G p = none) : Stp (fun a => a = p) G H (fun a => a = p) G (upd H p o) where
  gg := Same.refl G
  gh := fun a u q => by rw [upd_ne (ne_of_none q n)]; exact e _ _ q
  fr := fun a u q nf => by rw [upd_ne nf]; exact q
  th := fun a q => by
    by_cases c : a = p
    · subst c; rw [upd_same] at q; cases q
    · rw [upd_ne c] at q; exact q
  gn := fun a x y => absurd x y
  fn := fun a x => .inl x
/-- the row at slot i becomes vs', ds' -/
theorem Slots.row {K : Frg} {F : Fp} {G H : Hp} {σ : L2.St} {ρ : Env} (sl : Slots K G H σ ρ F) (e : Same G H) {i : Nat} {ds : List D} (q : ownL ρ i = some ds) : ∃ p vs, σ[i]? = some (some (.ref p)) ∧ H p = some (.lst vs) ∧ G p = none ∧ RepAll K G vs ds ∧
    ∀ vs' ds', RepAll K G vs' ds' → ∃ F', Stp F G H F' G (upd H p (.lst vs')) ∧ Slots K G (upd H p (.lst vs')) σ (ρ.set i (some (.lst (ds'.map T.im)))) F' := by
  obtain ⟨v, Fv, e1, o, sub, back⟩ := sl.own (ownL_eq q)
  obtain ⟨p, vs, rfl, e2, n, fp, r⟩ := o.flat
  refine ⟨p, vs, e1, e2, n, r, fun vs' ds' r' => ⟨_, ?_, back _ (fun a => a = p) G _ _ (.mine e n) (fun a z => by rw [z]; exact fp) (.flatUpd n r') fun a z => .inl z⟩⟩
  have st := Stp.mine (o := .lst vs') e n
  refine ⟨st.gg, st.gh, fun a u x nf => st.fr a u x fun z => nf (by rw [z]; exact sub p fp), st.th, fun a x y => absurd x y, fun a x => ?_⟩
  rcases x with x | x
  · exact .inl x.1
  · exact .inl (by rw [x]; exact sub p fp)
def mApp (i : Nat) (m : M D) : M D := fun ρ => bnd (retO (ownL ρ i) ρ) fun _ ρ0 => bnd (m ρ0) fun d ρ1 => bnd (retO (ownL ρ1 i) ρ1) fun ds ρ2 => if ds.length < 1000000 then ret .non (ρ2.set i (some (.lst ((ds ++ [d]).map .im)))) else none
theorem Ex.app {y : Str} {yp apos cpos : Pos} (i : Nat) (h : Ex X W e te me) (hN : X.N[i]? = some y := by rfl) (hv : Vis X.env.scope y := by first | exact Or.inl rfl | exact Or.inr (Or.inl rfl) | exact Or.inr (Or.inr rfl)) (hd : (y == ("__debug__" : Str)) = false := by decide) (hcd : (y == ("__classdict__" : Str)) = false := by decide)
    (hbase : attributeBase (.Name y yp) "append" X.env (eval (.Name y yp) X.env) = eval (.Name y yp) X.env := by rfl)
    (hfew : ((backTo cpos (starEach (e :: []) X.env)).all (fun x => !x.1) && (backToKw cpos (keywordEach [] X.env)).all (fun x => x.1.isSome) && decide ((e :: ([] : List Expr)).length + ([] : List Keyword).length + (if ([] : List Keyword).isEmpty then 0 else 1) < 30)) = true := by rfl)
    (hline : (apos.endLine == cpos.line) = true := by rfl) (hs : starEach (e :: []) X.env = (false, eval e X.env) :: starEach [] X.env := by rfl) (hpl : (backTo cpos (starEach [] X.env)).any (·.1) = false := by rfl) :
    Ex X W (.Call (.Attribute (.Name y yp) "append" apos) [e] [] cpos) (tBM X.K "list" rAppend (tVar i) (tCons te tNil)) (mApp i me) := by
  refine ⟨pe_bm PySem.F.plainAttrs_list PySem.F.slot_list_append PySem.F.type_list_append mt_append (pe_var hN hv hd hcd) (pa_cons h.pe pa_nil hs) hbase hfew hline hs hpl, fun F G H σ ρ Q e sl p => ?_⟩
  unfold mApp at p
  cases q0 : ownL ρ i with
  | none => rw [q0] at p; exact p.elim
  | some ds0 =>
    rw [q0] at p
    obtain ⟨l, vs0, hv, hl0, _, _, _⟩ := sl.row e q0
    refine ⟨_, hv, .inl ⟨rfl, _, SqL.of hl0⟩, ?_⟩
    refine h.sim.bind e sl p fun y d ρ1 F1 G1 H1 e1 s1 sl1 r h1 => ?_
    cases q1 : ownL ρ1 i with
    | none => rw [q1] at h1; exact h1.elim
    | some ds =>
      rw [q1] at h1
      obtain ⟨l', vs, hv', hl, n, rr, go⟩ := sl1.row e1 q1
      rw [hv] at hv'
      cases hv'
      have h2 : Post X.K W σ (relD X.K) (fun b _ _ _ _ H' => Q b H') F1 G1 H1 (if ds.length < 1000000 then MX.ret .non (ρ1.set i (some (.lst ((ds ++ [d]).map .im)))) else none) := h1
      split at h2
      · rename_i hz
        obtain ⟨F', st, sl'⟩ := go (vs ++ [y]) (ds ++ [d]) (rr.append (.cons r .nil))
        exact ⟨_, vs, y, rfl, rfl, hl, line_lt (by rw [rr.1]; exact hz), h2 .non F' G1 _ st sl' .non⟩
      · exact h2.elim
/-- x[k] = e, an owned row at a name -/
def nPutIx (i : Nat) (me mk : M D) : N := fun ρ => bndS (me ρ) fun d ρ1 => bndS (retO (ownL ρ1 i) ρ1) fun _ ρ1 => bndS (mk ρ1) fun k ρ2 => bndS (retO (ownL ρ2 i) ρ2) fun ds ρ3 => match k with
  | .int z => (match ixN ds.length z with
    | some j => some (.nx, ρ3.set i (some (.lst ((ds.set j d).map .im))))
    | none => none)
  | _ => none
theorem RepAll.set {K : Frg} {G : Hp} {vs : List V} {ds : List D} (h : RepAll K G vs ds) {v : V} {d : D} (r : Rep K G v d) (j : Nat) : RepAll K G (vs.set j v) (ds.set j d) := by
  refine ⟨by simp [h.1], fun i x y a b => ?_⟩
  by_cases c : j = i
  · subst c
    by_cases hj : j < vs.length
    · rw [List.getElem?_set_self hj] at a
      rw [List.getElem?_set_self (by rw [← h.1]; exact hj)] at b
      cases a; cases b
      exact r
    · rw [List.getElem?_eq_none (by rw [List.length_set]; omega)] at a
      cases a
  · rw [List.getElem?_set_ne c] at a b
    exact h.2 i x y a b
theorem Sm.putIx {y : Str} {yp sp : Pos} (i : Nat) (he : Ex X W e te me) (hk : Ex X W b tb mb) (hN : X.N[i]? = some y := by rfl) (hv : Vis X.env.scope y := by first | exact Or.inl rfl | exact Or.inr (Or.inl rfl) | exact Or.inr (Or.inr rfl)) (hd : (y == ("__debug__" : Str)) = false := by decide) (hcd : (y == ("__classdict__" : Str)) = false := by decide)
    (ha : ∀ v, assign (.Subscript (.Name y yp) b sp) X.env v = (do
      let ov ← holding [v] (eval (.Name y yp) X.env)
      let iv ← holding [v, ov] (eval b X.env)
      standAt sp
      holding [v, ov, iv] (setItem ov iv v)
      release [v, ov, iv] []) := by intro _; rfl)
    (hs : swapsWithSole [.Subscript (.Name y yp) b sp] e pos.line X.env = pure false := by rfl) (hw : swappedStores [.Subscript (.Name y yp) b sp] e X.env = pure none := by rfl)
    (h1 : (assignEach [.Subscript (.Name y yp) b sp] X.env).map (·.2) = [assign (.Subscript (.Name y yp) b sp) X.env] := by rfl) :
    Sm X W kp (.Assign [.Subscript (.Name y yp) b sp] e pos) (tAsg te (gSub (tVar i) tb rSetL)) (nPutIx i me mb) := by
  refine ⟨ps_asg he.pe (pg_sub (pe_var hN hv hd hcd) hk.pe set_list ha) hs hw h1, fun F G H σ ρ D e sl p => ?_⟩
  refine he.sim.bindS e sl p fun v d ρ1 F1 G1 H1 e1 s1 sl1 r h1 => ?_
  cases q0 : ownL ρ1 i with
  | none => rw [q0] at h1; exact h1.elim
  | some ds0 =>
    rw [q0] at h1
    obtain ⟨l, vs0, hv, hl0, _, _, _⟩ := sl1.row e1 q0
    refine ⟨_, hv, ?_⟩
    refine hk.sim.bindS e1 sl1 h1 fun u k ρ2 F2 G2 H2 e2 s2 sl2 rk h2 => ?_
    cases q1 : ownL ρ2 i with
    | none => rw [q1] at h2; exact h2.elim
    | some ds =>
      rw [q1] at h2
      obtain ⟨l', vs, hv', hl, n, rr, go⟩ := sl2.row e2 q1
      rw [hv] at hv'
      cases hv'
      cases k with
      | int z =>
        cases rk
        have h3 : PostS X.K W kp σ D F2 G2 H2 (match ixN ds.length z with
          | some j => some (.nx, ρ2.set i (some (.lst ((ds.set j d).map .im))))
          | none => none) := h2
        cases q2 : ixN ds.length z with
        | none => rw [q2] at h3; exact h3.elim
        | some j =>
          rw [q2] at h3
          obtain ⟨F', st, sl'⟩ := go (vs.set j v) (ds.set j d) (rr.set (Rep.mono s2.gg r) j)
          exact ⟨_, vs, z, j, rfl, rfl, hl, by rw [rr.1]; exact q2, h3 σ F' G2 _ st sl' (.refl _ _)⟩
      | _ => exact h2.elim
end
end MX

namespace MX
open PySem PySem.Spec PyProof.Rows L2
/-! ### attributes of frozen objects -/
theorem lookup_rep {K : Frg} {G : Hp} : ∀ {fs : List (Str × V)} {gs : List (Nat × D)} {k : Nat} {d : D}, k < 45 → fs.map (·.1) = gs.map (fun g => fname g.1) → (∀ (i : Nat) (p : Str × V) (q : Nat × D), fs[i]? = some p → gs[i]? = some q → Rep K G p.2 q.2) → gs.lookup k = some d → ∃ v, fs.lookup (fname k) = some v ∧ Rep K G v d
  | [], [], k, d, _, _, _, h => by cases h
  | [], _ :: _, k, d, _, e, _, _ => by cases e
  | _ :: _, [], k, d, _, e, _, _ => by cases e
  | (x, v) :: fs, (j, c) :: gs, k, d, hk, e, r, h => by
    have e' : x = fname j ∧ fs.map (·.1) = gs.map (fun g => fname g.1) := by simpa using e
    by_cases q : k = j
    · subst q
      have hd : List.lookup k ((k, c) :: gs) = some c := by simp [List.lookup]
      rw [hd] at h
      cases h
      refine ⟨v, ?_, r 0 _ _ rfl rfl⟩
      rw [e'.1]
      simp [List.lookup]
    · have hb : (k == j) = false := by simpa using q
      have h' : gs.lookup k = some d := by
        simp only [List.lookup, hb] at h
        exact h
      obtain ⟨w, e1, r1⟩ := lookup_rep hk e'.2 (fun i p q a b => r (i + 1) p q (by simpa using a) (by simpa using b)) h'
      refine ⟨w, ?_, r1⟩
      have hb2 : (fname k == x) = false := by
        rw [e'.1]
        have : fname k ≠ fname j := fun z => q (fname_inj hk z.symm).symm
        simpa using this
      simp only [List.lookup, hb2]
      exact e1
def fldD (k : Nat) (cs : List Nat) : D → Option D
  | .obj c gs => if c ∈ cs then gs.lookup k else none
  | _ => none
def mFld (k : Nat) (cs : List Nat) (m : M D) : M D := fun ρ => bnd (m ρ) fun d ρ1 => retO (fldD k cs d) ρ1
section
variable {X : Cx} {W : WX} {kp : List Nat} {tg iter e o a b c : Expr} {es rest : List Expr} {ta tb tc te : TE} {t tr : TA} {ma mb mc me : M D} {mt : M Bool} {tt : TT} {ms : M (List D)} {mT : M T} {g : TG} {wi : TI} {pos : Pos}
theorem Ex.fld {f : Str} (k : Nat) (cs : List Nat) (h : Ex X W o te me) (hc : ∀ c ∈ cs, Cls X.K (cadr X.K c) ∧ NoAttr X.K (cadr X.K c) (fname k)) (hf : fname k = f := by rfl) (hk : k < 45 := by decide) (hb : attributeBase o f X.env (eval o X.env) = eval o X.env := by rfl) :
    Ex X W (.Attribute o f pos) (tFld X.K te f) (mFld k cs me) := by
  subst hf
  refine ⟨pe_fld h.pe hb, fun F G H σ ρ Q e sl p => ?_⟩
  refine h.sim.bind e sl p fun v d ρ1 F1 G1 H1 e1 s1 sl1 r h1 => ?_
  obtain ⟨x, hd, h2⟩ := h1.retO
  cases d with
  | obj c gs =>
    have hd' : (if c ∈ cs then gs.lookup k else none) = some x := hd
    split at hd'
    · rename_i hcs
      cases r with
      | obj s l r =>
        obtain ⟨w, e2, rw'⟩ := lookup_rep hk l r hd'
        obtain ⟨c1, c2⟩ := hc c hcs
        exact ⟨_, _, _, _, w, rfl, e1 _ _ s, c1, c2, e2, h2 w F1 G1 H1 (.refl e1) sl1 rw'⟩
    · cases hd'
  | _ => cases hd
/-! ### an owned object at a name -/
/-- its attributes are data -/
def objAt (ρ : Env) (i : Nat) : Option (Nat × List (Nat × T)) := match ρ[i]? with
  | some (some (.obj c fs)) => some (c, fs)
  | _ => none
theorem objAt_eq {ρ : Env} {i : Nat} {c : Nat} {fs : List (Nat × T)} (h : objAt ρ i = some (c, fs)) : ρ[i]? = some (some (.obj c fs)) := by
  unfold objAt at h
  split at h
  · rename_i c' fs' q
    cases h
    exact q
  · cases h
def putT (k : Nat) (t : T) : List (Nat × T) → List (Nat × T)
  | [] => [(k, t)]
  | (j, u) :: r => if j = k then (j, t) :: r else (j, u) :: putT k t r
theorem putT_names {k : Nat} (hk : k < 45) {t : T} {v : V} : ∀ {fs : List (Str × V)} {gs : List (Nat × T)}, fs.map (·.1) = gs.map (fun g => fname g.1) → (putF (fname k) v fs).map (·.1) = (putT k t gs).map (fun g => fname g.1)
  | [], [], _ => rfl
  | [], _ :: _, e => by cases e
  | _ :: _, [], e => by cases e
  | (x, u) :: fs, (j, s) :: gs, e => by
    have e' : x = fname j ∧ fs.map (·.1) = gs.map (fun g => fname g.1) := by simpa using e
    show (if x = fname k then (x, v) :: fs else (x, u) :: putF (fname k) v fs).map (·.1) = (if j = k then (j, t) :: gs else (j, s) :: putT k t gs).map (fun g => fname g.1)
    by_cases q : j = k
    · rw [if_pos q, if_pos (by rw [e'.1, q])]
      simp [e'.1, e'.2]
    · rw [if_neg q, if_neg (fun z => q (fname_inj hk (e'.1.symm.trans z)))]
      have ih := putT_names hk (t := t) (v := v) e'.2
      simp [e'.1, ih]
/-- what stands at place i behind the store -/
theorem putT_at {k : Nat} (hk : k < 45) {t : T} {v : V} : ∀ {fs : List (Str × V)} {gs : List (Nat × T)} {i : Nat} {p : Str × V} {q : Nat × T}, fs.map (·.1) = gs.map (fun g => fname g.1) → (putF (fname k) v fs)[i]? = some p → (putT k t gs)[i]? = some q →
    (p.2 = v ∧ q.2 = t) ∨ (fs[i]? = some p ∧ gs[i]? = some q)
  | [], [], i, p, q, _, a, b => by
    cases i with
    | zero => cases a; cases b; exact .inl ⟨rfl, rfl⟩
    | succ i => cases a
  | [], _ :: _, _, _, _, e, _, _ => by cases e
  | _ :: _, [], _, _, _, e, _, _ => by cases e
  | (x, u) :: fs, (j, s) :: gs, i, p, q, e, a, b => by
    have e' : x = fname j ∧ fs.map (·.1) = gs.map (fun g => fname g.1) := by simpa using e
    have a' : (if x = fname k then (x, v) :: fs else (x, u) :: putF (fname k) v fs)[i]? = some p := a
    have b' : (if j = k then (j, t) :: gs else (j, s) :: putT k t gs)[i]? = some q := b
    by_cases z : j = k
    · rw [if_pos z] at b'
      rw [if_pos (by rw [e'.1, z])] at a'
      cases i with
      | zero => cases a'; cases b'; exact .inl ⟨rfl, rfl⟩
      | succ i => exact .inr ⟨a', b'⟩
    · rw [if_neg z] at b'
      rw [if_neg (fun y => z (fname_inj hk (e'.1.symm.trans y)))] at a'
      cases i with
      | zero => cases a'; cases b'; exact .inr ⟨rfl, rfl⟩
      | succ i =>
        have ih := putT_at (fs := fs) (gs := gs) (i := i) hk e'.2 a' b'
        exact ih
theorem putT_length {k : Nat} {t : T} : ∀ gs : List (Nat × T), (putT k t gs).length ≤ gs.length + 1
  | [] => Nat.le_refl _
  | (j, s) :: gs => by
    show (if j = k then (j, t) :: gs else (j, s) :: putT k t gs).length ≤ _
    split
    · simp
    · have := putT_length (k := k) (t := t) gs
      simp only [List.length_cons]; omega
/-- self.f = e, data -/
def nFldSet (k i : Nat) (cs : List Nat) (m : M D) : N := fun ρ => bndS (m ρ) fun d ρ1 => match objAt ρ1 i with
  | some (c, fs) => if c ∈ cs ∧ fs.length < 900 then some (.nx, ρ1.set i (some (.obj c (putT k (.im d) fs)))) else none
  | none => none
theorem Sm.fldSet {f y : Str} {yp fp : Pos} (k i : Nat) (cs : List Nat) (h : Ex X W e te me) (hc : ∀ c ∈ cs, Cls X.K (cadr X.K c) ∧ NoAttr X.K (cadr X.K c) (fname k)) (hf : fname k = f := by rfl) (hk : k < 45 := by decide)
    (hN : X.N[i]? = some y := by rfl) (hv : Vis X.env.scope y := by first | exact Or.inl rfl | exact Or.inr (Or.inl rfl) | exact Or.inr (Or.inr rfl)) (hd : (y == ("__debug__" : Str)) = false := by decide) (hcd : (y == ("__classdict__" : Str)) = false := by decide) (hs : swapsWith e (some (.Attribute (.Name y yp) f fp)) pos.line X.env = pure false := by rfl) :
    Sm X W kp (.Assign [.Attribute (.Name y yp) f fp] e pos) (sFld X.K (tVar i) te f) (nFldSet k i cs me) := by
  subst hf
  refine ⟨ps_fld (pe_var hN hv hd hcd) h.pe hs, fun F G H σ ρ D e sl p => ?_⟩
  refine h.sim.bindS e sl p fun v d ρ1 F1 G1 H1 e1 s1 sl1 r h1 => ?_
  cases q : objAt ρ1 i with
  | none => rw [q] at h1; exact h1.elim
  | some cf =>
    obtain ⟨c, fs⟩ := cf
    rw [q] at h1
    have h2 : PostS X.K W kp σ D F1 G1 H1 (if c ∈ cs ∧ fs.length < 900 then some (.nx, ρ1.set i (some (.obj c (putT k (.im d) fs)))) else none) := h1
    split at h2
    · rename_i hcs
      obtain ⟨w, Fw, hw, ow, sub, back⟩ := sl1.own (objAt_eq q)
      refine ⟨w, hw, ?_⟩
      cases ow with
      | @obj p dx _ fsV _ _ g e2 n l s dj sb fpp =>
        obtain ⟨c1, c2⟩ := hc c hcs.1
        have hl : fsV.length = fs.length := by simpa using congrArg List.length l
        refine ⟨_, _, _, _, rfl, e2, c1, c2, by omega, ?_⟩
        have st : Stp Fw G1 H1 Fw G1 (upd H1 p (.ins (cadr X.K c) dx (putF (fname k) v fsV))) := by
          have z := Stp.mine (o := .ins (cadr X.K c) dx (putF (fname k) v fsV)) e1 n
          exact ⟨z.gg, z.gh, fun a u x nf => z.fr a u x fun y => nf (by rw [y]; exact fpp), z.th, fun a x y => absurd x y, fun a x => .inl x⟩
        have o' : Own X.K G1 (upd H1 p (.ins (cadr X.K c) dx (putF (fname k) v fsV))) (.ref p) (.obj c (putT k (.im d) fs)) Fw := by
          refine .obj g upd_same n (putT_names hk l) (fun j u t a b => ?_) dj sb fpp
          rcases putT_at hk l a b with ⟨z1, z2⟩ | ⟨z1, z2⟩
          · rw [z1, z2]; exact .im r
          · refine (s j u t z1 z2).stay (Same.refl G1) (fun a o fa x => ?_) fun a o _ _ x => x
            rw [upd_ne (sb j a fa).2]
            exact x
        have sl2 := back Fw Fw G1 _ _ st (fun _ z => z) o' fun a z => .inl z
        refine h2 σ _ G1 _ ⟨st.gg, st.gh, fun a u x nf => st.fr a u x fun y => nf (sub a y), st.th, fun a x y => absurd x y, fun a x => .inl ?_⟩ sl2 (.refl _ _)
        rcases x with x | x
        · exact x.1
        · exact sub a x
    · exact h2.elim
/-! ### methods of an owned object at a name: o.m(e, ..) as a call that lends it -/
def tMethS (C : Addr) (m : Str) (sp : Sp) (E : L2.St → XK) (ta : TE) (t : TA) : TE := fun σ H Q => ta σ H fun x H1 => ∃ a dx fs, x = .ref a ∧ H1 a = some (.ins C dx fs) ∧ fs.lookup m = none ∧ t σ H1 fun vs H2 => sp (x :: vs) H2 Q (E σ)
theorem pe_methS {CX : CXT} {k : Nat} {f C : Addr} {fd : FuncData} {ps : List Str} {sp : Sp} {E : L2.St → XK} {m : Str} {apos : Pos} {pl : Sem Bool} (ho : PE X o ta) (cl : Cls X.K C) (hm : Meth X.K C m f) (F : FnOk X.prog X.w X.K X.mg X.base CX k f fd ps sp) (hr : Room k X.A) (hb : Binds X.K fd ps []) (hx : ∀ σ, PassesAt CX X σ (E σ)) (ha : PA X (e :: es) t)
    (hst : starEach (e :: es) X.env = (false, eval e X.env) :: starEach es X.env := by rfl) (hpl : (backTo pos (starEach es X.env)).any (·.1) = false := by rfl)
    (ht : eval (.Call (.Attribute o m apos) (e :: es) [] pos) X.env = (do
      let ov ← eval o X.env
      standAt apos.atName
      let (f, first) ← holding [ov] (getMethod ov m pl)
      callWith pos f first (backTo pos (starEach (e :: es) X.env)) (backToKw pos (keywordEach [] X.env))) := by rfl) :
    PE X (.Call (.Attribute o m apos) (e :: es) [] pos) (tMethS C m sp E ta t) := by
  constructor
  intro pz sa σ Ha Q Ja hw
  refine PySem.W.methodCall_KW (pl := pl) (thn (ho.run pz sa σ Ha _ Ja hw) ?_) ht
  rintro u sb ⟨y, Hb, Jb, ry, ad, dx, fs, rfl, eo, hl, q⟩
  obtain rfl : u = Value.ref ad := ry
  refine getmeth_ok Jb eo cl hm hl ?_
  refine PySem.W.callWith_K (first := [.ref ad]) (h₀ := X.base) Ja.ok.mod.kin hm.kp (thn (ha.run pos pz sb σ Hb _ Jb q) ?_) hst hpl
  rintro us sc ⟨vs, Hc, Jc, rv, q2⟩
  exact ⟨Jc.kIn, run_fnS (us := .ref ad :: us) (vs := .ref ad :: vs) F hr hb (hx σ) Jc (.cons rfl rv) q2⟩
/-- an object's own classes: c is known where the method is found -/
def mMethO (f : Fn) (i c0 : Nat) (m : Nat) (ms : M (List D)) : M D := fun ρ => bnd (retO (objAt ρ i) ρ) fun cf ρ0 => if cf.1 = c0 ∧ (cf.2.map (·.1)).all (fun j => decide (j < 45)) = true then mFnO f i ms ρ0 else none
/-- a method's name is no attribute's -/
def isFld (m : Str) : Bool := fTab.any fun x => decide (Str.ofString x = m)
theorem lookup_none {m : Str} (hm : isFld m = false) : ∀ {fs : List (Str × V)} {gs : List (Nat × T)}, fs.map (·.1) = gs.map (fun g => fname g.1) → (gs.map (·.1)).all (fun j => decide (j < 45)) = true → fs.lookup m = none
  | [], _, _, _ => rfl
  | _ :: _, [], e, _ => by cases e
  | (x, v) :: fs, (j, t) :: gs, e, h => by
    have e' : x = fname j ∧ fs.map (·.1) = gs.map (fun g => fname g.1) := by simpa using e
    have h' : j < 45 ∧ (gs.map (·.1)).all (fun j => decide (j < 45)) = true := by
      rw [List.map_cons, List.all_cons, Bool.and_eq_true] at h
      exact ⟨of_decide_eq_true h.1, h.2⟩
    have nx : ¬ m = x := by
      intro z
      have q : isFld m = true := by
        unfold isFld
        rw [List.any_eq_true]
        have hj : j < fTab.length := h'.1
        refine ⟨fTab[j], List.getElem_mem hj, ?_⟩
        rw [z, e'.1]
        unfold fname
        rw [List.getD_eq_getElem?_getD, List.getElem?_eq_getElem hj]
        exact decide_eq_true rfl
      rw [hm] at q; cases q
    have hb : (m == x) = false := by simpa using nx
    simp only [List.lookup, hb]
    exact lookup_none hm e'.2 h'.2
theorem Ex.methO {y m : Str} {yp apos : Pos} {k n : Nat} {f : Addr} {fd : FuncData} {ps : List Str} {fn : Fn} {pl : Sem Bool} (i c0 : Nat) (F : FnOk X.prog X.w X.K X.mg X.base (L2.CX X.prog X.w) k f fd ps (spM X.K (n + 1) fn)) (tk : Takes X W) (hr : Room k X.A) (cl : Cls X.K (cadr X.K c0)) (hm : Meth X.K (cadr X.K c0) m f) (hb : Binds X.K fd ps [])
    (ha : As X W (e :: es) t ms) (hn : es.length + 1 = n := by rfl) (hf : isFld m = false := by decide +kernel)
    (hN : X.N[i]? = some y := by rfl) (hv : Vis X.env.scope y := by first | exact Or.inl rfl | exact Or.inr (Or.inl rfl) | exact Or.inr (Or.inr rfl)) (hd : (y == ("__debug__" : Str)) = false := by decide) (hcd : (y == ("__classdict__" : Str)) = false := by decide)
    (hst : starEach (e :: es) X.env = (false, eval e X.env) :: starEach es X.env := by rfl) (hpl : (backTo pos (starEach es X.env)).any (·.1) = false := by rfl)
    (ht : eval (.Call (.Attribute (.Name y yp) m apos) (e :: es) [] pos) X.env = (do
      let ov ← eval (.Name y yp) X.env
      standAt apos.atName
      let (f, first) ← holding [ov] (getMethod ov m pl)
      callWith pos f first (backTo pos (starEach (e :: es) X.env)) (backToKw pos (keywordEach [] X.env))) := by rfl) :
    Ex X W (.Call (.Attribute (.Name y yp) m apos) (e :: es) [] pos) (tMethS (cadr X.K c0) m (spM X.K (n + 1) fn) (WE W) (tVar i) t) (mMethO fn i c0 0 ms) := by
  subst hn
  refine ⟨pe_methS (pe_var hN hv hd hcd) cl hm F hr hb (fun σ => passAt tk σ) ha.pa hst hpl ht, fun F G H σ ρ Q e sl p => ?_⟩
  unfold mMethO at p
  cases q0 : objAt ρ i with
  | none => rw [q0] at p; exact p.elim
  | some cf =>
    obtain ⟨c, fs⟩ := cf
    rw [q0] at p
    have p' : Post X.K W σ (relD X.K) (fun b _ _ _ _ H' => Q b H') F G H (if c = c0 ∧ (fs.map (·.1)).all (fun j => decide (j < 45)) = true then mFnO fn i ms ρ else none) := p
    split at p'
    · rename_i hcc
      obtain ⟨w, Fw, hw, ow, sub, back⟩ := sl.own (objAt_eq q0)
      obtain ⟨v, hv', z⟩ := sim_fnO ha.sim F G H σ ρ Q e sl p'
      rw [hw] at hv'
      cases hv'
      refine ⟨w, hw, ?_⟩
      cases ow with
      | obj g e2 n l s dj sb fpp =>
        rw [hcc.1] at e2
        exact ⟨_, _, _, rfl, e2, lookup_none hf l hcc.2, z⟩
    · exact p'.elim
end
end MX

namespace MX
open PySem PySem.Spec PyProof.Rows L2
/-! ### C(e, ..): made and frozen -/
def tMakeS (C : Addr) (sp : Sp) (E : L2.St → XK) (t : TA) : TE := fun σ H Q => t σ H fun vs H1 => ∀ x dx, H1 x = none → H1 dx = none → dx ≠ x →
  sp (.ref x :: vs) (upd (upd H1 dx (.own x)) x (.ins C dx [])) (fun v H2 => v = .non ∧ Q (.ref x) H2) (E σ)
def imF : List (Nat × T) → Option (List (Nat × D))
  | [] => some []
  | (k, .im d) :: r => (imF r).map ((k, d) :: ·)
  | _ :: _ => none
theorem imF_eq : ∀ {ts : List (Nat × T)} {gs : List (Nat × D)}, imF ts = some gs → ts = gs.map fun g => (g.1, T.im g.2)
  | [], gs, h => by cases h; rfl
  | (k, t) :: ts, gs, h => by
    cases t with
    | im d =>
      have h' : (imF ts).map ((k, d) :: ·) = some gs := h
      cases e : imF ts with
      | none => rw [e] at h'; cases h'
      | some es =>
        rw [e] at h'
        cases h'
        rw [imF_eq e]; rfl
    | _ => cases h
def resM (c : Nat) : Option (Res T × List T) → Env → Option (Res D × Env)
  | some (.ok (.im .non), .obj c' fs :: _), ρ => if c' = c then (imF fs).map fun gs => (.ok (.obj c gs), ρ) else none
  | some (.exc C fs, _), ρ => some (.exc C fs, ρ)
  | _, _ => none
def mMake (c : Nat) (f : Fn) (ms : M (List D)) : M D := fun ρ => bnd (ms ρ) fun ds ρ1 => resM c (f (.obj c [] :: ds.map .im)) ρ1
theorem own_im {K : Frg} {G H : Hp} {v : V} {d : D} {F : Fp} (o : Own K G H v (.im d) F) : Rep K G v d := by
  cases o with
  | im r => exact r
section
variable {X : Cx} {W : WX} {kp : List Nat} {tg iter e o a b c : Expr} {es rest : List Expr} {ta tb tc te : TE} {t tr : TA} {ma mb mc me : M D} {mt : M Bool} {tt : TT} {ms : M (List D)} {mT : M T} {g : TG} {wi : TI} {pos : Pos}
theorem pe_makeS {CX : CXT} {x : Str} {p : Pos} {k : Nat} {f C : Addr} {fd : FuncData} {ps : List Str} {sp : Sp} {E : L2.St → XK} (Mk0 : Mk X.K C f) (F : FnOk X.prog X.w X.K X.mg X.base CX k f fd ps sp) (hr : Room (k + 1) X.A) (hm : X.mg x = some (.ref C)) (hb : Binds X.K fd ps []) (hx : ∀ σ, PassesAt CX X σ (E σ)) (ha : PA X (e :: es) t)
    (hg : Gl X x := by rfl) (hdb : (x == ("__debug__" : Str)) = false := by decide) (he : starEach (e :: es) X.env = (false, eval e X.env) :: starEach es X.env := by rfl) (hpl : (backTo pos (starEach es X.env)).any (·.1) = false := by rfl) :
    PE X (.Call (.Name x p) (e :: es) [] pos) (tMakeS C sp E t) := by
  constructor
  intro pz sa σ Ha Q Ja hw
  refine wpAny_Call_Name_kw (ld_glob Ja hg hm ?_ hdb)
  refine PySem.W.callWith_K (h₀ := X.base) Ja.ok.mod.kin Mk0.kp (thn (ha.run pos pz sa σ Ha _ Ja hw) ?_) he hpl
  rintro us sb ⟨vs, Hb, Jb, rv, q⟩
  refine ⟨Jb.kIn, ?_⟩
  have q1 := q (sb.heap.objs.size + 1) sb.heap.objs.size (Jb.hok.fresh (Nat.le_succ _)) (Jb.hok.fresh (Nat.le_refl _)) (Nat.ne_of_lt (Nat.lt_succ_self _))
  have J2 := Inv.made (C := C) Jb
  have rr : Vals (V.ref (sb.heap.objs.size + 1) :: vs) (Value.ref (sb.heap.objs.size + 1) :: us) := .cons rfl rv
  have ll : ((Value.ref (sb.heap.objs.size + 1) :: us) ++ ([] : List Value)).length = ps.length := by
    rw [List.append_nil, ← rr.length]
    exact F.len _ _ _ _ q1
  have bb := hb _ (Value.ref (sb.heap.objs.size + 1) :: us) J2.kIn ll
  rw [List.append_nil] at bb
  refine wpAny_call (make_map (f := f) Jb.kIn Mk0.makes Mk0.init (beq_iff_eq.mp Mk0.fn) (codeAny_mono (F.run _ X.stack _ _ _ _ _ _ (E σ) (hr.make C us []) (J2.env0.make C us []) bb rr q1) ?_))
  intro r s' hq
  cases r with
  | error z => exact hx σ pz _ _ z s' J2 hq
  | ok fl =>
    cases fl with
    | ret u =>
      obtain ⟨v, H', J3, rz, ev, q3⟩ := J2.after hq
      subst ev
      exact ⟨rz, V.ref (sb.heap.objs.size + 1), H', J3, rfl, q3⟩
    | _ => exact False.elim hq
theorem Ex.make {x : Str} {p : Pos} {k n : Nat} {f : Addr} {fd : FuncData} {ps : List Str} {fn : Fn} (c0 : Nat) (Mk0 : Mk X.K (cadr X.K c0) f) (F : FnOk X.prog X.w X.K X.mg X.base (L2.CX X.prog X.w) k f fd ps (spM X.K (n + 1) fn)) (tk : Takes X W) (hr : Room (k + 1) X.A) (hm : X.mg x = some (.ref (cadr X.K c0))) (hb : Binds X.K fd ps [])
    (ha : As X W (e :: es) t ms) (hn : es.length + 1 = n := by rfl) (hg : Gl X x := by rfl) (hdb : (x == ("__debug__" : Str)) = false := by decide)
    (he : starEach (e :: es) X.env = (false, eval e X.env) :: starEach es X.env := by rfl) (hpl : (backTo pos (starEach es X.env)).any (·.1) = false := by rfl) :
    Ex X W (.Call (.Name x p) (e :: es) [] pos) (tMakeS (cadr X.K c0) (spM X.K (n + 1) fn) (WE W) t) (mMake c0 fn ms) := by
  refine ⟨pe_makeS Mk0 F hr hm hb (fun σ => passAt tk σ) ha.pa hg hdb he hpl, fun F G H σ ρ Q e sl p => ?_⟩
  refine ha.sim.bind e sl p fun vs ds ρ1 F1 G1 H1 e1 s1 sl1 r h1 => ?_
  intro y dy ny nd hne
  have ngy : G1 y = none := none_of e1 ny
  have eH : Same G1 (upd (upd H1 dy (.own y)) y (.ins (cadr X.K c0) dy [])) := fun a u q => by
    rw [upd_ne (ne_of_none q ngy), upd_ne (ne_of_none q (none_of e1 nd))]
    exact e1 _ _ q
  have oo : Owns X.K G1 (upd (upd H1 dy (.own y)) y (.ins (cadr X.K c0) dy [])) (.ref y :: vs) (.obj c0 [] :: ds.map .im) (fun a => a = y) := by
    refine ⟨by simp [r.1.1], fun j => if j = 0 then (fun a => a = y) else F0, fun j u s eu es => ?_, fun j k a n x z => ?_, fun j a x => ?_⟩
    · cases j with
      | zero =>
        cases eu; cases es
        exact .obj (fun _ => F0) upd_same ngy rfl (fun i u t a _ => by simp at a) (fun _ _ _ _ z => z.elim) (fun _ _ z => z.elim) rfl
      | succ j =>
        show Own X.K G1 _ u s F0
        have es' : (ds.map T.im)[j]? = some s := by simpa using es
        have eu' : vs[j]? = some u := by simpa using eu
        rw [List.getElem?_map] at es'
        cases z : ds[j]? with
        | none => rw [z] at es'; cases es'
        | some d => rw [z] at es'; cases es'; exact .im (r.1.2 j u d eu' z)
    · dsimp only at x z
      by_cases c : j = 0
      · rw [if_neg (fun w => n (c.trans w.symm))] at z
        exact z
      · rw [if_neg c] at x
        exact x.elim
    · dsimp only at x
      by_cases c : j = 0
      · rw [if_pos c] at x; exact x
      · rw [if_neg c] at x; exact x.elim
  refine ⟨fun a => a = y, G1, .obj c0 [] :: ds.map .im, by rw [List.length_cons, List.length_map, ← r.1.1, r.2, ← hn]; rfl, eH, oo, ?_⟩
  have whole : ∀ {Fz : Fp} {G' H' : Hp}, Stp (fun a => a = y) G1 (upd (upd H1 dy (.own y)) y (.ins (cadr X.K c0) dy [])) Fz G' H' → ∀ o, H' y = some o → Stp F0 G1 H1 F0 (upd G' y o) H' := fun st o ho => ⟨fun a u q => by
      rw [upd_ne (ne_of_none q ngy)]; exact st.gg _ _ q, fun a u q => by
      by_cases z : a = y
      · subst z; rw [upd_same] at q; cases q; exact ho
      · rw [upd_ne z] at q; exact st.gh _ _ q, fun a u q _ => st.fr a u (by rw [upd_ne (ne_of_none q ny), upd_ne (ne_of_none q nd)]; exact q) (ne_of_none q ny), fun a q => by
      have z := st.th a q
      by_cases w : a = y
      · rw [w]; exact ny
      · rw [upd_ne w] at z
        by_cases w2 : a = dy
        · rw [w2]; exact nd
        · rw [upd_ne w2] at z; exact z, fun a q q' => by
      by_cases w : a = y
      · rw [w]; exact .inl ny
      · rw [upd_ne w] at q'
        rcases st.gn a q q' with z | z
        · rw [upd_ne w] at z
          by_cases w2 : a = dy
          · rw [w2]; exact .inl nd
          · rw [upd_ne w2] at z; exact .inl z
        · exact absurd z w, fun _ z => z.elim⟩
  have h2 : Post X.K W σ (relD X.K) (fun b _ _ _ _ H' => Q b H') F1 G1 H1 (resM c0 (fn (.obj c0 [] :: ds.map .im)) ρ1) := h1
  revert h2
  cases fn (.obj c0 [] :: ds.map .im) with
  | none => exact fun h => h.elim
  | some q =>
    obtain ⟨q, ts'⟩ := q
    cases q with
    | ok u =>
      cases u with
      | im d =>
        cases d with
        | non =>
          cases ts' with
          | nil => exact fun h => h.elim
          | cons t' r' =>
            cases t' with
            | obj c' fs =>
              intro h v Fa Fv G' H' st os ow _
              have h3 : Post X.K W σ (relD X.K) (fun b _ _ _ _ H' => Q b H') F1 G1 H1 (if c' = c0 then (imF fs).map fun gs => (Res.ok (D.obj c0 gs), ρ1) else none) := h
              split at h3
              · rename_i hcc
                cases q2 : imF fs with
                | none => rw [q2] at h3; exact h3.elim
                | some gs =>
                  rw [q2] at h3
                  cases ow with
                  | im rv =>
                    cases rv
                    refine ⟨rfl, ?_⟩
                    obtain ⟨_, g0, g1, _, _⟩ := os
                    have ob := g1 0 (.ref y) _ rfl rfl
                    cases ob with
                    | obj g e2 n l s dj sb fpp =>
                      have w := whole st _ e2
                      refine h3 (.ref y) F1 _ H' w.pure (sl1.pure w) ?_
                      have e5 := imF_eq q2
                      subst e5
                      rw [hcc] at e2 ⊢
                      refine .obj (dx := _) upd_same (by rw [l, List.map_map]; rfl) fun i p q a b => ?_
                      have z := s i p (q.1, .im q.2) a (by rw [List.getElem?_map, b]; rfl)
                      exact (own_im z).mono (same_upd n)
              · exact h3.elim
            | _ => exact fun h => h.elim
        | _ => exact fun h => h.elim
      | _ => exact fun h => h.elim
    | exc C fs =>
      intro h x Fa G' H' st os ex
      cases z : H' y with
      | none =>
        have z2 := st.th y z
        rw [upd_same] at z2
        cases z2
      | some o =>
        have w := whole st o z
        cases g2 : G' y with
        | none =>
          refine h x F1 (upd G' y o) H' w.pure (sl1.pure w) ?_
          exact ex.mono (same_upd g2)
        | some o2 =>
          have hz := st.gh _ _ g2
          rw [z] at hz
          cases hz
          refine h x F1 (upd G' y o) H' w.pure (sl1.pure w) ?_
          have sm : Same G' (upd G' y o) := fun a u q => by
            by_cases c : a = y
            · subst c; rw [upd_same]; rw [g2] at q; exact q
            · rw [upd_ne c]; exact q
          exact ex.mono sm
end
end MX

namespace MX
open PySem PySem.Spec PyProof.Rows L2
section
variable {X : Cx} {W : WX} {kp : List Nat} {tg iter e o a b c : Expr} {es rest : List Expr} {ta tb tc te : TE} {t tr : TA} {ma mb mc me : M D} {mt : M Bool} {tt : TT} {ms : M (List D)} {mT : M T} {g : TG} {wi : TI} {pos : Pos}
/-! ### slices -/
structure Po (X : Cx) (W : WX) (e : Option Expr) (t : TO) (m : M (Option Int)) : Prop where
  po : PO X e t
  sim : Sim X.K W (fun _ _ (a b : Option Int) => a = b) t m
def mNo : M (Option Int) := fun ρ => ret none ρ
def intD : D → Option (Option Int)
  | .int i => some (some i)
  | _ => none
def mPart (m : M D) : M (Option Int) := fun ρ => bnd (m ρ) fun d ρ1 => retO (intD d) ρ1
theorem Po.no : Po X W none tNoPart mNo := ⟨po_none, fun F G H σ ρ Q e sl h => Post.here (K := X.K) (rel := fun _ _ (a b : Option Int) => a = b) h e sl rfl⟩
theorem Po.part (h : Ex X W e te me) : Po X W (some e) (tPart te) (mPart me) := by
  refine ⟨po_some h.pe, fun F G H σ ρ Q e sl p => ?_⟩
  refine h.sim.bind e sl p fun v d ρ1 F1 G1 H1 e1 s1 sl1 r h1 => ?_
  obtain ⟨x, hd, h2⟩ := h1.retO
  cases d with
  | int i => cases hd; cases r; exact ⟨i, rfl, h2 _ F1 G1 H1 (.refl e1) sl1 rfl⟩
  | _ => cases hd
def cutL {α : Type} (xs : List α) (lo hi : Option Int) : List α := (xs.drop (HT.sIx xs.length 0 lo)).take (HT.sIx xs.length xs.length hi - HT.sIx xs.length 0 lo)
def cutD (lo hi : Option Int) : D → Option D
  | .lst ds => some (.lst (cutL ds lo hi))
  | .tup ds => some (.tup (cutL ds lo hi))
  | .tupx ds => if HT.sIx ds.length 0 lo = 0 ∧ HT.sIx ds.length ds.length hi = ds.length then some (.tupx ds) else some (.tup (cutL ds lo hi))
  | .scr ns => some (.lst ((cutL ns lo hi).map .int))
  | _ => none
theorem RepAll.cut {K : Frg} {G : Hp} {vs : List V} {ds : List D} (r : RepAll K G vs ds) (lo hi : Option Int) : RepAll K G (cutV vs lo hi) (cutL ds lo hi) := by
  unfold cutV cutL
  rw [r.1]
  exact (r.drop _).take _
theorem cutL_map {α β : Type} (f : α → β) (xs : List α) (lo hi : Option Int) : cutL (xs.map f) lo hi = (cutL xs lo hi).map f := by
  unfold cutL
  rw [List.length_map, List.map_take, List.map_drop]
def rCut (K : Frg) : V → Option Int → Option Int → Hp → VK → Prop := fun x lo hi H Q => rSlL K x lo hi H Q ∨ rSlA K x lo hi H Q
def mCut (ma : M D) (ml mh : M (Option Int)) : M D := fun ρ => bnd (ma ρ) fun d ρ1 => bnd (ml ρ1) fun lo ρ2 => bnd (mh ρ2) fun hi ρ3 => retO (cutD lo hi d) ρ3
theorem Ex.cut {lo hi : Option Expr} {tl th : TO} {ml mh : M (Option Int)} {p2 : Pos} (h : Ex X W e te me) (hl : Po X W lo tl ml) (hh : Po X W hi th mh) : Ex X W (.Subscript e (.Slice lo hi none p2) pos) (tSl (rCut X.K) te tl th) (mCut me ml mh) := by
  refine ⟨pe_slice (SlR.or sl_list sl_tupA) h.pe hl.po hh.po, fun F G H σ ρ Q e sl p => ?_⟩
  refine h.sim.bind e sl p fun v d ρ1 F1 G1 H1 e1 s1 sl1 r h1 => ?_
  refine hl.sim.bind e1 sl1 h1 fun l l' ρ2 F2 G2 H2 e2 s2 sl2 rl h2 => ?_
  refine hh.sim.bind e2 sl2 h2 fun u u' ρ3 F3 G3 H3 e3 s3 sl3 ru h3 => ?_
  cases (show l = l' from rl)
  cases (show u = u' from ru)
  obtain ⟨x, hd, h4⟩ := h3.retO
  have r3 : Rep X.K G3 v d := (Rep.mono s2.gg r).mono s3.gg
  cases d with
  | lst ds =>
    cases hd
    obtain ⟨a, vs, rfl, s, rr⟩ := repAll_of_lst r3
    exact .inl ⟨a, vs, rfl, SqL.of (e3 _ _ s), fun q nq => h4 _ F3 _ _ (Stp.new e3 nq _).pure (sl3.pure (.new e3 nq _)) (.newLst (none_of e3 nq) (rr.cut l u))⟩
  | scr ns =>
    cases hd
    cases r3 with
    | scr s =>
      refine .inl ⟨_, ns.map V.int, rfl, sqL_mono e3 s, fun q nq => h4 _ F3 _ _ (Stp.new e3 nq _).pure (sl3.pure (.new e3 nq _)) (.newLst (none_of e3 nq) ?_)⟩
      have z := (ints_repAll (K := X.K) (G := G3) ns).cut l u
      rw [cutL_map] at z
      exact z
  | tup ds =>
    cases hd
    obtain ⟨a, vs, rfl, s, rr⟩ := tup_of r3
    refine .inr ⟨a, vs, rfl, SqT.of (e3 _ _ s), fun z => ?_, fun _ q nq => h4 _ F3 _ _ (Stp.new e3 nq _).pure (sl3.pure (.new e3 nq _)) (.newTup (none_of e3 nq) (rr.cut l u))⟩
    have zz : cutL ds l u = ds := by
      unfold cutL
      rw [rr.1] at z
      rw [z.1, z.2]
      simp
    rw [zz] at h4
    exact h4 _ F3 G3 H3 (.refl e3) sl3 r3
  | tupx ds =>
    have hd2 : (if HT.sIx ds.length 0 l = 0 ∧ HT.sIx ds.length ds.length u = ds.length then some (D.tupx ds) else some (.tup (cutL ds l u))) = some x := hd
    have r4 := r3
    cases r3 with
    | tupx s c z len rr =>
      have rall : RepAll X.K G3 _ ds := ⟨len, rr⟩
      by_cases q : HT.sIx ds.length 0 l = 0 ∧ HT.sIx ds.length ds.length u = ds.length
      · rw [if_pos q] at hd2
        cases hd2
        refine .inr ⟨_, _, rfl, .inl (rd_mono e3 (.inr ⟨_, s⟩)), fun _ => h4 _ F3 G3 H3 (.refl e3) sl3 r4, fun nw => ?_⟩
        exact absurd (by rw [len]; exact q) nw
      · rw [if_neg q] at hd2
        cases hd2
        refine .inr ⟨_, _, rfl, .inl (rd_mono e3 (.inr ⟨_, s⟩)), fun w => ?_, fun _ p np => h4 _ F3 _ _ (Stp.new e3 np _).pure (sl3.pure (.new e3 np _)) (.newTup (none_of e3 np) (rall.cut l u))⟩
        rw [len] at w
        exact absurd w q
  | _ => cases hd
/-! xs[::-1], list(range(..)) -/
def revD : List D → Option D := fun ds => some (.lst ds.reverse)
def mRevL (ms : M (List D)) : M D := fun ρ => bnd (ms ρ) fun ds ρ1 => ret (.lst ds.reverse) ρ1
theorem Ex.rev {k : Nat} {p1 p2 p3 : Pos} (h : Li X W e te ms) : Ex X W (.Subscript e (.Slice none none (some (.UnaryOp .USub (.Constant (.int 1) k p1) p2)) p3) pos) (tRevL X.K te) (mRevL ms) := by
  refine ⟨pe_revL h.pe, fun F G H σ ρ Q e sl p => ?_⟩
  refine h.sim.bind e sl p fun v ds ρ1 F1 G1 H1 e1 s1 sl1 r h1 => ?_
  obtain ⟨a, vs, rfl, hq, rr⟩ := r
  exact ⟨a, vs, rfl, hq, fun q nq => h1 _ F1 _ _ (Stp.new e1 nq _).pure (sl1.pure (.new e1 nq _)) (.newLst (none_of e1 nq) rr.reverse)⟩
def mLRng (m : M D) : M D := fun ρ => bnd (m ρ) fun d ρ1 => match d with
  | .int j => if j ≤ 1000000 ∧ -1000000 ≤ j then ret (.lst (rngL 0 j.toNat)) ρ1 else none
  | _ => none
theorem Ex.listRng1 {p pos2 p2 : Pos} (hc : X.calm = true) (hm : X.mg "list" = none) (hm2 : X.mg "range" = none) (h : Ex X W a te me) (hg : Gl X "list" := by rfl) (hg2 : Gl X "range" := by rfl)
    (na : starEach [a] X.env = (false, eval a X.env) :: starEach [] X.env := by rfl) (na2 : starEach [.Call (.Name "range" p2) [a] [] pos2] X.env = (false, eval (.Call (.Name "range" p2) [a] [] pos2) X.env) :: starEach [] X.env := by rfl) :
    Ex X W (.Call (.Name "list" p) [.Call (.Name "range" p2) [a] [] pos2] [] pos) (tLstRg (tRg1 te)) (mLRng me) := by
  refine ⟨pe_listRg hc hg hm (prg_1 hg2 hm2 h.pe na) na2, fun F G H σ ρ Q e sl p => ?_⟩
  refine h.sim.bind e sl p fun v d ρ1 F1 G1 H1 e1 s1 sl1 r h1 => ?_
  cases d with
  | int j =>
    cases r
    have h2 : Post X.K W σ (relD X.K) (fun b _ _ _ _ H' => Q b H') F1 G1 H1 (if j ≤ 1000000 ∧ -1000000 ≤ j then MX.ret (.lst (rngL 0 j.toNat)) ρ1 else none) := h1
    split at h2
    · rename_i hb
      refine ⟨j, rfl, ⟨by omega, by omega, by omega, by omega, by omega⟩, fun q nq => h2 _ F1 _ _ (Stp.new e1 nq _).pure (sl1.pure (.new e1 nq _)) (.newLst (none_of e1 nq) ?_)⟩
      unfold rgV rngL
      rw [show (j - 0).toNat = j.toNat by omega]
      refine ⟨by simp, fun i v d a b => ?_⟩
      rw [List.getElem?_map] at a b
      cases z : (List.range j.toNat)[i]? with
      | none => rw [z] at a; cases a
      | some k => rw [z] at a b; cases a; cases b; exact .int _
    · exact h2.elim
  | _ => exact h1.elim
/-! ### len(set(t)), t a tuple of ints -/
def dedI : List Int → List Int
  | [] => []
  | x :: r => if x ∈ r then dedI r else x :: dedI r
theorem mem_dedI {x : Int} : ∀ {l : List Int}, x ∈ dedI l ↔ x ∈ l
  | [] => Iff.rfl
  | y :: r => by
    unfold dedI
    split
    · rename_i h
      rw [mem_dedI, List.mem_cons]
      exact ⟨.inr, fun z => z.elim (fun q => q ▸ h) id⟩
    · rw [List.mem_cons, List.mem_cons, mem_dedI]
theorem dedI_nodup : ∀ l : List Int, (dedI l).Nodup
  | [] => List.nodup_nil
  | y :: r => by
    unfold dedI
    split
    · exact dedI_nodup r
    · rename_i h
      exact List.nodup_cons.mpr ⟨fun z => h (mem_dedI.mp z), dedI_nodup r⟩
theorem nodup_len {α : Type} [BEq α] [LawfulBEq α] : ∀ (l m : List α), l.Nodup → (∀ x ∈ l, x ∈ m) → l.length ≤ m.length
  | [], _, _, _ => Nat.zero_le _
  | x :: l, m, h, hs => by
    rw [List.nodup_cons] at h
    have hx := hs x List.mem_cons_self
    have ih := nodup_len l (m.erase x) h.2 fun y hy => by
      have ny : y ≠ x := fun z => h.1 (z ▸ hy)
      exact (List.mem_erase_of_ne ny).mpr (hs y (List.mem_cons_of_mem _ hy))
    rw [List.length_erase_of_mem hx] at ih
    have : 0 < m.length := List.length_pos_of_mem hx
    rw [List.length_cons]
    omega
theorem dedI_len_iff {l : List Int} : (dedI l).length = l.length ↔ l.Nodup := by
  induction l with
  | nil => simp [dedI]
  | cons y r ih =>
    have le : ∀ l : List Int, (dedI l).length ≤ l.length := fun l => nodup_len _ _ (dedI_nodup l) fun x h => mem_dedI.mp h
    unfold dedI
    rw [List.nodup_cons]
    split
    · rename_i h
      have := le r
      constructor
      · intro z; simp only [List.length_cons] at z; omega
      · exact fun z => absurd h z.1
    · rename_i h
      simp only [List.length_cons, Nat.add_right_cancel_iff]
      exact ⟨fun z => ⟨h, ih.mp z⟩, fun z => ih.mpr z.2⟩
def tLenSetT (K : Frg) (ta : TE) : TE := fun σ H Q => ta σ H fun x H1 => ∃ (l : Addr) (ns : List Int), x = V.ref l ∧ SqT K H1 l (ns.map V.int) ∧ ns.length ≤ 1000 ∧ Q (.int (dedI ns).length) H1
theorem pe_lenSetT {p p2 q pos : Pos} (hc : X.calm = true) (hm : X.mg "len" = none) (hm2 : X.mg "set" = none) (ha : PE X a ta) (hg : Gl X "len" := by rfl) (hg2 : Gl X "set" := by rfl)
    (na : starEach [a] X.env = (false, eval a X.env) :: starEach [] X.env := by rfl) : PE X (.Call (.Name "len" p) [.Call (.Name "set" p2) [a] [] q] [] pos) (tLenSetT X.K ta) := by
  constructor
  intro pz sa σ Ha Q Ja hw
  refine Call_ (ld_blt Ja hg hm boot_len ?_)
  refine PyProof.Rows.callWith_builtin1 (PyProof.Rows.args_cons ?_ rfl) rfl rfl
  refine Call_ (ld_blt Ja hg2 hm2 PyProof.Rows.boot_set ?_)
  refine PyProof.Rows.callWith_type1 (PyProof.Rows.args_cons (thn (ha.run pz sa σ Ha _ Ja hw) ?_) na) na rfl
  rintro v sb ⟨y, Hb, Jb, ry, l, ns, rfl, hq, hl, q1⟩
  obtain rfl : v = Value.ref l := ry
  refine PyProof.Rows.args_nil ?_
  obtain ⟨us, rv, pt, hz⟩ := Jb.tuple hq
  refine call_set_tupI ns (Jb.ok.hd hc) (show sb.heap.IsTuple l us.toArray from pt) (by simpa using intsAre_of rv) (by unfold scanBound; omega) fun h' tk c R hcn kk => ?_
  refine PyProof.Rows.args_nil ?_
  obtain ⟨ob, en, ep, tb, h0, h1, h2, h3, h4, h5, h6, h7, h8, h9, h10⟩ := R
  have J2 : Inv X pz σ Hb { sb with heap := h', toks := tk } := Jb.kept kk
  have el : en.size = (dedI ns).length := by
    have z1 : (en.toList.map keyOf).length ≤ (dedI ns).length := nodup_len _ _ h4 fun x hx => mem_dedI.mpr (of_decide_eq_true ((h5 x).mpr hx))
    have z2 : (dedI ns).length ≤ (en.toList.map keyOf).length := nodup_len _ _ (dedI_nodup ns) fun x hx => (h5 x).mp (decide_eq_true (mem_dedI.mp hx))
    simp only [List.length_map, Array.length_toList] at z1 z2
    omega
  exact call_len_set h0 h1 h2 h7 (by omega) ⟨.int (dedI ns).length, Hb, J2.tok _, ⟨_, by rw [el]⟩, q1⟩
def lenSetL (ds : List D) : Option D := (intsD ds).bind fun ns => if ns.length ≤ 1000 then some (.int (dedI ns).length) else none
def lenSetD : D → Option D
  | .tup ds => lenSetL ds
  | .tupx ds => lenSetL ds
  | _ => none
def mLenSet (m : M D) : M D := fun ρ => bnd (m ρ) fun d ρ1 => retO (lenSetD d) ρ1
theorem Ex.lenSet {p p2 q : Pos} (hc : X.calm = true) (hm : X.mg "len" = none) (hm2 : X.mg "set" = none) (h : Ex X W a te me) (hg : Gl X "len" := by rfl) (hg2 : Gl X "set" := by rfl)
    (na : starEach [a] X.env = (false, eval a X.env) :: starEach [] X.env := by rfl) : Ex X W (.Call (.Name "len" p) [.Call (.Name "set" p2) [a] [] q] [] pos) (tLenSetT X.K te) (mLenSet me) := by
  refine ⟨pe_lenSetT hc hm hm2 h.pe hg hg2 na, fun F G H σ ρ Q e sl p => ?_⟩
  refine h.sim.bind e sl p fun v d ρ1 F1 G1 H1 e1 s1 sl1 r h1 => ?_
  obtain ⟨x, hd, h2⟩ := h1.retO
  have fin : ∀ (ds : List D) (l : Addr) (vs : List V), lenSetL ds = some x → v = .ref l → SqT X.K H1 l vs → RepAll X.K G1 vs ds → ∃ (l : Addr) (ns : List Int), v = V.ref l ∧ SqT X.K H1 l (ns.map V.int) ∧ ns.length ≤ 1000 ∧ Q (.int (dedI ns).length) H1 := by
    intro ds l vs hd ev hq rr
    obtain ⟨ns, q, hd2⟩ := Option.bind_eq_some_iff.mp hd
    split at hd2
    · rename_i hl
      cases hd2
      rw [intsD_eq q] at rr
      have := repAll_ints rr
      subst this
      exact ⟨l, ns, ev, hq, hl, h2 _ F1 G1 H1 (.refl e1) sl1 (.int _)⟩
    · cases hd2
  cases d with
  | tup ds =>
    obtain ⟨l, vs, rfl, s, rr⟩ := tup_of r
    exact fin ds l vs hd rfl (SqT.of (e1 _ _ s)) rr
  | tupx ds =>
    cases r with
    | tupx s c z l rr => exact fin ds _ _ hd rfl (.inl (rd_mono e1 (.inr ⟨_, s⟩))) ⟨l, rr⟩
  | _ => cases hd
end
end MX

namespace MX
open PySem PySem.Spec PyProof.Rows L2
/-! ### pairs of ints in order -/
abbrev IP := Int × Int
def lexL (p q : IP) : Prop := p.1 < q.1 ∨ (p.1 = q.1 ∧ p.2 ≤ q.2)
instance (p q : IP) : Decidable (lexL p q) := inferInstanceAs (Decidable (_ ∨ _))
def insP (x : IP) : List IP → List IP
  | [] => [x]
  | y :: r => if lexL x y then x :: y :: r else y :: insP x r
def sortP : List IP → List IP
  | [] => []
  | x :: r => insP x (sortP r)
theorem insP_perm (x : IP) : ∀ l, (insP x l).Perm (x :: l)
  | [] => .refl _
  | y :: r => by
    unfold insP
    split
    · exact .refl _
    · exact ((insP_perm x r).cons y).trans (.swap x y r)
theorem sortP_perm : ∀ l, (sortP l).Perm l
  | [] => .refl _
  | x :: r => (insP_perm x _).trans ((sortP_perm r).cons x)
theorem lexL_trans {p q r : IP} (a : lexL p q) (b : lexL q r) : lexL p r := by
  unfold lexL at *
  omega
theorem lexL_total (p q : IP) : lexL p q ∨ lexL q p := by
  unfold lexL
  omega
theorem lexL_anti {p q : IP} (a : lexL p q) (b : lexL q p) : p = q := by
  obtain ⟨p1, p2⟩ := p
  obtain ⟨q1, q2⟩ := q
  unfold lexL at *
  dsimp only at *
  have h1 : p1 = q1 := by omega
  have h2 : p2 = q2 := by omega
  rw [h1, h2]
theorem insP_sorted {x : IP} : ∀ {l : List IP}, l.Pairwise lexL → (insP x l).Pairwise lexL
  | [], _ => List.pairwise_singleton _ _
  | y :: r, h => by
    unfold insP
    rw [List.pairwise_cons] at h
    split
    · rename_i q
      rw [List.pairwise_cons, List.pairwise_cons]
      exact ⟨fun z hz => by
        rcases List.mem_cons.mp hz with e | hz
        · rw [e]; exact q
        · exact lexL_trans q (h.1 z hz), h⟩
    · rename_i q
      rw [List.pairwise_cons]
      refine ⟨fun z hz => ?_, insP_sorted h.2⟩
      rcases List.mem_cons.mp ((insP_perm x r).mem_iff.mp hz) with e | hz
      · rw [e]; exact (lexL_total x y).resolve_left q
      · exact h.1 z hz
theorem sortP_sorted : ∀ l : List IP, (sortP l).Pairwise lexL
  | [] => List.Pairwise.nil
  | x :: r => insP_sorted (sortP_sorted r)
theorem sortedP_uniq : ∀ {l m : List IP}, l.Pairwise lexL → m.Pairwise lexL → l.Perm m → l = m
  | [], m, _, _, h => (List.Perm.eq_nil h.symm).symm
  | x :: l, [], _, _, h => absurd h.length_eq (by simp)
  | x :: l, y :: m, hl, hm, h => by
    rw [List.pairwise_cons] at hl hm
    have e : x = y := by
      rcases List.mem_cons.mp (h.mem_iff.mp (List.mem_cons_self (a := x) (l := l))) with e | h1
      · exact e
      · rcases List.mem_cons.mp (h.mem_iff.mpr (List.mem_cons_self (a := y) (l := m))) with e | h2
        · exact e.symm
        · exact lexL_anti (hl.1 y h2) (hm.1 x h1)
    subst e
    rw [sortedP_uniq hl.2 hm.2 ((List.perm_cons x).mp h)]
def dedP : List IP → List IP
  | [] => []
  | x :: r => if x ∈ r then dedP r else x :: dedP r
theorem mem_dedP {x : IP} : ∀ {l : List IP}, x ∈ dedP l ↔ x ∈ l
  | [] => Iff.rfl
  | y :: r => by
    unfold dedP
    split
    · rename_i h
      rw [mem_dedP, List.mem_cons]
      exact ⟨.inr, fun z => z.elim (fun q => q ▸ h) id⟩
    · rw [List.mem_cons, List.mem_cons, mem_dedP]
theorem dedP_nodup : ∀ l : List IP, (dedP l).Nodup
  | [] => List.nodup_nil
  | y :: r => by
    unfold dedP
    split
    · exact dedP_nodup r
    · rename_i h
      exact List.nodup_cons.mpr ⟨fun z => h (mem_dedP.mp z), dedP_nodup r⟩
def prD (p : IP) : D := .tup [.int p.1, .int p.2]
def pairsD : List D → Option (List IP)
  | [] => some []
  | .tup [.int i, .int j] :: r => (pairsD r).map ((i, j) :: ·)
  | _ :: _ => none
theorem pairsD_eq : ∀ {ds : List D} {ps : List IP}, pairsD ds = some ps → ds = ps.map prD
  | [], ps, h => by cases h; rfl
  | d :: ds, ps, h => by
    unfold pairsD at h
    split at h
    · rename_i q; cases q
    · rename_i i j r q
      cases q
      cases e : pairsD ds with
      | none => rw [e] at h; cases h
      | some es =>
        rw [e] at h
        cases h
        rw [pairsD_eq e]; rfl
    · cases h
@[simp] theorem pairsD_map (ps : List IP) : pairsD (ps.map prD) = some ps := by
  induction ps with
  | nil => rfl
  | cons p ps ih => show (pairsD (ps.map prD)).map (p :: ·) = _; rw [ih]; rfl
/-- the pair that a value stands for -/
def kP (H : Hp) (x : V) : IP := match x with
  | .ref t => (match H t with
    | some (.tup [.int i, .int j]) => (i, j)
    | _ => (0, 0))
  | _ => (0, 0)
theorem prD_at {K : Frg} {G : Hp} {v : V} {p : IP} (r : Rep K G v (prD p)) : ∃ t, v = .ref t ∧ G t = some (.tup [.int p.1, .int p.2]) := by
  obtain ⟨a, vs, rfl, s, rr⟩ := tup_of r
  have z := repAll_ints (ns := [p.1, p.2]) rr
  subst z
  exact ⟨a, rfl, s⟩
theorem prD_rep {K : Frg} {G : Hp} {t : Addr} {p : IP} (h : G t = some (.tup [.int p.1, .int p.2])) : Rep K G (.ref t) (prD p) :=
  .tup h rfl fun i v d a b => (ints_repAll (K := K) (G := G) [p.1, p.2]).2 i v d a b
theorem kP_at {H : Hp} {t : Addr} {p : IP} (h : H t = some (.tup [.int p.1, .int p.2])) : kP H (.ref t) = p := by
  unfold kP
  dsimp only
  rw [h]
theorem pairs_vs {K : Frg} {G H : Hp} (e : Same G H) : ∀ {ps : List IP} {vs : List V}, RepAll K G vs (ps.map prD) → vs.map (kP H) = ps ∧ ∀ x ∈ vs, ∃ t, x = .ref t ∧ G t = some (.tup [.int (kP H x).1, .int (kP H x).2])
  | [], [], _ => ⟨rfl, fun x h => by cases h⟩
  | [], _ :: _, r => absurd r.1 (by simp)
  | _ :: _, [], r => absurd r.1 (by simp)
  | p :: ps, v :: vs, r => by
    have r' : RepAll K G (v :: vs) (prD p :: ps.map prD) := r
    obtain ⟨h1, h2⟩ := pairs_vs e r'.tail
    obtain ⟨t, rfl, ht⟩ := prD_at r'.head
    have hk := kP_at (e _ _ ht)
    refine ⟨by rw [List.map_cons, hk, h1], fun x hx => ?_⟩
    rcases List.mem_cons.mp hx with q | q
    · subst q; exact ⟨t, rfl, by rw [hk]; exact ht⟩
    · exact h2 x q
theorem vs_pairs {K : Frg} {G H : Hp} : ∀ {vs : List V}, (∀ x ∈ vs, ∃ t, x = .ref t ∧ G t = some (.tup [.int (kP H x).1, .int (kP H x).2])) → RepAll K G vs ((vs.map (kP H)).map prD)
  | [], _ => .nil
  | v :: vs, h => by
    obtain ⟨t, rfl, ht⟩ := h v List.mem_cons_self
    exact .cons (prD_rep ht) (vs_pairs fun x hx => h x (List.mem_cons_of_mem _ hx))
def sortedPS (ds : List D) : Option D := (pairsD ds).map fun ps => .lst ((sortP ps).map prD)
theorem cl_sortedP {K : Frg} : CallL K (rSortedPO K) sortedPS := by
  intro G H a vs ds d Q e hq r hd k
  unfold sortedPS at hd
  cases q : pairsD ds with
  | none => rw [q] at hd; cases hd
  | some ps =>
    rw [q] at hd; cases hd
    have := pairsD_eq q
    subst this
    obtain ⟨h1, h2⟩ := pairs_vs e r
    refine ⟨a, vs, kP H, rfl, hq, fun x hx => ?_, fun ys p hs hb np => ?_⟩
    · obtain ⟨t, e1, e2⟩ := h2 x hx
      exact ⟨t, e1, e _ _ e2⟩
    · have pm : ys.Perm vs := hb.perm
      have z : ys.map (kP H) = sortP ps := by
        refine sortedP_uniq ?_ (sortP_sorted ps) (((pm.map (kP H)).trans (by rw [h1])).trans (sortP_perm ps).symm)
        rw [List.pairwise_map]
        refine List.Pairwise.imp (fun {x y} w => ?_) hs
        have w' : SrtO.lexB (kP H y) (kP H x) = false := w
        have := SrtO.lexB_no.mp w'
        unfold lexL
        omega
      have rr := vs_pairs (K := K) (G := G) (H := H) (vs := ys) fun x hx => h2 x (pm.mem_iff.mp hx)
      rw [z] at rr
      exact k _ _ _ (.new e np _) (.newLst (none_of e np) rr)
/-- ints or pairs -/
def sortedIP (ds : List D) : Option D := match intsD ds with
  | some ns => some (.lst ((sortI ns).map .int))
  | none => sortedPS ds
def rSortedIP (K : Frg) : List V → Hp → VK → Prop := fun xs H Q => rSortedI K xs H Q ∨ rSortedPO K xs H Q
theorem cr_sortedIP {X : Cx} : CallR X (.builtin "sorted") (rSortedIP X.K) := CallR.or cr_sortedI cr_sortedPO
theorem cl_sortedIP {K : Frg} : CallL K (rSortedIP K) sortedIP := by
  intro G H a vs ds d Q e hq r hd k
  unfold sortedIP at hd
  cases q : intsD ds with
  | some ns =>
    rw [q] at hd
    exact .inl (cl_sorted G H a vs ds d Q e hq r (by unfold sortedS; rw [q]; exact hd) k)
  | none =>
    rw [q] at hd
    exact .inr (cl_sortedP G H a vs ds d Q e hq r hd k)
/-! ### sorted(set(xs)), xs a list of pairs of small ints -/
def okP (p : IP) : Bool := decide (0 ≤ p.1) && decide (p.1 < 1000) && decide (0 ≤ p.2) && decide (p.2 < 1000)
def usP (ps : List IP) : List IP := sortP (dedP ps)
def sortedSetS (ds : List D) : Option D := (pairsD ds).bind fun ps => if ps.length < 64 ∧ ps.all okP = true then some (.lst ((usP ps).map prD)) else none
def mSortSet (ms : M (List D)) : M D := fun ρ => bnd (ms ρ) fun ds ρ1 => retO (sortedSetS ds) ρ1
def frP (q : Addr × List Int) : IP := (q.2.getD 0 0, q.2.getD 1 0)
def adV : V → Addr
  | .ref a => a
  | _ => 0
section
variable {X : Cx} {W : WX} {a e : Expr} {te : TE} {ms : M (List D)} {pos : Pos}
theorem Ex.sortSet {p p2 q : Pos} (hc : X.calm = true) (hu : X.A.units + 64 < cLine) (hm : X.mg "sorted" = none) (hm2 : X.mg "set" = none) (h : Li X W a te ms) (hg : Gl X "sorted" := by rfl) (hg2 : Gl X "set" := by rfl)
    (na : starEach [a] X.env = (false, eval a X.env) :: starEach [] X.env := by rfl) (na2 : starEach [.Call (.Name "set" p2) [a] [] q] X.env = (false, eval (.Call (.Name "set" p2) [a] [] q) X.env) :: starEach [] X.env := by rfl)
    (hp1 : (backTo pos (starEach [] X.env)).any (·.1) = false := by rfl) (hp2 : (backTo q (starEach [] X.env)).any (·.1) = false := by rfl) :
    Ex X W (.Call (.Name "sorted" p) [.Call (.Name "set" p2) [a] [] q] [] pos) (tCB (rSortedT X.K X.prog X.w) (tCons (tCB (rSetOfT X.K X.prog X.w) (tCons te tNil)) tNil)) (mSortSet ms) := by
  refine ⟨pe_callB (cr_sortedT hc) hg hm PyProof.Rows.boot_sorted (pa_cons (pe_callTy (cr_setOfT hc hu) hg2 hm2 PyProof.Rows.boot_set (pa_cons h.pe pa_nil na) (by decide) (by decide) na hp2) pa_nil na2) (by decide) (by decide) na2 hp1, fun F G H σ ρ Q e sl pp => ?_⟩
  refine h.sim.bind e sl pp fun v ds ρ1 F1 G1 H1 e1 s1 sl1 r h1 => ?_
  obtain ⟨x, hd, h2⟩ := h1.retO
  obtain ⟨l, vs, rfl, hq, rr⟩ := r
  unfold sortedSetS at hd
  cases q1 : pairsD ds with
  | none => rw [q1] at hd; cases hd
  | some ps =>
    rw [q1] at hd
    have hd2 : (if ps.length < 64 ∧ ps.all okP = true then some (D.lst ((usP ps).map prD)) else none) = some x := hd
    split at hd2
    · rename_i hb
      cases hd2
      have := pairsD_eq q1
      subst this
      obtain ⟨k1, k2⟩ := pairs_vs e1 rr
      have hlen : vs.length = ps.length := by rw [← k1, List.length_map]
      have hvs : (vs.map fun x => (adV x, [(kP H1 x).1, (kP H1 x).2])).map (fun p => V.ref p.1) = vs := by
        rw [List.map_map]
        have z : ∀ x ∈ vs, ((fun p : Addr × List Int => V.ref p.1) ∘ fun x => (adV x, [(kP H1 x).1, (kP H1 x).2])) x = id x := fun x hx => by
          obtain ⟨t, rfl, _⟩ := k2 x hx
          rfl
        rw [List.map_congr_left z, List.map_id]
      refine ⟨l, vs.map fun x => (adV x, [(kP H1 x).1, (kP H1 x).2]), rfl, by rw [hvs]; exact hq, fun p hp => ?_, by rw [List.length_map]; omega, fun sa L nsa hL1 hL2 => ?_⟩
      · obtain ⟨x, hx, rfl⟩ := List.mem_map.mp hp
        obtain ⟨t, rfl, ht⟩ := k2 x hx
        exact SqT.of (e1 _ _ ht)
      · have st1 := Stp.heap e1 nsa (SetTO X.prog X.w sa L)
        have inL : ∀ q ∈ L, ∃ t p, q = (t, [p.1, p.2]) ∧ p ∈ ps ∧ okP p = true ∧ G1 t = some (.tup [.int p.1, .int p.2]) := fun q hq => by
          obtain ⟨x, hx, rfl⟩ := List.mem_map.mp (hL1 q hq)
          obtain ⟨t, rfl, ht⟩ := k2 x hx
          have hp : kP H1 (V.ref t) ∈ ps := by rw [← k1]; exact List.mem_map.mpr ⟨_, hx, rfl⟩
          exact ⟨t, _, rfl, hp, List.all_eq_true.mp hb.2 _ hp, ht⟩
        refine ⟨sa, L, 2, 1000, rfl, upd_same, fun q hq => ?_, by decide, fun q hq => ?_, fun L' p hpm hnd h64 hpw np => ?_⟩
        · obtain ⟨t, p, rfl, _, _, ht⟩ := inL q hq
          exact SqT.of (st1.gh _ _ ht)
        · obtain ⟨t, p, rfl, _, hp, _⟩ := inL q hq
          have ho : ((0 ≤ p.1 ∧ p.1 < 1000) ∧ 0 ≤ p.2) ∧ p.2 < 1000 := by simpa [okP] using hp
          refine ⟨rfl, fun m hm => ?_⟩
          rcases List.mem_cons.mp hm with z | z
          · omega
          · rcases List.mem_cons.mp z with z | z
            · omega
            · cases z
        · have inL' : ∀ q ∈ L', ∃ t p, q = (t, [p.1, p.2]) ∧ p ∈ ps ∧ okP p = true ∧ G1 t = some (.tup [.int p.1, .int p.2]) := fun q hq => inL q (hpm.mem_iff.mp hq)
          have fe : ∀ q ∈ L', q.2 = [(frP q).1, (frP q).2] := fun q hq => by
            obtain ⟨t, p, rfl, _⟩ := inL' q hq
            rfl
          have ms : (L'.map frP) = usP ps := by
            refine sortedP_uniq ?_ (sortP_sorted _) ?_
            · rw [List.pairwise_map]
              refine List.Pairwise.imp_of_mem (fun {q r} hq hr w => ?_) hpw
              obtain ⟨t, p, rfl, _, h3, _⟩ := inL' q hq
              obtain ⟨t', p', rfl, _, h4, _⟩ := inL' r hr
              have o1 : ((0 ≤ p.1 ∧ p.1 < 1000) ∧ 0 ≤ p.2) ∧ p.2 < 1000 := by simpa [okP] using h3
              have o2 : ((0 ≤ p'.1 ∧ p'.1 < 1000) ∧ 0 ≤ p'.2) ∧ p'.2 < 1000 := by simpa [okP] using h4
              have w' : p.1 * 1000 ^ 1 + (p.2 * 1000 ^ 0 + 0) ≤ p'.1 * 1000 ^ 1 + (p'.2 * 1000 ^ 0 + 0) := w
              show lexL p p'
              unfold lexL
              omega
            · refine List.Perm.trans ?_ (sortP_perm (dedP ps)).symm
              refine (List.perm_ext_iff_of_nodup ?_ (dedP_nodup ps)).mpr fun p => ?_
              · refine List.Pairwise.map _ (fun {q r} => ?_) (List.Pairwise.and_mem.mp (List.pairwise_map.mp hnd))
                rintro ⟨hq, hr, ne⟩ z
                exact ne (by rw [fe q hq, fe r hr, z])
              · rw [mem_dedP]
                constructor
                · intro hp
                  obtain ⟨q, hq, rfl⟩ := List.mem_map.mp hp
                  obtain ⟨t, p, rfl, h3, _⟩ := inL' q hq
                  exact h3
                · intro hp
                  have hp' : p ∈ vs.map (kP H1) := by rw [k1]; exact hp
                  obtain ⟨x, hx, rfl⟩ := List.mem_map.mp hp'
                  have := hL2 _ (List.mem_map.mpr ⟨x, hx, rfl⟩)
                  obtain ⟨q, hq, hz⟩ := List.mem_map.mp this
                  have hq' := hpm.mem_iff.mpr hq
                  refine List.mem_map.mpr ⟨q, hq', ?_⟩
                  unfold frP
                  rw [hz]
                  rfl
          have rep : RepAll X.K G1 (L'.map fun q => V.ref q.1) ((L'.map frP).map prD) := by
            clear ms hpw hnd hpm fe h64
            induction L' with
            | nil => exact .nil
            | cons q r ih =>
              obtain ⟨t, p, rfl, _, _, ht⟩ := inL' q List.mem_cons_self
              exact .cons (prD_rep ht) (ih fun z hz => inL' z (List.mem_cons_of_mem _ hz))
          rw [ms] at rep
          have st2 : Stp F0 G1 (upd H1 sa (SetTO X.prog X.w sa L)) F0 (upd G1 p (.lst (L'.map fun q => V.ref q.1))) _ := .new st1.gh np _
          have st3 := st1.trans st2
          exact h2 _ F1 _ _ st3.pure (sl1.pure st3) (.newLst (none_of st1.gh np) rep)
    · cases hd2
end
end MX

namespace MX
open PySem PySem.Spec PyProof.Rows L2
/-! ### enumerate(tuple), enumerate(list) -/
theorem meets_enum1 {v : Value} {o : Obj} {H : Heap → Prop} (B : Begins v o H) :
    Meets (Builtin.«enumerate.__new__» ⟨[.type "enumerate", v], []⟩) (fun _ R s => H s.heap ∧
      R (.ok (.ret (.ref (s.heap.push o).objs.size))) { s with heap := (s.heap.push o).push { cls := .type "enumerate", data := .fields #[.none, .bool false, .ref s.heap.objs.size, rawInt 0, .none, .none] } }) :=
  .of_wp fun prog w A R s h => by
    obtain ⟨hp, g, d, tk, os⟩ := s
    obtain ⟨h1, h⟩ := h
    have hsub := sub_enumerate
    have q1 : ∀ {A' : Around} {E : Value → Shared → Prop} {Q : Value → Shared → Prop}, Q (.ref hp.objs.size) ⟨hp.push o, g, d, tk, os⟩ → wpAny (model prog w) A' (pyIter v) Q E ⟨hp, g, d, tk, os⟩ :=
      fun q => B.iter prog w _ _ ⟨hp, g, d, tk, os⟩ _ h1 q
    wp_walk using q1
    refine wpAny_stack_any fun st => wpAny_pure ?_
    split
    · rename_i c _ _ _ _ _
      cases (c == Value.type "enumerate")
      · wp_walk using q1
        exact ⟨_, rfl, h⟩
      · wp_walk using q1
        exact ⟨_, rfl, h⟩
    · wp_walk using q1
      exact ⟨_, rfl, h⟩
theorem call_enum1 {prog : Program} {w : World} {A : Around} {E : Value → Shared → Prop} {s : Shared} {v : Value} {o : Obj} {H : Heap → Prop} {Q : Value → Shared → Prop} (B : Begins v o H) (h1 : H s.heap)
    (h : ∀ h', IsEnum h' (s.heap.objs.size + 1) s.heap.objs.size 0 .none → h'.get? s.heap.objs.size = some o → h'.objs.size = s.heap.objs.size + 2 →
      (∀ b o, s.heap.get? b = some o → h'.get? b = some o) → Q (.ref (s.heap.objs.size + 1)) { s with heap := h' }) :
    wpAny (model prog w) A (call (.type "enumerate") [v]) Q E s := by
  refine callType_new F.called_enumerate (by decide) (F.typeCall_enumerate_1 _) (F.newCall_enumerate_1 _) (fun obj => F.args_object_init_2 obj _) F.entry_enumerate_new (meets_enum1 B) ⟨h1, ?_⟩
  have hz : (s.heap.push o).objs.size = s.heap.objs.size + 1 := Heap.size_push ..
  show _ ∧ _
  rw [hz]
  have he : IsEnum ((s.heap.push o).push { cls := .type "enumerate", data := .fields #[.none, .bool false, .ref s.heap.objs.size, rawInt 0, .none, .none] }) (s.heap.objs.size + 1) s.heap.objs.size 0 .none := by
    have := Heap.get?_push_size (s.heap.push o) (o := { cls := .type "enumerate", data := .fields #[.none, .bool false, .ref s.heap.objs.size, rawInt 0, .none, .none] }) rfl
    rw [hz] at this; exact this
  exact ⟨⟨_, he, rfl⟩, h _ he (Heap.get?_push_of_some _ (Heap.get?_push_size _ B.free)) (by rw [Heap.size_push, hz]) fun b o x => Heap.get?_push_of_some _ (Heap.get?_push_of_some _ x)⟩
def Itet (K : PySem.W.Frag) (a : Addr) : It :=
  ⟨fun i H => ∃ (xs : List V) (x : V), SqT K H a xs ∧ xs[i]? = some x, fun i H v H' => ∃ T x, v = .ref T ∧ H T = none ∧ H' = upd H T (.tup [.int (i : Nat), x]) ∧ ∀ xs, SqT K H a xs → xs[i]? = some x, fun i H => ∃ xs : List V, SqT K H a xs ∧ xs.length ≤ i⟩
theorem turn_enumT {P : Program} {w : World} {K : PySem.W.Frag} {elts : List Expr} {kk : Nat} {tpos : Pos} (a e it : Addr) (hai : a ≠ it) :
    Turn P w K (.Tuple elts kk tpos) (Itet K a) [e, it] e (fun i h => (∃ old, IsEnum h e it ((i : Nat) : Int) old) ∧ h.IsTupleIter it a i ∧ e ≠ it) where
  mem := by simp
  obj := fun i h st b hb => by
    obtain ⟨⟨old, he⟩, ⟨o, ho, hc, hd⟩, _⟩ := st
    have e' : b = e ∨ b = it := by simpa using hb
    rcases e' with z | z
    · rw [z]; exact ⟨_, he, fun v q => nomatch q⟩
    · rw [z]; exact ⟨o, ho, fun v q => by rw [hd] at q; cases q⟩
  keep := fun i h h' st k => let ⟨⟨old, he⟩, hi, hne⟩ := st; ⟨⟨old, k e (by simp) _ he⟩, hi.at fun o q => k it (by simp) o q, hne⟩
  item := by
    intro X hP hw hK hc i pins s σ H E I hf st hg
    subst hP hw hK
    obtain ⟨⟨old, he⟩, hit, hne⟩ := st
    obtain ⟨xs, x, hq, hx⟩ := hg
    obtain ⟨its, rv, p, hz⟩ := I.tuple hq
    obtain ⟨u, hu, ru⟩ := rv.get hx
    have hea : e ≠ a := fun z => by
      subst z
      obtain ⟨o, q1, q2, _⟩ := id p
      rw [he] at q1
      cases q1
      exact absurd q2 (by simp)
    have hel : e < s.heap.objs.size := Heap.lt_size he
    have hil : it < s.heap.objs.size := by obtain ⟨_, q, _⟩ := hit; exact Heap.lt_size q
    have hlt : i < its.toArray.size := by rw [List.size_toArray, ← rv.length]; exact (List.getElem?_eq_some_iff.mp hx).1
    refine wpAny_pyNext_enum_itemD (Draws.tuple (A := X.A.in1) (I.ok.hd hc) it a hai its.toArray) he ⟨hit, p⟩ hlt hne (by simp [hne, hea]) fun y h' tk hy ho hst' hT hsz hk => ?_
    have ey : y = u := by
      have z : its.toArray[i]? = some u := by simpa using hu
      exact Option.some.inj (hy.symm.trans z)
    subst ey
    refine ⟨_, rfl, wpAny_letOwnedTupleGo_enum (s := { s with heap := h', toks := tk + 1 }) ho fun h'' he' sb => ?_⟩
    have hT2 : h''.get? s.heap.objs.size = some { cls := .type "tuple", data := .seq #[.int i tk, y] } := (sb.2 _ (Nat.ne_of_gt hel)).trans hT
    have new : ObjOk X.prog X.w (upd H s.heap.objs.size (.tup [.int (i : Nat), x])) h'' s.heap.objs.size (.tup [.int (i : Nat), x]) :=
      ⟨by show 2 ≤ sizeLine; decide, [.int i tk, y], .cons ⟨_, rfl⟩ (.cons ru .nil), ⟨_, hT2, rfl, _, rfl⟩⟩
    have I1 : Inv X pins σ (upd H s.heap.objs.size (.tup [.int (i : Nat), x])) { s with heap := h'', toks := tk + 1 } :=
      I.turnedNew (ch := [e, it]) (fun b ob hb q => (sb.2 b (fun z => hb (by simp [z]))).trans (hk b ob (fun z => hb (by simp [z])) (fun z => hb (by simp [z])) q)) hf (Nat.le_refl _) new
    refine ⟨.ref s.heap.objs.size, _, I1, rfl, ⟨_, x, rfl, I.hok.fresh (Nat.le_refl _), rfl, fun ys hy => by rw [I.tuple_inj hy hq]; exact hx⟩, ⟨⟨y, ?_⟩, hst'.1.at fun o q => (sb.2 it (Ne.symm hne)).trans q, hne⟩, fun b hb => ?_⟩
    · have e1 : ((i + 1 : Nat) : Int) = (i : Int) + 1 := by omega
      rw [e1]; exact he'
    · have hb' : b < s.heap.objs.size := by
        have e' : b = e ∨ b = it := by simpa using hb
        rcases e' with z | z
        · rw [z]; exact hel
        · rw [z]; exact hil
      rw [upd_ne (Nat.ne_of_lt hb')]
      exact (hf b hb).1
  done := by
    intro X hP hw hK hc i pins s σ H E I hf st hg
    subst hP hw hK
    obtain ⟨⟨old, he⟩, hit, hne⟩ := st
    obtain ⟨xs, hq, hx⟩ := hg
    obtain ⟨its, rv, p, hz⟩ := I.tuple hq
    obtain ⟨f0, f1, f2, f3, f4, f5⟩ := hf it (by simp)
    have hl := rv.length
    have hT : s.TypeIs (.ref e) "enumerate" := ⟨_, he, rfl⟩
    unfold pyNext
    refine wpAny_bind (wpAny_attempt (wpAny_callSpecial?_slot (name := Str.ofString "__next__") hT F.slot_enumerate_next
      (wpAny_call_entry F.slot_enumerate_next hT F.entry_enumerate_next ?_ (F.args_enumerate_next_1 _))))
    show wpAny _ _ (field (.ref e) 2 >>= _) _ _ _
    refine wpAny_bind (wpAny_field he rfl (x := .ref it) rfl ?_)
    refine wpAny_bind (wpAny_nextOf_tuple_end (A := X.A.in1) (I.ok.hd hc) hit p (by simp; omega) fun h' x he' hx' => ?_)
    obtain ⟨o, ho, hc'⟩ := hx'
    refine wpAny_bind (wpAny_isInstance (T := "StopIteration") (b := true) ⟨o, ho, hc'⟩ isSubtype_stop ?_)
    exact wpAny_pure ⟨rfl, I.turned (t' := s.toks) (fun b o hb q => he' b o hb q) f0 f1 f3 f4 f5⟩
  self := fun A i s Q E st h => let ⟨⟨_, he⟩, _⟩ := st; wpAny_pyIter_enum he h
def iEnumA (K : PySem.W.Frag) (ta : TA) : TI := fun σ H R => ta σ H fun vs H1 => ∃ a xs, vs = [.ref a] ∧ ((SqL K H1 a xs ∧ (xs.length ≤ sizeLine → R (Ite K a) H1)) ∨ (SqT K H1 a xs ∧ (xs.length ≤ sizeLine → R (Itet K a) H1)))
theorem pi_enumA {X : Cx} {e : Expr} {ta : TA} {p pos tpos : Pos} {elts : List Expr} {kk : Nat} (hg : Gl X "enumerate") (hm : X.mg "enumerate" = none) (ha : PA X [e] ta) (hs : starEach [e] X.env = [(false, eval e X.env)] := by rfl) :
    PI X (.Tuple elts kk tpos) (.Call (.Name "enumerate" p) [e] [] pos) (iEnumA X.K ta) := by
  refine ⟨fun pins s σ H R I h => ?_⟩
  refine Call_ (ld_blt I hg hm boot_enumerate (PyProof.Rows.callWith_type1 (thn (ha.run pos pins s σ H _ I h) fun us s1 ⟨vs, H1, I1, r1, q1⟩ => ?_) hs rfl))
  obtain ⟨a, xs, ex, q⟩ := q1
  subst ex
  cases r1 with
  | cons r rr =>
    cases rr
    cases r
    have fr : ∀ b, b ∈ [s1.heap.objs.size + 1, s1.heap.objs.size] → FpOk X pins H1 b := fun b hb => by
      have e' : b = s1.heap.objs.size + 1 ∨ b = s1.heap.objs.size := by simpa using hb
      have hle : s1.heap.objs.size ≤ b := by omega
      exact I1.fpOk hle (I1.hok.fresh hle)
    rcases q with ⟨hq, q⟩ | ⟨hq, q⟩
    · obtain ⟨its, rv, p', hz⟩ := I1.list hq
      refine call_enumerate_list p'.isList fun h' he hit hsz hk => wpAny_pyIter_enum he ?_
      have I2 : Inv X pins σ H1 { s1 with heap := h' } := I1.kept (t' := s1.toks) hk
      exact ⟨s1.heap.objs.size + 1, [s1.heap.objs.size + 1, s1.heap.objs.size], _, _, H1, rfl, I2, turn_enum a (s1.heap.objs.size + 1) s1.heap.objs.size, ⟨⟨.none, he⟩, hit, Nat.succ_ne_self _⟩, fr, q hz⟩
    · obtain ⟨its, rv, p', hz⟩ := I1.tuple hq
      obtain ⟨o1, ho1, _⟩ := id p'
      have hlt := Heap.lt_size ho1
      refine call_enum1 (begins_tuple a its.toArray) (show s1.heap.IsTuple a its.toArray from p') fun h' he hit hsz hk => wpAny_pyIter_enum he ?_
      have I2 : Inv X pins σ H1 { s1 with heap := h' } := I1.kept (t' := s1.toks) hk
      exact ⟨s1.heap.objs.size + 1, [s1.heap.objs.size + 1, s1.heap.objs.size], _, _, H1, rfl, I2, turn_enumT a (s1.heap.objs.size + 1) s1.heap.objs.size (Nat.ne_of_lt hlt), ⟨⟨.none, he⟩, ⟨_, hit, rfl, rfl⟩, Nat.succ_ne_self _⟩, fr, q hz⟩
/-! mirrors: pairs -/
def enumL : Nat → List D → List D
  | _, [] => []
  | k, d :: r => .tup [.int (k : Nat), d] :: enumL (k + 1) r
theorem enumL_length : ∀ (k : Nat) (ds : List D), (enumL k ds).length = ds.length
  | _, [] => rfl
  | k, d :: r => by simp [enumL, enumL_length (k + 1) r]
theorem enumL_get : ∀ (k : Nat) (ds : List D) (i : Nat), (enumL k ds)[i]? = (ds[i]?).map fun d => .tup [.int ((k + i : Nat) : Int), d]
  | _, [], i => by simp [enumL]
  | k, d :: r, 0 => rfl
  | k, d :: r, i + 1 => by
    show (enumL (k + 1) r)[i]? = _
    rw [enumL_get (k + 1) r i, show k + 1 + i = k + (i + 1) by omega]
    rfl
theorem jok_pairs {K : Frg} {G0 : Hp} {J : It} {vs : List V} {ds : List D} {g : Nat → V → List V} {gd : Nat → D → List D} {es : List D} (hl : es.length = ds.length) (hz : vs.length ≤ sizeLine) (r : RepAll K G0 vs ds)
    (he : ∀ i : Nat, es[i]? = (ds[i]?).map fun d => D.tup (gd i d)) (hr : ∀ G i v d, Same G0 G → Rep K G v d → RepAll K G (g i v) (gd i d))
    (hgo : ∀ G H i, Same G0 G → Same G H → i < vs.length → J.go i H) (hst : ∀ G H i, Same G0 G → Same G H → vs.length ≤ i → J.stop i H)
    (hy : ∀ G H i v x H', Same G0 G → Same G H → vs[i]? = some v → J.yld i H x H' → ∃ T, x = .ref T ∧ H T = none ∧ H' = upd H T (.tup (g i v))) : JOk J K G0 es := by
  refine ⟨by rw [hl, ← r.1]; exact hz, fun G H i e0 e => ⟨fun d hd => ?_, fun hi => hst G H i e0 e (by rw [r.1, ← hl]; exact hi)⟩⟩
  rw [he] at hd
  cases q : ds[i]? with
  | none => rw [q] at hd; cases hd
  | some c =>
    rw [q] at hd
    cases hd
    obtain ⟨v, hv, rv⟩ := r.get q
    have hi : i < vs.length := (List.getElem?_eq_some_iff.mp hv).1
    refine ⟨hgo G H i e0 e hi, fun x H' y => ?_⟩
    obtain ⟨T, rfl, nT, rfl⟩ := hy G H i v x H' e0 e hv y
    exact ⟨_, .new e nT _, .newTup (none_of e nT) (hr G i v c e0 (rv.mono e0))⟩
section
variable {X : Cx} {W : WX} {e a b c : Expr} {es rest : List Expr} {ta tb tc te : TE} {t : TA} {ma mb mc me : M D} {ms : M (List D)} {pos : Pos}
def mEnum (m : M D) : M (List D) := fun ρ => bnd (m ρ) fun d ρ1 => retO ((seqD d).map (enumL 0)) ρ1
theorem Src.enum {p tpos : Pos} {elts : List Expr} {kk : Nat} (hm : X.mg "enumerate" = none) (h : Ex X W e te me) (hg : Gl X "enumerate" := by rfl) (hs : starEach [e] X.env = [(false, eval e X.env)] := by rfl) :
    Src X W (.Tuple elts kk tpos) (.Call (.Name "enumerate" p) [e] [] pos) (iEnumA X.K (tCons te tNil)) (mEnum me) := by
  refine ⟨pi_enumA hg hm (pa_cons h.pe pa_nil hs) hs, fun F G H σ ρ R e sl p => ?_⟩
  refine h.sim.bind e sl p fun v d ρ1 F1 G1 H1 e1 s1 sl1 r h1 => ?_
  obtain ⟨es, hd, h2⟩ := h1.retO
  have hr : ∀ (G : Hp) (i : Nat) (v : V) (d : D), Same G1 G → Rep X.K G v d → RepAll X.K G [.int (i : Nat), v] [.int ((0 + i : Nat) : Int), d] := fun G i v d _ r => by
    rw [Nat.zero_add]; exact .cons (.int _) (.cons r .nil)
  cases d with
  | lst xs =>
    cases hd
    obtain ⟨a, vs, rfl, s, r⟩ := repAll_of_lst r
    have hq : ∀ G H, Same G1 G → Same G H → SqL X.K H a vs := fun G H p q => SqL.of (q _ _ (p _ _ s))
    refine ⟨a, vs, rfl, .inl ⟨hq G1 H1 (Same.refl _) e1, fun hz => h2 _ F1 G1 H1 (.refl e1) sl1 ?_⟩⟩
    refine jok_pairs (g := fun i v => [.int (i : Nat), v]) (gd := fun i d => [.int ((0 + i : Nat) : Int), d]) (enumL_length 0 xs) hz r (enumL_get 0 xs) hr (fun G H i p q hi => ⟨vs, vs[i], hq G H p q, List.getElem?_eq_getElem hi⟩) (fun G H i p q hi => ⟨vs, hq G H p q, hi⟩) ?_
    rintro G H i v x H' p q hv ⟨T, y, rfl, nT, rfl, f⟩
    have := f vs (hq G H p q)
    rw [hv] at this; cases this
    exact ⟨T, rfl, nT, rfl⟩
  | tup xs =>
    cases hd
    obtain ⟨a, vs, rfl, s, r⟩ := tup_of r
    have hq : ∀ G H, Same G1 G → Same G H → SqT X.K H a vs := fun G H p q => SqT.of (q _ _ (p _ _ s))
    refine ⟨a, vs, rfl, .inr ⟨hq G1 H1 (Same.refl _) e1, fun hz => h2 _ F1 G1 H1 (.refl e1) sl1 ?_⟩⟩
    refine jok_pairs (g := fun i v => [.int (i : Nat), v]) (gd := fun i d => [.int ((0 + i : Nat) : Int), d]) (enumL_length 0 xs) hz r (enumL_get 0 xs) hr (fun G H i p q hi => ⟨vs, vs[i], hq G H p q, List.getElem?_eq_getElem hi⟩) (fun G H i p q hi => ⟨vs, hq G H p q, hi⟩) ?_
    rintro G H i v x H' p q hv ⟨T, y, rfl, nT, rfl, f⟩
    have := f vs (hq G H p q)
    rw [hv] at this; cases this
    exact ⟨T, rfl, nT, rfl⟩
  | tupx xs =>
    cases hd
    cases r with
    | tupx s c z l rr =>
      have hq : ∀ G H, Same G1 G → Same G H → SqT X.K H _ _ := fun G H p q => .inl (rd_mono q (rd_mono p (.inr ⟨_, s⟩)))
      refine ⟨_, _, rfl, .inr ⟨hq G1 H1 (Same.refl _) e1, fun hz => h2 _ F1 G1 H1 (.refl e1) sl1 ?_⟩⟩
      refine jok_pairs (g := fun i v => [.int (i : Nat), v]) (gd := fun i d => [.int ((0 + i : Nat) : Int), d]) (enumL_length 0 xs) hz ⟨l, rr⟩ (enumL_get 0 xs) hr (fun G H i p q hi => ⟨_, _, hq G H p q, List.getElem?_eq_getElem hi⟩) (fun G H i p q hi => ⟨_, hq G H p q, hi⟩) ?_
      rintro G H i v x H' p q hv ⟨T, y, rfl, nT, rfl, f⟩
      have := f _ (hq G H p q)
      rw [hv] at this; cases this
      exact ⟨T, rfl, nT, rfl⟩
  | scr ns =>
    cases hd
    cases r with
    | scr s =>
      have hq : ∀ G H, Same G1 G → Same G H → SqL X.K H _ (ns.map V.int) := fun G H p q => sqL_mono q (sqL_mono p s)
      refine ⟨_, _, rfl, .inl ⟨hq G1 H1 (Same.refl _) e1, fun hz => h2 _ F1 G1 H1 (.refl e1) sl1 ?_⟩⟩
      refine jok_pairs (g := fun i v => [.int (i : Nat), v]) (gd := fun i d => [.int ((0 + i : Nat) : Int), d]) (enumL_length 0 _) hz (ints_repAll ns) (enumL_get 0 _) hr (fun G H i p q hi => ⟨_, _, hq G H p q, List.getElem?_eq_getElem hi⟩) (fun G H i p q hi => ⟨_, hq G H p q, hi⟩) ?_
      rintro G H i v x H' p q hv ⟨T, y, rfl, nT, rfl, f⟩
      have := f _ (hq G H p q)
      rw [hv] at this; cases this
      exact ⟨T, rfl, nT, rfl⟩
  | _ => cases hd
/-! zip of two lists, two tuples -/
def zipL : List D → List D → List D
  | a :: r, b :: s => .tup [a, b] :: zipL r s
  | _, _ => []
def zipD : D → D → Option (List D)
  | .lst a, .lst b => some (zipL a b)
  | .tup a, .tup b => some (zipL a b)
  | _, _ => none
theorem zipL_eq : ∀ a b : List D, zipL a b = (a.zip b).map fun x => .tup [x.1, x.2]
  | [], _ => by simp [zipL]
  | _ :: _, [] => by simp [zipL]
  | a :: r, b :: s => by simp [zipL, zipL_eq r s]
theorem zipL_get (a b : List D) (i : Nat) (d : D) (h : (zipL a b)[i]? = some d) : ∃ x y, a[i]? = some x ∧ b[i]? = some y ∧ d = .tup [x, y] := by
  rw [zipL_eq, List.getElem?_map] at h
  cases q : (a.zip b)[i]? with
  | none => rw [q] at h; cases h
  | some z =>
    rw [q] at h; cases h
    obtain ⟨h1, h2⟩ := List.getElem?_zip_eq_some.mp q
    exact ⟨_, _, h1, h2, rfl⟩
theorem zipL_len (a b : List D) : (zipL a b).length = min a.length b.length := by rw [zipL_eq]; simp
def lenOf : D → Nat
  | .lst x => x.length
  | .tup x => x.length
  | _ => 0
def mZip (ma mb : M D) : M (List D) := fun ρ => bnd (ma ρ) fun a ρ1 => bnd (mb ρ1) fun b ρ2 => retO (if lenOf a ≤ 1000000 then zipD a b else none) ρ2
theorem Src.zip {p tpos : Pos} {elts : List Expr} {kk : Nat} (hm : X.mg "zip" = none) (ha : Ex X W a ta ma) (hb : Ex X W b tb mb) (hg : Gl X "zip" := by rfl)
    (hs : starEach [a, b] X.env = (false, eval a X.env) :: starEach [b] X.env := by rfl) (hs2 : starEach [b] X.env = (false, eval b X.env) :: starEach [] X.env := by rfl) (hpl : (backTo pos (starEach [b] X.env)).any (·.1) = false := by rfl) :
    Src X W (.Tuple elts kk tpos) (.Call (.Name "zip" p) [a, b] [] pos) (RZ.iZipA X.K (tCons ta (tCons tb tNil))) (mZip ma mb) := by
  refine ⟨RZ.pi_zipA hg hm (pa_cons ha.pe (pa_cons hb.pe pa_nil hs2) hs) hs hpl, fun F G H σ ρ R e sl p => ?_⟩
  refine ha.sim.bind e sl p fun v d ρ1 F1 G1 H1 e1 s1 sl1 r1 h1 => ?_
  refine hb.sim.bind e1 sl1 h1 fun u d2 ρ2 F2 G2 H2 e2 s2 sl2 r2 h2 => ?_
  obtain ⟨es, hd, h3⟩ := h2.retO
  split at hd
  · rename_i hlen
    have r1' := Rep.mono s2.gg r1
    cases d with
    | lst xs =>
      cases d2 with
      | lst ys =>
        cases hd
        obtain ⟨a, vs, rfl, sa, ra⟩ := repAll_of_lst r1'
        obtain ⟨b, us, rfl, sb, rb⟩ := repAll_of_lst r2
        have qa : ∀ G H, Same G2 G → Same G H → SqL X.K H a vs := fun G H p q => SqL.of (q _ _ (p _ _ sa))
        have qb : ∀ G H, Same G2 G → Same G H → SqL X.K H b us := fun G H p q => SqL.of (q _ _ (p _ _ sb))
        refine ⟨a, b, vs, us, rfl, .inl ⟨qa G2 H2 (Same.refl _) e2, qb G2 H2 (Same.refl _) e2, h3 _ F2 G2 H2 (.refl e2) sl2 ⟨by rw [zipL_len]; have := line_big hlen; unfold lenOf at this; dsimp only at this; omega, fun G H i p q => ⟨fun d hd => ?_, fun hi => ⟨vs, us, qa G H p q, qb G H p q, ?_⟩⟩⟩⟩⟩
        · obtain ⟨x, y, hx, hy, rfl⟩ := zipL_get xs ys i d hd
          obtain ⟨v, hv, rv⟩ := ra.get hx
          obtain ⟨u, hu, ru⟩ := rb.get hy
          refine ⟨⟨vs, us, v, u, qa G H p q, qb G H p q, hv, hu⟩, ?_⟩
          rintro w H' ⟨T, x', y', rfl, nT, rfl, f1, f2⟩
          have z1 := f1 vs (qa G H p q)
          have z2 := f2 us (qb G H p q)
          rw [hv] at z1; cases z1
          rw [hu] at z2; cases z2
          exact ⟨_, .new q nT _, .newTup (none_of q nT) (.cons (rv.mono p) (.cons (ru.mono p) .nil))⟩
        · rw [zipL_len] at hi
          rw [ra.1, rb.1]; omega
      | _ => cases hd
    | tup xs =>
      cases d2 with
      | tup ys =>
        cases hd
        obtain ⟨a, vs, rfl, sa, ra⟩ := tup_of r1'
        obtain ⟨b, us, rfl, sb, rb⟩ := tup_of r2
        have qa : ∀ G H, Same G2 G → Same G H → SqT X.K H a vs := fun G H p q => SqT.of (q _ _ (p _ _ sa))
        have qb : ∀ G H, Same G2 G → Same G H → SqT X.K H b us := fun G H p q => SqT.of (q _ _ (p _ _ sb))
        refine ⟨a, b, vs, us, rfl, .inr ⟨qa G2 H2 (Same.refl _) e2, qb G2 H2 (Same.refl _) e2, h3 _ F2 G2 H2 (.refl e2) sl2 ⟨by rw [zipL_len]; have := line_big hlen; unfold lenOf at this; dsimp only at this; omega, fun G H i p q => ⟨fun d hd => ?_, fun hi => ⟨vs, us, qa G H p q, qb G H p q, ?_⟩⟩⟩⟩⟩
        · obtain ⟨x, y, hx, hy, rfl⟩ := zipL_get xs ys i d hd
          obtain ⟨v, hv, rv⟩ := ra.get hx
          obtain ⟨u, hu, ru⟩ := rb.get hy
          refine ⟨⟨vs, us, v, u, qa G H p q, qb G H p q, hv, hu⟩, ?_⟩
          rintro w H' ⟨T, x', y', rfl, nT, rfl, f1, f2⟩
          have z1 := f1 vs (qa G H p q)
          have z2 := f2 us (qb G H p q)
          rw [hv] at z1; cases z1
          rw [hu] at z2; cases z2
          exact ⟨_, .new q nT _, .newTup (none_of q nT) (.cons (rv.mono p) (.cons (ru.mono p) .nil))⟩
        · rw [zipL_len] at hi
          rw [ra.1, rb.1]; omega
      | _ => cases hd
    | _ => cases d2 <;> cases hd
  · cases hd
/-! < of tuples of ints -/
def ltTD : D → D → Option D
  | .int i, .int j => some (.bl (decide (i < j)))
  | .tup a, .tup b => match intsD a, intsD b with
    | some x, some y => some (.bl (HT.lexLt x y))
    | _, _ => none
  | _, _ => none
def rLtA (K : Frg) : R2 := fun x y H Q => (rI0 fun i j => .bl (decide (i < j))) x y H Q ∨ rLtT K x y H Q
theorem op_ltA (hu : X.A.units + 64 < cLine) : OpR X (compareOp .Lt) (rLtA X.K) := OpR.or op_lt (op_ltT (by omega))
theorem od_ltA {K : Frg} : OpD K (rLtA K) ltTD := by
  intro G H a b d x y Q e ra rb hf k
  unfold ltTD at hf
  split at hf
  · cases hf; cases ra; cases rb
    exact .inl ⟨_, _, rfl, rfl, k _ G H (.refl e) (.bl _)⟩
  · split at hf
    · rename_i q1 q2
      cases hf
      obtain ⟨p, vs, rfl, h1, r1⟩ := tup_of ra
      obtain ⟨q, ws, rfl, h2, r2⟩ := tup_of rb
      rw [intsD_eq q1] at r1
      rw [intsD_eq q2] at r2
      have e1 := repAll_ints r1
      have e2 := repAll_ints r2
      subst e1
      subst e2
      exact .inr ⟨p, q, _, _, rfl, rfl, SqT.of (e _ _ h1), SqT.of (e _ _ h2), k _ G H (.refl e) (.bl _)⟩
    · cases hf
  · cases hf
end
end MX

namespace MX
open PySem PySem.Spec PyProof.Rows L2
/-! ### places within owned trees -/
def T.kid : T → Nat → Option T
  | .lst ts, k => ts[k]?
  | .obj _ fs, k => (fs[k]?).map (·.2)
  | .dk fs, k => (fs[k]?).map (·.2)
  | .dt fs, k => (fs[k]?).map (·.2)
  | .im _, _ => none
  | .pr _ _, _ => none
def setV {α β : Type} : List (α × β) → Nat → β → List (α × β)
  | [], _, _ => []
  | (a, _) :: r, 0, b => (a, b) :: r
  | x :: r, k + 1, b => x :: setV r k b
def T.setKid : T → Nat → T → T
  | .lst ts, k, u => .lst (ts.set k u)
  | .obj c fs, k, u => .obj c (setV fs k u)
  | .dk fs, k, u => .dk (setV fs k u)
  | .dt fs, k, u => .dt (setV fs k u)
  | .im d, _, _ => .im d
  | .pr d t, _, _ => .pr d t
def T.at : T → List Nat → Option T
  | t, [] => some t
  | t, k :: π => (t.kid k).bind fun u => u.at π
def T.put : T → List Nat → T → T
  | _, [], u => u
  | t, k :: π, u => match t.kid k with
    | some c => t.setKid k (c.put π u)
    | none => t
theorem setV_names {α β γ : Type} (g : α → γ) : ∀ (fs : List (α × β)) (k : Nat) (b : β), (setV fs k b).map (fun x => g x.1) = fs.map (fun x => g x.1)
  | [], _, _ => rfl
  | (a, c) :: r, 0, b => rfl
  | x :: r, k + 1, b => by
    show g x.1 :: (setV r k b).map (fun x => g x.1) = g x.1 :: r.map (fun x => g x.1)
    rw [setV_names g r k b]
theorem setV_get {α β : Type} : ∀ (fs : List (α × β)) (k j : Nat) (b : β) (x : α × β), (setV fs k b)[j]? = some x → (j = k ∧ x.2 = b) ∨ (j ≠ k ∧ fs[j]? = some x)
  | [], _, _, _, _, h => by simp [setV] at h
  | (a, c) :: r, 0, 0, b, x, h => by cases h; exact .inl ⟨rfl, rfl⟩
  | (a, c) :: r, 0, j + 1, b, x, h => .inr ⟨by omega, by simpa [setV] using h⟩
  | y :: r, k + 1, 0, b, x, h => .inr ⟨by omega, by simpa [setV] using h⟩
  | y :: r, k + 1, j + 1, b, x, h => by
    rcases setV_get r k j b x (by simpa [setV] using h) with ⟨h1, h2⟩ | ⟨h1, h2⟩
    · exact .inl ⟨by omega, h2⟩
    · exact .inr ⟨by omega, by simpa using h2⟩
def kidV (H : Hp) (v : V) (k : Nat) (w : V) : Prop := ∃ p, v = .ref p ∧ ((∃ vs, H p = some (.lst vs) ∧ vs[k]? = some w) ∨ (∃ c dx fs x, H p = some (.ins c dx fs) ∧ fs[k]? = some (x, w)) ∨ (∃ fs x, H p = some (.dK fs) ∧ fs[k]? = some (x, w)) ∨ (∃ fs x, H p = some (.dT fs) ∧ fs[k]? = some (x, w)))
def rch (H : Hp) : V → List Nat → V → Prop
  | v, [], w => v = w
  | v, k :: π, w => ∃ u, kidV H v k u ∧ rch H u π w
theorem kidV_inj {H : Hp} {v : V} {k : Nat} {w u : V} (a : kidV H v k w) (b : kidV H v k u) : w = u := by
  obtain ⟨p, rfl, a⟩ := a
  obtain ⟨q, e, b⟩ := b
  cases e
  rcases a with ⟨vs, h1, h2⟩ | ⟨c, dx, fs, x, h1, h2⟩ | ⟨fs, x, h1, h2⟩ | ⟨fs, x, h1, h2⟩ <;> rcases b with ⟨vs', h3, h4⟩ | ⟨c', dx', fs', x', h3, h4⟩ | ⟨fs', x', h3, h4⟩ | ⟨fs', x', h3, h4⟩ <;> rw [h1] at h3 <;> cases h3 <;> rw [h2] at h4 <;> cases h4 <;> rfl
theorem rch_inj {H : Hp} : ∀ {π : List Nat} {v w u : V}, rch H v π w → rch H v π u → w = u
  | [], v, w, u, a, b => (show v = w from a).symm.trans b
  | k :: π, v, w, u, ⟨x, a1, a2⟩, ⟨y, b1, b2⟩ => by
    cases kidV_inj a1 b1
    exact rch_inj a2 b2
theorem rch_snoc {H : Hp} : ∀ {π : List Nat} {v w u : V} {k : Nat}, rch H v π w → kidV H w k u → rch H v (π ++ [k]) u
  | [], v, w, u, k, a, b => by cases (show v = w from a); exact ⟨u, b, rfl⟩
  | j :: π, v, w, u, k, ⟨x, a1, a2⟩, b => ⟨x, a1, rch_snoc a2 b⟩
theorem T.at_snoc {u c : T} {k : Nat} : ∀ {π : List Nat} {t : T}, t.at π = some u → u.kid k = some c → t.at (π ++ [k]) = some c
  | [], t, a, b => by
    cases a
    show (T.kid _ k).bind (fun u => u.at []) = _
    rw [b]; rfl
  | j :: π, t, a, b => by
    show (t.kid j).bind (fun u => u.at (π ++ [k])) = _
    have a' : (t.kid j).bind (fun u => u.at π) = some u := a
    cases q : t.kid j with
    | none => rw [q] at a'; cases a'
    | some x => rw [q] at a'; exact T.at_snoc (t := x) a' b
/-- the kids' lots -/
theorem Own.kid {K : Frg} {G H : Hp} {v : V} {t c : T} {F : Fp} {k : Nat} (o : Own K G H v t F) (h : t.kid k = some c) : ∃ w Fw, kidV H v k w ∧ Own K G H w c Fw ∧ (∀ a, Fw a → F a) ∧
    ∀ (F1 F2 : Fp) (G' H' : Hp) (c' : T), Stp F1 G H F2 G' H' → (∀ a, F1 a → Fw a) → Own K G' H' w c' F2 → (∀ a, F2 a → F1 a ∨ H a = none) → Own K G' H' v (t.setKid k c') (fun a => (F a ∧ ¬ F1 a) ∨ F2 a) := by
  cases o with
  | im r => cases h
  | pr e n r o sub fp => cases h
  | lst f e n l s dj sub fp =>
    rename_i p vs ts
    have hk : k < vs.length := by rw [l]; exact (List.getElem?_eq_some_iff.mp (show ts[k]? = some c from h)).1
    refine ⟨vs[k], f k, ⟨p, rfl, .inl ⟨vs, e, List.getElem?_eq_getElem hk⟩⟩, s k _ c (List.getElem?_eq_getElem hk) h, fun a x => (sub k a x).1, fun F1 F2 G' H' c' st sub1 o' fr => ?_⟩
    have np : ¬ F1 p := fun z => (sub k p (sub1 p z)).2 rfl
    have nG : G' p = none := by
      cases q : G' p with
      | none => rfl
      | some u => rcases st.gn p n (by rw [q]; exact fun z => nomatch z) with z | z
                  · rw [e] at z; cases z
                  · exact (np z).elim
    refine .lst (fun j => if j = k then F2 else fun a => f j a ∧ H a ≠ none) (st.fr p _ e np) nG (by simp [l]) (fun j v t a b => ?_) (fun i j a ne x y => ?_) (fun i a x => ?_) (.inl ⟨fp, np⟩)
    · try dsimp only
      by_cases c2 : j = k
      · subst c2
        rw [if_pos rfl]
        rw [List.getElem?_set_self (by omega)] at b
        cases b
        rw [List.getElem?_eq_getElem hk] at a
        cases a
        exact o'
      · rw [if_neg c2]
        rw [List.getElem?_set_ne (fun z => c2 z.symm)] at b
        exact (s j v t a b).live.step st fun a x y => dj j k a c2 x.1 (sub1 a y)
    · try dsimp only at x y
      by_cases ci : i = k
      · rw [if_pos ci] at x
        rw [if_neg (fun z => ne (ci.trans z.symm))] at y
        rcases fr a x with z | z
        · exact dj j k a (fun z => ne (ci.trans z.symm)) y.1 (sub1 a z)
        · exact y.2 z
      · rw [if_neg ci] at x
        by_cases cj : j = k
        · rw [if_pos cj] at y
          rcases fr a y with z | z
          · exact dj i k a ci x.1 (sub1 a z)
          · exact x.2 z
        · rw [if_neg cj] at y
          exact dj i j a ne x.1 y.1
    · try dsimp only at x
      by_cases ci : i = k
      · rw [if_pos ci] at x
        refine ⟨.inr x, fun z => ?_⟩
        subst z
        rcases fr _ x with y | y
        · exact np y
        · rw [e] at y; cases y
      · rw [if_neg ci] at x
        exact ⟨.inl ⟨(sub i a x.1).1, fun z => dj i k a ci x.1 (sub1 a z)⟩, (sub i a x.1).2⟩
  | obj f e n l s dj sub fp =>
    rename_i p dx cc vs ts
    have h' : (ts[k]?).map (·.2) = some c := h
    cases q : ts[k]? with
    | none => rw [q] at h'; cases h'
    | some gk =>
    rw [q] at h'; cases h'
    have hlen : vs.length = ts.length := by have := congrArg List.length l; simpa using this
    have hk : k < vs.length := by rw [hlen]; exact (List.getElem?_eq_some_iff.mp q).1
    refine ⟨vs[k].2, f k, ⟨p, rfl, .inr (.inl ⟨_, _, vs, vs[k].1, e, List.getElem?_eq_getElem hk⟩)⟩, s k _ _ (List.getElem?_eq_getElem hk) q, fun a x => (sub k a x).1, fun F1 F2 G' H' c' st sub1 o' fr => ?_⟩
    have np : ¬ F1 p := fun z => (sub k p (sub1 p z)).2 rfl
    have nG : G' p = none := by
      cases q : G' p with
      | none => rfl
      | some u => rcases st.gn p n (by rw [q]; exact fun z => nomatch z) with z | z
                  · rw [e] at z; cases z
                  · exact (np z).elim
    refine .obj (fun j => if j = k then F2 else fun a => f j a ∧ H a ≠ none) (st.fr p _ e np) nG (by rw [l, setV_names fname]) (fun j v t a b => ?_) (fun i j a ne x y => ?_) (fun i a x => ?_) (.inl ⟨fp, np⟩)
    · try dsimp only
      rcases setV_get ts k j c' t b with ⟨rfl, e2⟩ | ⟨c2, b2⟩
      · rw [if_pos rfl, e2]
        rw [List.getElem?_eq_getElem hk] at a
        cases a
        exact o'
      · rw [if_neg c2]
        exact (s j v t a b2).live.step st fun a x y => dj j k a c2 x.1 (sub1 a y)
    · try dsimp only at x y
      by_cases ci : i = k
      · rw [if_pos ci] at x
        rw [if_neg (fun z => ne (ci.trans z.symm))] at y
        rcases fr a x with z | z
        · exact dj j k a (fun z => ne (ci.trans z.symm)) y.1 (sub1 a z)
        · exact y.2 z
      · rw [if_neg ci] at x
        by_cases cj : j = k
        · rw [if_pos cj] at y
          rcases fr a y with z | z
          · exact dj i k a ci x.1 (sub1 a z)
          · exact x.2 z
        · rw [if_neg cj] at y
          exact dj i j a ne x.1 y.1
    · try dsimp only at x
      by_cases ci : i = k
      · rw [if_pos ci] at x
        refine ⟨.inr x, fun z => ?_⟩
        subst z
        rcases fr _ x with y | y
        · exact np y
        · rw [e] at y; cases y
      · rw [if_neg ci] at x
        exact ⟨.inl ⟨(sub i a x.1).1, fun z => dj i k a ci x.1 (sub1 a z)⟩, (sub i a x.1).2⟩
  | dk f e n l s dj sub fp =>
    rename_i p vs ts
    have h' : (ts[k]?).map (·.2) = some c := h
    cases q : ts[k]? with
    | none => rw [q] at h'; cases h'
    | some gk =>
    rw [q] at h'; cases h'
    have hlen : vs.length = ts.length := by have := congrArg List.length l; simpa using this
    have hk : k < vs.length := by rw [hlen]; exact (List.getElem?_eq_some_iff.mp q).1
    refine ⟨vs[k].2, f k, ⟨p, rfl, .inr (.inr (.inl ⟨vs, vs[k].1, e, List.getElem?_eq_getElem hk⟩))⟩, s k _ _ (List.getElem?_eq_getElem hk) q, fun a x => (sub k a x).1, fun F1 F2 G' H' c' st sub1 o' fr => ?_⟩
    have np : ¬ F1 p := fun z => (sub k p (sub1 p z)).2 rfl
    have nG : G' p = none := by
      cases q : G' p with
      | none => rfl
      | some u => rcases st.gn p n (by rw [q]; exact fun z => nomatch z) with z | z
                  · rw [e] at z; cases z
                  · exact (np z).elim
    refine .dk (fun j => if j = k then F2 else fun a => f j a ∧ H a ≠ none) (st.fr p _ e np) nG (by rw [l]; exact (setV_names id ts k c').symm) (fun j v t a b => ?_) (fun i j a ne x y => ?_) (fun i a x => ?_) (.inl ⟨fp, np⟩)
    · try dsimp only
      rcases setV_get ts k j c' t b with ⟨rfl, e2⟩ | ⟨c2, b2⟩
      · rw [if_pos rfl, e2]
        rw [List.getElem?_eq_getElem hk] at a
        cases a
        exact o'
      · rw [if_neg c2]
        exact (s j v t a b2).live.step st fun a x y => dj j k a c2 x.1 (sub1 a y)
    · try dsimp only at x y
      by_cases ci : i = k
      · rw [if_pos ci] at x
        rw [if_neg (fun z => ne (ci.trans z.symm))] at y
        rcases fr a x with z | z
        · exact dj j k a (fun z => ne (ci.trans z.symm)) y.1 (sub1 a z)
        · exact y.2 z
      · rw [if_neg ci] at x
        by_cases cj : j = k
        · rw [if_pos cj] at y
          rcases fr a y with z | z
          · exact dj i k a ci x.1 (sub1 a z)
          · exact x.2 z
        · rw [if_neg cj] at y
          exact dj i j a ne x.1 y.1
    · try dsimp only at x
      by_cases ci : i = k
      · rw [if_pos ci] at x
        refine ⟨.inr x, fun z => ?_⟩
        subst z
        rcases fr _ x with y | y
        · exact np y
        · rw [e] at y; cases y
      · rw [if_neg ci] at x
        exact ⟨.inl ⟨(sub i a x.1).1, fun z => dj i k a ci x.1 (sub1 a z)⟩, (sub i a x.1).2⟩
  | dt f e n l s dj sub fp =>
    rename_i p vs ts
    have h' : (ts[k]?).map (·.2) = some c := h
    cases q : ts[k]? with
    | none => rw [q] at h'; cases h'
    | some gk =>
    rw [q] at h'; cases h'
    have hlen : vs.length = ts.length := by have := congrArg List.length l; simpa using this
    have hk : k < vs.length := by rw [hlen]; exact (List.getElem?_eq_some_iff.mp q).1
    refine ⟨vs[k].2, f k, ⟨p, rfl, .inr (.inr (.inr ⟨vs, vs[k].1, e, List.getElem?_eq_getElem hk⟩))⟩, s k _ _ (List.getElem?_eq_getElem hk) q, fun a x => (sub k a x).1, fun F1 F2 G' H' c' st sub1 o' fr => ?_⟩
    have np : ¬ F1 p := fun z => (sub k p (sub1 p z)).2 rfl
    have nG : G' p = none := by
      cases q : G' p with
      | none => rfl
      | some u => rcases st.gn p n (by rw [q]; exact fun z => nomatch z) with z | z
                  · rw [e] at z; cases z
                  · exact (np z).elim
    refine .dt (fun j => if j = k then F2 else fun a => f j a ∧ H a ≠ none) (st.fr p _ e np) nG (by rw [l]; exact (setV_names id ts k c').symm) (fun j v t a b => ?_) (fun i j a ne x y => ?_) (fun i a x => ?_) (.inl ⟨fp, np⟩)
    · try dsimp only
      rcases setV_get ts k j c' t b with ⟨rfl, e2⟩ | ⟨c2, b2⟩
      · rw [if_pos rfl, e2]
        rw [List.getElem?_eq_getElem hk] at a
        cases a
        exact o'
      · rw [if_neg c2]
        exact (s j v t a b2).live.step st fun a x y => dj j k a c2 x.1 (sub1 a y)
    · try dsimp only at x y
      by_cases ci : i = k
      · rw [if_pos ci] at x
        rw [if_neg (fun z => ne (ci.trans z.symm))] at y
        rcases fr a x with z | z
        · exact dj j k a (fun z => ne (ci.trans z.symm)) y.1 (sub1 a z)
        · exact y.2 z
      · rw [if_neg ci] at x
        by_cases cj : j = k
        · rw [if_pos cj] at y
          rcases fr a y with z | z
          · exact dj i k a ci x.1 (sub1 a z)
          · exact x.2 z
        · rw [if_neg cj] at y
          exact dj i j a ne x.1 y.1
    · try dsimp only at x
      by_cases ci : i = k
      · rw [if_pos ci] at x
        refine ⟨.inr x, fun z => ?_⟩
        subst z
        rcases fr _ x with y | y
        · exact np y
        · rw [e] at y; cases y
      · rw [if_neg ci] at x
        exact ⟨.inl ⟨(sub i a x.1).1, fun z => dj i k a ci x.1 (sub1 a z)⟩, (sub i a x.1).2⟩
theorem Own.at {K : Frg} {G H : Hp} {u : T} : ∀ {π : List Nat} {v : V} {t : T} {F : Fp}, Own K G H v t F → t.at π = some u → ∃ w Fw, rch H v π w ∧ Own K G H w u Fw ∧ (∀ a, Fw a → F a) ∧
    ∀ (F1 F2 : Fp) (G' H' : Hp) (u' : T), Stp F1 G H F2 G' H' → (∀ a, F1 a → Fw a) → Own K G' H' w u' F2 → (∀ a, F2 a → F1 a ∨ H a = none) → Own K G' H' v (t.put π u') (fun a => (F a ∧ ¬ F1 a) ∨ F2 a)
  | [], v, t, F, o, h => by
    cases h
    exact ⟨v, F, rfl, o, fun _ x => x, fun F1 F2 G' H' u' st sub o' fr => o'.wide fun a x => .inr x⟩
  | k :: π, v, t, F, o, h => by
    have h' : (t.kid k).bind (fun u => u.at π) = some u := h
    cases q : t.kid k with
    | none => rw [q] at h'; cases h'
    | some c =>
      rw [q] at h'
      obtain ⟨w, Fw, kv, ow, sw, back⟩ := o.kid q
      obtain ⟨x, Fx, rx, ox, sx, back2⟩ := Own.at (π := π) ow h'
      refine ⟨x, Fx, ⟨w, kv, rx⟩, ox, fun a y => sw a (sx a y), fun F1 F2 G' H' u' st sub o' fr => ?_⟩
      have z := back2 F1 F2 G' H' u' st sub o' fr
      have y := back Fw (fun a => (Fw a ∧ ¬ F1 a) ∨ F2 a) G' H' (c.put π u') ⟨st.gg, st.gh, fun a o q n => st.fr a o q fun z => n (sx a (sub a z)), st.th, fun a q q' => (st.gn a q q').imp id fun z => sx a (sub a z), fun a x => by
        rcases x with x | x
        · exact .inl x.1
        · exact (st.fn a x).imp (fun z => sx a (sub a z)) id⟩ (fun _ x => x) z fun a x => by
        rcases x with x | x
        · exact .inl x.1
        · exact (fr a x).imp (fun z => sx a (sub a z)) id
      show Own K G' H' v (match t.kid k with | some c => t.setKid k (c.put π u') | none => t) _
      rw [q]
      refine y.wide fun a x => ?_
      rcases x with x | x | x
      · exact .inl ⟨x.1, fun z => x.2 (sx a (sub a z))⟩
      · exact .inl ⟨sw a x.1, x.2⟩
      · exact .inr x
end MX

namespace MX
open PySem PySem.Spec PyProof.Rows L2
def tAt (ρ : Env) (i : Nat) (π : List Nat) : Option T := match ρ[i]? with
  | some (some t) => t.at π
  | _ => none
theorem tAt_eq {ρ : Env} {i : Nat} {π : List Nat} {u : T} (h : tAt ρ i π = some u) : ∃ t, ρ[i]? = some (some t) ∧ t.at π = some u := by
  unfold tAt at h
  split at h
  · rename_i t q
    exact ⟨t, q, h⟩
  · cases h
def tPut (ρ : Env) (i : Nat) (π : List Nat) (u : T) : Env := match ρ[i]? with
  | some (some t) => ρ.set i (some (t.put π u))
  | _ => ρ
theorem Slots.place {K : Frg} {F : Fp} {G H : Hp} {σ : L2.St} {ρ : Env} (sl : Slots K G H σ ρ F) {i : Nat} {π : List Nat} {u : T} (h : tAt ρ i π = some u) : ∃ v0 w Fw, σ[i]? = some (some v0) ∧ rch H v0 π w ∧ Own K G H w u Fw ∧ (∀ a, Fw a → F a) ∧
    ∀ (F1 F2 : Fp) (G' H' : Hp) (u' : T), Stp F1 G H F2 G' H' → (∀ a, F1 a → Fw a) → Own K G' H' w u' F2 → (∀ a, F2 a → F1 a ∨ H a = none) → ∃ F', Stp F G H F' G' H' ∧ Slots K G' H' σ (tPut ρ i π u') F' := by
  obtain ⟨t, e1, e2⟩ := tAt_eq h
  obtain ⟨v0, Fv, hv, o, sub, back⟩ := sl.own e1
  obtain ⟨w, Fw, r, ow, sw, back2⟩ := o.at e2
  refine ⟨v0, w, Fw, hv, r, ow, fun a x => sub a (sw a x), fun F1 F2 G' H' u' st sb o' fr => ?_⟩
  have z := back2 F1 F2 G' H' u' st sb o' fr
  have st' : Stp Fv G H (fun a => (Fv a ∧ ¬ F1 a) ∨ F2 a) G' H' := ⟨st.gg, st.gh, fun a o q n => st.fr a o q fun z => n (sw a (sb a z)), st.th, fun a q q' => (st.gn a q q').imp id fun z => sw a (sb a z), fun a x => by
    rcases x with x | x
    · exact .inl x.1
    · exact (st.fn a x).imp (fun z => sw a (sb a z)) id⟩
  have y := back Fv _ G' H' (t.put π u') st' (fun _ x => x) z st'.fn
  unfold tPut
  rw [e1]
  refine ⟨_, ⟨st'.gg, st'.gh, fun a o q n => st'.fr a o q fun z => n (sub a z), st'.th, fun a q q' => (st'.gn a q q').imp id (sub a), fun a x => ?_⟩, y⟩
  rcases x with x | x
  · exact .inl x.1
  · exact (st'.fn a x).imp (sub a) id
/-- data read without any new object -/
structure At (X : Cx) (e : Expr) (t : TE) (m : Env → Option D) : Prop where
  pe : PE X e t
  sim : ∀ (F : Fp) (G H : Hp) (σ : L2.St) (ρ : Env) (Q : VK) (d : D), Same G H → Slots X.K G H σ ρ F → m ρ = some d → (∀ v, Rep X.K G v d → Q v H) → t σ H Q
/-- a place within what the name at slot i owns -/
structure Pc (X : Cx) (e : Expr) (t : TE) (i : Nat) (m : Env → Option (List Nat)) : Prop where
  pe : PE X e t
  sim : ∀ (F : Fp) (G H : Hp) (σ : L2.St) (ρ : Env) (Q : VK) (π : List Nat), Same G H → Slots X.K G H σ ρ F → m ρ = some π → (∀ v0 v, σ[i]? = some (some v0) → rch H v0 π v → Q v H) → t σ H Q
  ok : ∀ ρ π, m ρ = some π → ∃ u, tAt ρ i π = some u
section
variable {X : Cx} {W : WX} {kp : List Nat} {tg iter e o a b c : Expr} {es rest : List Expr} {ta tb tc te : TE} {t tr : TA} {ma mb mc me : M D} {mt : M Bool} {tt : TT} {ms : M (List D)} {mT : M T} {g : TG} {wi : TI} {pos : Pos} {i : Nat} {m ml : Env → Option D} {mp : Env → Option (List Nat)}
def aV (i : Nat) : Env → Option D := fun ρ => match ρ[i]? with
  | some (some (.im d)) => some d
  | _ => none
def aC (d : D) : Env → Option D := fun _ => some d
theorem At.var (i : Nat) {x : Str} {pos : Pos} (hN : X.N[i]? = some x := by rfl) (hv : Vis X.env.scope x := by first | exact Or.inl rfl | exact Or.inr (Or.inl rfl) | exact Or.inr (Or.inr rfl)) (hd : (x == ("__debug__" : Str)) = false := by decide) (hcd : (x == ("__classdict__" : Str)) = false := by decide) :
    At X (.Name x pos) (tVar i) (aV i) := by
  refine ⟨pe_var hN hv hd hcd, fun F G H σ ρ Q d e sl h k => ?_⟩
  unfold aV at h
  split at h
  · rename_i d q
    cases h
    obtain ⟨v, e1, r⟩ := sl.at q
    exact ⟨v, e1, k v r⟩
  · cases h
theorem At.int {z : Int} {j} : At X (.Constant (.int z) j pos) (tC (.int z)) (aC (.int z)) := ⟨pe_int, fun F G H σ ρ Q d e sl h k => by cases h; exact k _ (.int z)⟩
def aBin (f : Int → Int → Int) (a b : Env → Option D) : Env → Option D := fun ρ => (a ρ).bind fun x => (b ρ).bind fun y => match x, y with
  | .int i, .int j => some (.int (f i j))
  | _, _ => none
theorem At.bin {op : Operator} {f : Int → Int → Int} (ho : OpR X (binaryOp op) (rI0 fun i j => .int (f i j))) (ha : At X a ta m) (hb : At X b tb ml) : At X (.BinOp a op b pos) (tOp (rI0 fun i j => .int (f i j)) ta tb) (aBin f m ml) := by
  refine ⟨pe_op ho ha.pe hb.pe, fun F G H σ ρ Q d e sl h k => ?_⟩
  unfold aBin at h
  cases q1 : m ρ with
  | none => rw [q1] at h; cases h
  | some x =>
    rw [q1] at h
    cases q2 : ml ρ with
    | none => rw [q2] at h; cases h
    | some y =>
      rw [q2] at h
      refine ha.sim F G H σ ρ _ x e sl q1 fun v rv => hb.sim F G H σ ρ _ y e sl q2 fun u ru => ?_
      cases x with
      | int i => cases y with
        | int j => cases h; cases rv; cases ru; exact ⟨i, j, rfl, rfl, k _ (.int _)⟩
        | _ => cases h
      | _ => cases y <;> cases h
def mAt (m : Env → Option D) : M D := fun ρ => retO (m ρ) ρ
theorem Ex.at (h : At X e te m) : Ex X W e te (mAt m) := by
  refine ⟨h.pe, fun F G H σ ρ Q e sl p => ?_⟩
  obtain ⟨d, q, p⟩ := Post.retO p
  exact h.sim F G H σ ρ Q d e sl q fun v r => p.here e sl r
/-! places -/
def pN (i : Nat) : Env → Option (List Nat) := fun ρ => match ρ[i]? with
  | some (some _) => some []
  | _ => none
theorem Pc.name (i : Nat) {x : Str} {pos : Pos} (hN : X.N[i]? = some x := by rfl) (hv : Vis X.env.scope x := by first | exact Or.inl rfl | exact Or.inr (Or.inl rfl) | exact Or.inr (Or.inr rfl)) (hd : (x == ("__debug__" : Str)) = false := by decide) (hcd : (x == ("__classdict__" : Str)) = false := by decide) :
    Pc X (.Name x pos) (tVar i) i (pN i) := by
  refine ⟨pe_var hN hv hd hcd, fun F G H σ ρ Q π e sl h k => ?_, fun ρ π h => ?_⟩
  · unfold pN at h
    split at h
    · rename_i t q
      cases h
      obtain ⟨v, Fv, e1, _⟩ := sl.own q
      exact ⟨v, e1, k v v e1 rfl⟩
    · cases h
  · unfold pN at h
    split at h
    · rename_i t q
      cases h
      exact ⟨t, by unfold tAt; rw [q]; rfl⟩
    · cases h
def ixP (π : List Nat) : Option T → D → Option (List Nat)
  | some (.lst ts), .int z => (ixN ts.length z).map fun j => π ++ [j]
  | _, _ => none
def pIx (i : Nat) (mp : Env → Option (List Nat)) (mk : Env → Option D) : Env → Option (List Nat) := fun ρ => (mp ρ).bind fun π => (mk ρ).bind fun d => ixP π (tAt ρ i π) d
theorem ixN_lt {n j : Nat} {z : Int} (h : ixN n z = some j) : j < n := by
  unfold ixN at h
  repeat' split at h
  all_goals first | (cases h; omega) | cases h
theorem tAt_snoc {ρ : Env} {i : Nat} {π : List Nat} {u c : T} {k : Nat} (h : tAt ρ i π = some u) (hk : u.kid k = some c) : tAt ρ i (π ++ [k]) = some c := by
  obtain ⟨t, e1, e2⟩ := tAt_eq h
  unfold tAt
  rw [e1]
  exact T.at_snoc e2 hk
theorem Own.rows {K : Frg} {G H : Hp} {v : V} {ts : List T} {F : Fp} (o : Own K G H v (.lst ts) F) : ∃ p vs, v = .ref p ∧ H p = some (.lst vs) ∧ G p = none ∧ F p ∧ vs.length = ts.length := by
  cases o with
  | lst f e n l s dj sub fp => exact ⟨_, _, rfl, e, n, fp, l⟩
theorem Pc.ix (h : Pc X o te i mp) (hk : At X b tb m) (hs : PlainIx b := by exact fun _ _ => rfl) : Pc X (.Subscript o b pos) (tOp (rIxL X.K) te tb) i (pIx i mp m) := by
  have inv : ∀ ρ π, pIx i mp m ρ = some π → ∃ π0 z ts j, mp ρ = some π0 ∧ m ρ = some (.int z) ∧ tAt ρ i π0 = some (.lst ts) ∧ ixN ts.length z = some j ∧ π = π0 ++ [j] := by
    intro ρ π q
    unfold pIx at q
    cases q1 : mp ρ with
    | none => rw [q1] at q; cases q
    | some π0 =>
      rw [q1] at q
      cases q2 : m ρ with
      | none => rw [q2] at q; cases q
      | some d =>
        rw [q2] at q
        have q' : ixP π0 (tAt ρ i π0) d = some π := q
        cases q3 : tAt ρ i π0 with
        | none => rw [q3] at q'; cases q'
        | some u =>
          rw [q3] at q'
          cases u with
          | lst ts =>
            cases d with
            | int z =>
              have q5 : ((ixN ts.length z).map fun j => π0 ++ [j]) = some π := q'
              cases q4 : ixN ts.length z with
              | none => rw [q4] at q5; cases q5
              | some j => rw [q4] at q5; cases q5; exact ⟨π0, z, ts, j, rfl, rfl, q3, q4, rfl⟩
            | _ => cases q'
          | _ => cases q'
  refine ⟨pe_ix ix_list h.pe hk.pe hs, fun F G H σ ρ Q π e sl q k => ?_, fun ρ π q => ?_⟩
  · obtain ⟨π0, z, ts, j, q1, q2, q3, q4, rfl⟩ := inv ρ π q
    refine h.sim F G H σ ρ _ π0 e sl q1 fun v0 v hv r => ?_
    refine hk.sim F G H σ ρ _ _ e sl q2 fun u ru => ?_
    cases ru
    obtain ⟨v0', w, Fw, hv', rw', ow, _, _⟩ := sl.place q3
    rw [hv] at hv'; cases hv'
    cases rch_inj r rw'
    obtain ⟨p, vs, rfl, hp, _, _, hl⟩ := ow.rows
    have hj : j < vs.length := by rw [hl]; exact ixN_lt q4
    refine ⟨p, vs, z, vs[j], rfl, rfl, SqL.of hp, ?_, k v0 _ hv (rch_snoc r ⟨p, rfl, .inl ⟨vs, hp, List.getElem?_eq_getElem hj⟩⟩)⟩
    unfold atI
    rw [hl, q4]
    exact List.getElem?_eq_getElem hj
  · obtain ⟨π0, z, ts, j, q1, q2, q3, q4, rfl⟩ := inv ρ π q
    have hj := ixN_lt q4
    exact ⟨ts[j], tAt_snoc q3 (show ts[j]? = some ts[j] from List.getElem?_eq_getElem hj)⟩
def idxF : List (Nat × T) → Nat → Option Nat
  | [], _ => none
  | (j, _) :: r, k => if j = k then some 0 else (idxF r k).map (· + 1)
theorem idxF_ok {k : Nat} (hk : k < 45) : ∀ {fs : List (Str × V)} {ts : List (Nat × T)} {j : Nat}, fs.map (·.1) = ts.map (fun g => fname g.1) → idxF ts k = some j → ∃ x v t, fs[j]? = some (x, v) ∧ ts[j]? = some (k, t) ∧ fs.lookup (fname k) = some v
  | _, [], j, _, h => by cases h
  | [], _ :: _, j, e, h => by cases e
  | (x, v) :: fs, (n, t) :: ts, j, e, h => by
    have e' : x = fname n ∧ fs.map (·.1) = ts.map (fun g => fname g.1) := by simpa using e
    have h' : (if n = k then some 0 else (idxF ts k).map (· + 1)) = some j := h
    by_cases c : n = k
    · rw [if_pos c] at h'
      cases h'
      refine ⟨x, v, t, rfl, by rw [c]; rfl, ?_⟩
      rw [e'.1, c]
      simp [List.lookup]
    · rw [if_neg c] at h'
      cases q : idxF ts k with
      | none => rw [q] at h'; cases h'
      | some j' =>
        rw [q] at h'; cases h'
        obtain ⟨y, u, s, h1, h2, h3⟩ := idxF_ok hk e'.2 q
        refine ⟨y, u, s, by simpa using h1, by simpa using h2, ?_⟩
        have hb2 : (fname k == x) = false := by
          rw [e'.1]
          have : fname k ≠ fname n := fun z => c (fname_inj hk z.symm)
          simpa using this
        simp only [List.lookup, hb2]
        exact h3
def pFld (i k : Nat) (cs : List Nat) (mp : Env → Option (List Nat)) : Env → Option (List Nat) := fun ρ => (mp ρ).bind fun π => match tAt ρ i π with
  | some (.obj c fs) => if c ∈ cs then (idxF fs k).map fun j => π ++ [j] else none
  | _ => none
theorem Own.objs {K : Frg} {G H : Hp} {v : V} {c : Nat} {ts : List (Nat × T)} {F : Fp} (o : Own K G H v (.obj c ts) F) : ∃ p dx fs, v = .ref p ∧ H p = some (.ins (cadr K c) dx fs) ∧ G p = none ∧ F p ∧ fs.map (·.1) = ts.map (fun g => fname g.1) := by
  cases o with
  | obj f e n l s dj sub fp => exact ⟨_, _, _, rfl, e, n, fp, l⟩
theorem Pc.fld {f : Str} (k : Nat) (cs : List Nat) (h : Pc X o te i mp) (hc : ∀ c ∈ cs, Cls X.K (cadr X.K c) ∧ NoAttr X.K (cadr X.K c) (fname k)) (hf : fname k = f := by rfl) (hk : k < 45 := by decide) (hb : attributeBase o f X.env (eval o X.env) = eval o X.env := by rfl) :
    Pc X (.Attribute o f pos) (tFld X.K te f) i (pFld i k cs mp) := by
  subst hf
  have inv : ∀ ρ π, pFld i k cs mp ρ = some π → ∃ π0 c ts j, mp ρ = some π0 ∧ tAt ρ i π0 = some (.obj c ts) ∧ c ∈ cs ∧ idxF ts k = some j ∧ π = π0 ++ [j] := by
    intro ρ π q
    unfold pFld at q
    cases q1 : mp ρ with
    | none => rw [q1] at q; cases q
    | some π0 =>
      rw [q1] at q
      have q' : (match tAt ρ i π0 with
        | some (.obj c fs) => if c ∈ cs then (idxF fs k).map fun j => π0 ++ [j] else none
        | _ => none) = some π := q
      split at q'
      · rename_i c ts q3
        split at q'
        · rename_i hcs
          cases q4 : idxF ts k with
          | none => rw [q4] at q'; cases q'
          | some j => rw [q4] at q'; cases q'; exact ⟨π0, c, ts, j, rfl, q3, hcs, q4, rfl⟩
        · cases q'
      · cases q'
  refine ⟨pe_fld h.pe hb, fun F G H σ ρ Q π e sl q kk => ?_, fun ρ π q => ?_⟩
  · obtain ⟨π0, c, ts, j, q1, q2, hcs, q4, rfl⟩ := inv ρ π q
    refine h.sim F G H σ ρ _ π0 e sl q1 fun v0 v hv r => ?_
    obtain ⟨v0', w, Fw, hv', rw', ow, _, _⟩ := sl.place q2
    rw [hv] at hv'; cases hv'
    cases rch_inj r rw'
    obtain ⟨p, dx, fs, rfl, hp, _, _, hl⟩ := ow.objs
    obtain ⟨x, u, s, h1, h2, h3⟩ := idxF_ok hk hl q4
    obtain ⟨c1, c2⟩ := hc c hcs
    exact ⟨p, _, dx, fs, u, rfl, hp, c1, c2, h3, kk v0 u hv (rch_snoc r ⟨p, rfl, .inr (.inl ⟨_, _, fs, x, hp, h1⟩)⟩)⟩
  · obtain ⟨π0, c, ts, j, q1, q2, hcs, q4, rfl⟩ := inv ρ π q
    have : ∀ {ts : List (Nat × T)} {j : Nat}, idxF ts k = some j → ∃ t, ts[j]? = some (k, t) := by
      intro ts
      induction ts with
      | nil => intro j h; cases h
      | cons g r ih =>
        intro j h
        obtain ⟨n, t⟩ := g
        have h' : (if n = k then some 0 else (idxF r k).map (· + 1)) = some j := h
        by_cases c : n = k
        · rw [if_pos c] at h'; cases h'; exact ⟨t, by rw [c]; rfl⟩
        · rw [if_neg c] at h'
          cases q : idxF r k with
          | none => rw [q] at h'; cases h'
          | some j' =>
            rw [q] at h'; cases h'
            obtain ⟨s, e⟩ := ih q
            exact ⟨s, by simpa using e⟩
    obtain ⟨s, es⟩ := this q4
    exact ⟨s, tAt_snoc q2 (show (ts[j]?).map (·.2) = some s by rw [es]; rfl)⟩
/-! reading at places -/
def aP (i : Nat) (mp : Env → Option (List Nat)) : Env → Option D := fun ρ => (mp ρ).bind fun π => match tAt ρ i π with
  | some (.im d) => some d
  | _ => none
theorem At.pl (h : Pc X e te i mp) : At X e te (aP i mp) := by
  refine ⟨h.pe, fun F G H σ ρ Q d e sl q k => ?_⟩
  unfold aP at q
  cases q1 : mp ρ with
  | none => rw [q1] at q; cases q
  | some π =>
    rw [q1] at q
    have q' : (match tAt ρ i π with
      | some (.im d) => some d
      | _ => none) = some d := q
    split at q'
    · rename_i d' q2
      cases q'
      refine h.sim F G H σ ρ Q π e sl q1 fun v0 v hv r => ?_
      obtain ⟨v0', w, Fw, hv', rw', ow, _, _⟩ := sl.place q2
      rw [hv] at hv'; cases hv'
      cases rch_inj r rw'
      cases ow with
      | im r => exact k _ r
    · cases q'
def mRow (i : Nat) (mp : Env → Option (List Nat)) : M (List D) := fun ρ => retO ((mp ρ).bind fun π => match tAt ρ i π with
  | some (.lst ts) => imAll ts
  | _ => none) ρ
theorem sim_row (h : Pc X e te i mp) : Sim X.K W (relL X.K) te (mRow i mp) := by
  intro F G H σ ρ Q e sl p
  obtain ⟨ds, q, p⟩ := Post.retO p
  cases q1 : mp ρ with
  | none => rw [q1] at q; cases q
  | some π =>
    rw [q1] at q
    have q' : (match tAt ρ i π with
      | some (.lst ts) => imAll ts
      | _ => none) = some ds := q
    split at q'
    · rename_i ts q2
      refine h.sim F G H σ ρ Q π e sl q1 fun v0 v hv r => ?_
      obtain ⟨v0', w, Fw, hv', rw', ow, _, _⟩ := sl.place q2
      rw [hv] at hv'; cases hv'
      cases rch_inj r rw'
      rw [imAll_eq q'] at ow
      obtain ⟨a, vs, rfl, e2, n, fp, rr⟩ := ow.flat
      exact p.here e sl ⟨a, vs, rfl, SqL.of e2, rr⟩
    · cases q'
theorem Li.pl (h : Pc X e te i mp) : Li X W e te (mRow i mp) := ⟨h.pe, sim_row h⟩
theorem Se.pl (h : Pc X e te i mp) : Se X W e te (mRow i mp) := by
  refine ⟨h.pe, fun F G H σ ρ Q e sl p => sim_row (W := W) h F G H σ ρ Q e sl ?_⟩
  revert p
  cases mRow i mp ρ with
  | none => exact fun p => p
  | some r =>
    obtain ⟨a, ρ'⟩ := r
    cases a with
    | ok ds => exact fun p v F' G' H' st sl' ⟨a, vs, hv, hq, rr⟩ => p v F' G' H' st sl' ⟨a, vs, hv, .inl hq, rr⟩
    | exc C fs => exact fun p => p
/-! place[k] = e -/
def nPutP (i : Nat) (me : M D) (mp : Env → Option (List Nat)) (mk : Env → Option D) : N := fun ρ => bndS (me ρ) fun d ρ1 => match mp ρ1, mk ρ1 with
  | some π, some (.int z) => (match tAt ρ1 i π with
    | some (.lst ts) => (match ixN ts.length z with
      | some j => some (.nx, tPut ρ1 i π (.lst (ts.set j (.im d))))
      | none => none)
    | _ => none)
  | _, _ => none
theorem Sm.putP {sp : Pos} (he : Ex X W e te me) (hp : Pc X o ta i mp) (hk : At X b tb m)
    (ha : ∀ v, assign (.Subscript o b sp) X.env v = (do
      let ov ← holding [v] (eval o X.env)
      let iv ← holding [v, ov] (eval b X.env)
      standAt sp
      holding [v, ov, iv] (setItem ov iv v)
      release [v, ov, iv] []) := by intro _; rfl)
    (hs : swapsWithSole [.Subscript o b sp] e pos.line X.env = pure false := by rfl) (hw : swappedStores [.Subscript o b sp] e X.env = pure none := by rfl)
    (h1 : (assignEach [.Subscript o b sp] X.env).map (·.2) = [assign (.Subscript o b sp) X.env] := by rfl) :
    Sm X W kp (.Assign [.Subscript o b sp] e pos) (tAsg te (gSub ta tb rSetL)) (nPutP i me mp m) := by
  refine ⟨ps_asg he.pe (pg_sub hp.pe hk.pe set_list ha) hs hw h1, fun F G H σ ρ D e sl p => ?_⟩
  refine he.sim.bindS e sl p fun v d ρ1 F1 G1 H1 e1 s1 sl1 r h1 => ?_
  cases q1 : mp ρ1 with
  | none => rw [q1] at h1; exact h1.elim
  | some π =>
    cases q2 : m ρ1 with
    | none => rw [q1, q2] at h1; exact h1.elim
    | some k =>
      rw [q1, q2] at h1
      cases k with
      | int z =>
        have h2 : PostS X.K W kp σ D F1 G1 H1 (match tAt ρ1 i π with
          | some (.lst ts) => (match ixN ts.length z with
            | some j => some (.nx, tPut ρ1 i π (.lst (ts.set j (.im d))))
            | none => none)
          | _ => none) := h1
        cases q3 : tAt ρ1 i π with
        | none => rw [q3] at h2; exact h2.elim
        | some u =>
          rw [q3] at h2
          cases u with
          | lst ts =>
            have h3 : PostS X.K W kp σ D F1 G1 H1 (match ixN ts.length z with
              | some j => some (.nx, tPut ρ1 i π (.lst (ts.set j (.im d))))
              | none => none) := h2
            cases q4 : ixN ts.length z with
            | none => rw [q4] at h3; exact h3.elim
            | some j =>
              rw [q4] at h3
              refine hp.sim F1 G1 H1 σ ρ1 _ π e1 sl1 q1 fun v0 w hv rr => ?_
              refine hk.sim F1 G1 H1 σ ρ1 _ _ e1 sl1 q2 fun u ru => ?_
              cases ru
              obtain ⟨v0', w', Fw, hv', rw', ow, sub, back⟩ := sl1.place q3
              rw [hv] at hv'; cases hv'
              cases rch_inj rr rw'
              have hj := ixN_lt q4
              obtain ⟨y, Fy, ky, oy, sy, back3⟩ := ow.kid (k := j) (c := ts[j]) (List.getElem?_eq_getElem hj)
              obtain ⟨p, vs, rfl, hp', hn, fp, hl⟩ := ow.rows
              refine ⟨p, vs, z, j, rfl, rfl, hp', by rw [hl]; exact q4, ?_⟩
              have st : Stp Fw G1 H1 Fw G1 (upd H1 p (.lst (vs.set j v))) := by
                have z := Stp.mine (o := .lst (vs.set j v)) e1 hn
                exact ⟨z.gg, z.gh, fun a o q n => z.fr a o q fun y => n (by rw [y]; exact fp), z.th, fun a x y => absurd x y, fun a x => .inl x⟩
              have on : Own X.K G1 (upd H1 p (.lst (vs.set j v))) (.ref p) (.lst (ts.set j (.im d))) Fw := by
                cases ow with
                | lst f e n l s dj sb fpp =>
                  rw [hp'] at e; cases e
                  refine .lst f upd_same n (by simp [l]) (fun k x y a b => ?_) dj sb fpp
                  by_cases c : k = j
                  · subst c
                    rw [List.getElem?_set_self hj] at b
                    rw [List.getElem?_set_self (by rw [l]; exact hj)] at a
                    cases a; cases b
                    exact .im r
                  · rw [List.getElem?_set_ne (fun z => c z.symm)] at a b
                    refine (s k x y a b).stay (Same.refl _) (fun a o fa q => ?_) fun a o fa q n => n
                    rw [upd_ne (sb k a fa).2]; exact q
              obtain ⟨F', st', sl'⟩ := back Fw Fw G1 _ _ st (fun _ x => x) on fun a x => .inl x
              exact h3 σ F' G1 _ st' sl' (.refl _ _)
          | _ => exact h2.elim
      | _ => exact h1.elim
end
end MX

namespace MX
open PySem PySem.Spec PyProof.Rows L2
/-! ### a tree frozen whole -/
mutual
def frzT : T → D
  | .im d => d
  | .lst ts => .lst (frzL ts)
  | .obj c fs => .obj c (frzN1 fs)
  | .dk fs => .dk (frzN2 fs)
  | .dt fs => .dt (frzN3 fs)
  | .pr d t => .tup [d, frzT t]
def frzL : List T → List D
  | [] => []
  | t :: r => frzT t :: frzL r
def frzN1 : List (Nat × T) → List (Nat × D)
  | [] => []
  | (k, t) :: r => (k, frzT t) :: frzN1 r
def frzN2 : List (Key × T) → List (Key × D)
  | [] => []
  | (k, t) :: r => (k, frzT t) :: frzN2 r
def frzN3 : List (List Key × T) → List (List Key × D)
  | [] => []
  | (k, t) :: r => (k, frzT t) :: frzN3 r
end
theorem frzL_eq : ∀ ts, frzL ts = ts.map frzT
  | [] => by simp [frzL]
  | t :: r => by simp [frzL, frzL_eq r]
theorem frzN1_eq : ∀ ts, frzN1 ts = ts.map fun x => (x.1, frzT x.2)
  | [] => by simp [frzN1]
  | (k, t) :: r => by simp [frzN1, frzN1_eq r]
theorem frzN2_eq : ∀ ts, frzN2 ts = ts.map fun x => (x.1, frzT x.2)
  | [] => by simp [frzN2]
  | (k, t) :: r => by simp [frzN2, frzN2_eq r]
theorem frzN3_eq : ∀ ts, frzN3 ts = ts.map fun x => (x.1, frzT x.2)
  | [] => by simp [frzN3]
  | (k, t) :: r => by simp [frzN3, frzN3_eq r]
@[simp] theorem frzT_im (d : D) : frzT (.im d) = d := by simp [frzT]
@[simp] theorem frzT_lst (ts : List T) : frzT (.lst ts) = .lst (ts.map frzT) := by simp [frzT, frzL_eq]
@[simp] theorem frzT_flat (ds : List D) : frzT (.lst (ds.map .im)) = .lst ds := by
  rw [frzT_lst, List.map_map]
  congr 1
  have : (frzT ∘ T.im) = id := by funext d; simp
  rw [this, List.map_id]
theorem get_map {α β : Type} {f : α → β} {xs : List α} {i : Nat} {b : β} (h : (xs.map f)[i]? = some b) : ∃ a, xs[i]? = some a ∧ b = f a := by
  rw [List.getElem?_map] at h
  cases q : xs[i]? with
  | none => rw [q] at h; cases h
  | some a => rw [q] at h; cases h; exact ⟨a, rfl, rfl⟩
open Classical in
noncomputable def frzG (F : Fp) (G H : Hp) : Hp := fun a => if F a then H a else G a
theorem frzG_in {F : Fp} {G H : Hp} {a : Addr} (h : F a) : frzG F G H a = H a := by unfold frzG; rw [if_pos h]
theorem frzG_out {F : Fp} {G H : Hp} {a : Addr} (h : ¬ F a) : frzG F G H a = G a := by unfold frzG; rw [if_neg h]
theorem frzG_same {F : Fp} {G H : Hp} (e : Same G H) : Same G (frzG F G H) := fun a o q => by
  by_cases c : F a
  · rw [frzG_in c]; exact e _ _ q
  · rw [frzG_out c]; exact q
theorem frzG_sub {F : Fp} {G H : Hp} (e : Same G H) : Same (frzG F G H) H := fun a o q => by
  by_cases c : F a
  · rw [frzG_in c] at q; exact q
  · rw [frzG_out c] at q; exact e _ _ q
theorem Own.frz {K : Frg} {G H G' : Hp} (e : Same G G') {v : V} {t : T} {F : Fp} (o : Own K G H v t F) (h : ∀ a, F a → G' a = H a) : Rep K G' v (frzT t) := by
  induction o with
  | im r => rw [frzT_im]; exact r.mono e
  | lst f e1 n l s dj sub fp ih =>
    rw [frzT_lst]
    refine .lst ((h _ fp).trans e1) (by simpa using l) fun i v d a b => ?_
    obtain ⟨t, q, rfl⟩ := get_map b
    exact ih i v t a q fun c x => h c (sub i c x).1
  | obj f e1 n l s dj sub fp ih =>
    unfold frzT
    rw [frzN1_eq]
    refine .obj ((h _ fp).trans e1) (by rw [l, List.map_map]; rfl) fun i v d a b => ?_
    obtain ⟨t, q, rfl⟩ := get_map b
    exact ih i v t a q fun c x => h c (sub i c x).1
  | dk f e1 n l s dj sub fp ih =>
    unfold frzT
    rw [frzN2_eq]
    refine .dk ((h _ fp).trans e1) (by rw [l, List.map_map]; rfl) fun i v d a b => ?_
    obtain ⟨t, q, rfl⟩ := get_map b
    exact ih i v t a q fun c x => h c (sub i c x).1
  | dt f e1 n l s dj sub fp ih =>
    unfold frzT
    rw [frzN3_eq]
    refine .dt ((h _ fp).trans e1) (by rw [l, List.map_map]; rfl) fun i v d a b => ?_
    obtain ⟨t, q, rfl⟩ := get_map b
    exact ih i v t a q fun c x => h c (sub i c x).1
  | pr e1 n r o sub fp ih =>
    unfold frzT
    refine .tup ((h _ fp).trans e1) rfl fun i v d a b => ?_
    match i with
    | 0 => cases a; cases b; exact r.mono e
    | 1 => cases a; cases b; exact ih fun c x => h c (sub c x).1
    | i + 2 => simp at a
def frzA (i : Nat) (n : N) : N := fun ρ => match ρ[i]? with
  | some (some t) => n (ρ.set i (some (.im (frzT t))))
  | _ => none
section
variable {X : Cx} {W : WX} {kp : List Nat} {tg iter e o a b c : Expr} {es rest ifs : List Expr} {sts : List Stmt} {u : TS} {n : N} {ta tb tc te : TE} {t tr : TA} {ma mb mc me : M D} {mt : M Bool} {tt : TT} {ms : M (List D)} {mT : M T} {g : TG} {wi : TI} {pos : Pos} {i : Nat} {m ml : Env → Option D} {mp : Env → Option (List Nat)}
theorem sim_frzA {K : Frg} {i : Nat} (h : SimS K W kp u n) : SimS K W kp u (frzA i n) := by
  intro F G H σ ρ D e sl p
  unfold frzA at p
  split at p
  · rename_i t q
    have sl0 := sl
    obtain ⟨l, f, h1, h2, h3⟩ := sl
    obtain ⟨v, e1, o⟩ := h1 i t q
    have st : Stp F G H F (frzG (f i) G H) H := ⟨frzG_same e, frzG_sub e, fun _ _ h _ => h, fun _ h => h, fun a q q' => by
      by_cases c : f i a
      · exact .inr (h3 i a c)
      · rw [frzG_out c] at q'; exact absurd q q', fun _ h => .inl h⟩
    have sl2 : Slots K (frzG (f i) G H) H σ (ρ.set i (some (.im (frzT t)))) F := by
      have hi : i < ρ.length := (List.getElem?_eq_some_iff.mp q).1
      refine ⟨by simpa using l, f, fun j t' ej => ?_, h2, h3⟩
      by_cases c : j = i
      · subst c
        rw [List.getElem?_set_self hi] at ej
        cases ej
        exact ⟨_, e1, .im (o.frz (frzG_same e) fun a x => frzG_in x)⟩
      · rw [List.getElem?_set_ne (fun z => c z.symm)] at ej
        obtain ⟨w, e3, ow⟩ := h1 j t' ej
        refine ⟨w, e3, ow.stay (frzG_same e) (fun a o fa q => q) fun a o fa qq n' => ?_⟩
        rw [frzG_out (fun z => h2 j i a c fa z)]
        exact n'
    exact h F _ H σ _ D st.gh sl2 (PostS.mono st (.refl _ _) p)
  · exact p.elim
theorem Sms.frzA (i : Nat) (h : Sms X W kp sts u n) : Sms X W kp sts u (frzA i n) := ⟨h.ps, sim_frzA h.sim⟩
/-! ### [owned for ..], the rows its own -/
def lcT (vs : List Nat) (bd : D → Env → Option Env) (mt : M Bool) (me : M T) : List D → Env → Option (List T × Env)
  | [], ρ => some ([], ρ)
  | d :: ds, ρ => (bd d (wipeE ρ vs)).bind fun ρ1 => (okO (mt ρ1)).bind fun b => if b.1 = true then (okO (me b.2)).bind fun y => (lcT vs bd mt me ds y.2).map fun r => (y.1 :: r.1, r.2) else lcT vs bd mt me ds b.2
def mLcT (ms : M (List D)) (vs : List Nat) (bd : D → Env → Option Env) (mt : M Bool) (me : M T) : M T := fun ρ => bnd (ms ρ) fun ds ρ1 => match lcT vs bd mt me ds ρ1 with
  | some r => ret (.lst r.1) (restE ρ1 vs r.2)
  | none => none
theorem postT_ok {K : Frg} {σ : L2.St} {Q : VK} {F : Fp} {G H : Hp} {r : Option (Res T × Env)} {t : T} {ρ : Env} (h : okO r = some (t, ρ)) (k : ∀ v Fs Fv G' H', Stp F G H (fun a => Fs a ∨ Fv a) G' H' → Slots K G' H' σ ρ Fs → Own K G' H' v t Fv → (∀ a, Fv a → ¬ Fs a) → Q v H') : PostT K WF σ Q F G H r := by
  cases r with
  | none => cases h
  | some r =>
    obtain ⟨a, ρ'⟩ := r
    cases a with
    | ok a => cases h; exact k
    | exc C fs => cases h
structure LtI (K : Frg) (σ : L2.St) (vs : List Nat) (bd : D → Env → Option Env) (mt : M Bool) (me : M T) (ds : List D) (F1 : Fp) (G1 H1 : Hp) (fin : List T) (ρf : Env) (D : Addr) (i : Nat) (H : Hp) : Prop where
  ex : ∃ (F' : Fp) (G' : Hp) (ρ' : Env) (acc : List V) (accd rest : List T) (f : Nat → Fp), Stp F1 G1 H1 (fun a => F' a ∨ ∃ j, f j a) G' H ∧ Slots K G' H (L2.wipe σ vs) (wipeE ρ' vs) F' ∧ H D = some (.lst acc) ∧ G' D = none ∧ ¬ F' D ∧ acc.length = accd.length ∧
    (∀ (j : Nat) (v : V) (t : T), acc[j]? = some v → accd[j]? = some t → Own K G' H v t (f j)) ∧ (∀ j k a, j ≠ k → f j a → ¬ f k a) ∧ (∀ j a, f j a → a ≠ D ∧ ¬ F' a) ∧ acc.length ≤ i ∧
    lcT vs bd mt me (ds.drop i) ρ' = some (rest, ρf) ∧ fin = accd ++ rest
theorem sim_lcT {K : Frg} {js vs : List Nat} {bd : D → Env → Option Env} (hi : Sim K W (relJ K) wi ms) (hg : SimG K js g bd) (ht : Sim K WF relB tt mt) (he : SimT K WF te mT) (hj : ∀ j ∈ js, j ∈ vs) : SimT K W (tLc wi g tt te vs) (mLcT ms vs bd mt mT) := by
  intro F G H σ ρ Q e sl p
  refine hi.bindT e sl p fun J ds ρ1 F1 G1 H1 e1 s1 sl1 jk h1 => ?_
  intro D nD
  cases q : lcT vs bd mt mT ds ρ1 with
  | none => rw [q] at h1; exact h1.elim
  | some r =>
    obtain ⟨fin, ρf⟩ := r
    rw [q] at h1
    have nG : G1 D = none := none_of e1 nD
    have hlen : ds.length ≤ sizeLine := jk.1
    refine ⟨fun i m H => i + m = ds.length ∧ LtI K σ vs bd mt mT ds F1 G1 H1 fin ρf D i H, ⟨ds.length, by omega, ?_⟩, ?_⟩
    · have nF : Slots K G1 H1 σ ρ1 (fun a => F1 a ∧ H1 a ≠ none) := by
        obtain ⟨l, f, g1, g2, g3⟩ := sl1
        refine ⟨l, fun i a => f i a ∧ H1 a ≠ none, fun i t q => ?_, fun i j a n x y => g2 i j a n x.1 y.1, fun i a x => ⟨g3 i a x.1, x.2⟩⟩
        obtain ⟨v, e2, o⟩ := g1 i t q
        exact ⟨v, e2, o.live⟩
      have st := Stp.heap e1 nD (.lst [])
      refine ⟨fun a => F1 a ∧ H1 a ≠ none, G1, ρ1, [], [], fin, fun _ => F0, ⟨st.gg, st.gh, fun a o x _ => st.fr a o x fun z => z.elim, st.th, fun a x y => absurd x y, fun a x => ?_⟩, (nF.touch (fun z => z.2 nD) nG (.lst [])).wipe vs, upd_same, nG, fun z => z.2 nD, rfl, fun j v t a b => by simp at a, fun j k a n x => x.elim, fun j a x => x.elim, Nat.le_refl _, q, rfl⟩
      rcases x with x | ⟨_, x⟩
      · exact .inl x.1
      · exact x.elim
    · rintro i m H ⟨him, ⟨F', G', ρ', acc, accd, rest, f, st, sl', hD, nG', nF', la, own, dj, out, hl, hq, hf⟩⟩
      cases m with
      | zero =>
        refine .inl ⟨(jk.2 G' H i st.gg st.gh).2 (by omega), ?_⟩
        rw [List.drop_eq_nil_of_le (by omega)] at hq
        cases hq
        rw [List.append_nil] at hf
        subst hf
        refine h1 (.ref D) F' (fun a => a = D ∨ ∃ j, f j a) G' H ⟨st.gg, st.gh, st.fr, st.th, st.gn, fun a x => ?_⟩ (sl'.back sl1 st.gg) (.lst f hD nG' la own dj (fun j a x => ⟨.inr ⟨j, x⟩, (out j a x).1⟩) (.inl rfl)) fun a x y => ?_
        · rcases x with x | x | ⟨j, x⟩
          · exact st.fn a (.inl x)
          · rw [x]; exact .inr nD
          · exact st.fn a (.inr ⟨j, x⟩)
        · rcases x with x | ⟨j, x⟩
          · rw [x] at y; exact nF' y
          · exact (out j a x).2 y
      | succ m =>
        have hi : i < ds.length := by omega
        refine .inr ⟨((jk.2 G' H i st.gg st.gh).1 _ (List.getElem?_eq_getElem hi)).1, fun H' => (i + 1) + m = ds.length ∧ LtI K σ vs bd mt mT ds F1 G1 H1 fin ρf D (i + 1) H', fun H' w => ⟨m, Nat.lt_succ_self m, w⟩, fun x H' hy => ?_⟩
        obtain ⟨G2, st2, rx⟩ := ((jk.2 G' H i st.gg st.gh).1 _ (List.getElem?_eq_getElem hi)).2 x H' hy
        rw [List.drop_eq_getElem_cons hi] at hq
        have hq' : (bd ds[i] (wipeE ρ' vs)).bind (fun ρ1 => (okO (mt ρ1)).bind fun b => if b.1 = true then (okO (mT b.2)).bind fun y => (lcT vs bd mt mT (ds.drop (i + 1)) y.2).map fun r => (y.1 :: r.1, r.2) else lcT vs bd mt mT (ds.drop (i + 1)) b.2) = some (rest, ρf) := hq
        cases q1 : bd ds[i] (wipeE ρ' vs) with
        | none => rw [q1] at hq'; cases hq'
        | some ρ2 =>
          rw [q1] at hq'
          refine hg F' G2 H' (L2.wipe σ vs) _ ρ2 x _ _ st2.gh (sl'.pure st2) rx q1 fun σ2 sl2 l2 u2 => ?_
          have hw : L2.wipe σ2 vs = L2.wipe σ vs := by
            rw [← wipe_wipe (σ := σ)]
            exact wipe_same l2 u2 hj
          refine ⟨hw, ?_⟩
          cases q2 : okO (mt ρ2) with
          | none =>
            have z : (okO (mt ρ2)).bind (fun b => if b.1 = true then (okO (mT b.2)).bind fun y => (lcT vs bd mt mT (ds.drop (i + 1)) y.2).map fun r => (y.1 :: r.1, r.2) else lcT vs bd mt mT (ds.drop (i + 1)) b.2) = some (rest, ρf) := hq'
            rw [q2] at z; cases z
          | some bb =>
            obtain ⟨b, ρ3⟩ := bb
            have hq2 : (if b = true then (okO (mT ρ3)).bind fun y => (lcT vs bd mt mT (ds.drop (i + 1)) y.2).map fun r => (y.1 :: r.1, r.2) else lcT vs bd mt mT (ds.drop (i + 1)) ρ3) = some (rest, ρf) := by
              have z : (okO (mt ρ2)).bind (fun b => if b.1 = true then (okO (mT b.2)).bind fun y => (lcT vs bd mt mT (ds.drop (i + 1)) y.2).map fun r => (y.1 :: r.1, r.2) else lcT vs bd mt mT (ds.drop (i + 1)) b.2) = some (rest, ρf) := hq'
              rw [q2] at z
              exact z
            refine ht F' G2 H' σ2 ρ2 _ st2.gh sl2 (post_ok q2 fun b' F3 G3 H3 st3 sl3 rb => ?_)
            cases (show b' = b from rb)
            have stZ : Stp F' G' H F3 G3 H3 := st2.pure.trans st3
            have dB : H3 D = some (.lst acc) := stZ.fr D _ hD nF'
            have gB : G3 D = none := by
              cases z : G3 D with
              | none => rfl
              | some u =>
                rcases stZ.gn D nG' (by rw [z]; exact fun y => nomatch y) with y | y
                · rw [hD] at y; cases y
                · exact (nF' y).elim
            have fB : ¬ F3 D := fun z => by
              rcases stZ.fn D z with y | y
              · exact nF' y
              · rw [hD] at y; cases y
            -- what was made so far, live
            have own3 : ∀ (j : Nat) (v : V) (t : T), acc[j]? = some v → accd[j]? = some t → Own K G3 H3 v t (fun a => f j a ∧ H a ≠ none) := fun j v t a b => (own j v t a b).live.step stZ fun a x y => (out j a x.1).2 y
            have out3 : ∀ j a, f j a ∧ H a ≠ none → a ≠ D ∧ ¬ F3 a := fun j a x => ⟨(out j a x.1).1, fun z => by
              rcases stZ.fn a z with y | y
              · exact (out j a x.1).2 y
              · exact x.2 y⟩
            have live3 : ∀ j a, f j a ∧ H a ≠ none → H3 a ≠ none := fun j a x y => x.2 (stZ.th a y)
            have stB : Stp F1 G1 H1 (fun a => F3 a ∨ ∃ j, f j a ∧ H a ≠ none) G3 H3 := by
              have w : Stp (fun a => F' a ∨ ∃ j, f j a) G' H (fun a => F3 a ∨ ∃ j, f j a ∧ H a ≠ none) G3 H3 := ⟨stZ.gg, stZ.gh, fun a o q n => stZ.fr a o q fun z => n (.inl z), stZ.th, fun a q q' => (stZ.gn a q q').imp id .inl, fun a x => by
                rcases x with x | ⟨j, x⟩
                · exact (stZ.fn a x).imp .inl id
                · exact .inl (.inr ⟨j, x.1⟩)⟩
              exact st.trans w
            cases b with
            | false =>
              rw [if_neg Bool.false_ne_true] at hq2 ⊢
              refine ⟨by omega, ⟨F3, G3, ρ3, acc, accd, rest, fun j a => f j a ∧ H a ≠ none, stB, ?_, dB, gB, fB, la, own3, fun j k a n x y => dj j k a n x.1 y.1, out3, by omega, hq2, hf⟩⟩
              rw [← hw]
              exact sl3.wipe vs
            | true =>
              rw [if_pos rfl] at hq2 ⊢
              cases q3 : okO (mT ρ3) with
              | none => rw [q3] at hq2; cases hq2
              | some yy =>
                obtain ⟨y, ρ4⟩ := yy
                rw [q3] at hq2
                have hq3 : (lcT vs bd mt mT (ds.drop (i + 1)) ρ4).map (fun r => (y :: r.1, r.2)) = some (rest, ρf) := hq2
                cases q4 : lcT vs bd mt mT (ds.drop (i + 1)) ρ4 with
                | none => rw [q4] at hq3; cases hq3
                | some rr =>
                  obtain ⟨rest', ρg⟩ := rr
                  rw [q4] at hq3
                  cases hq3
                  refine he F3 G3 H3 σ2 ρ3 _ stZ.gh sl3 (postT_ok q3 fun v Fs Fv G4 H4 st4 sl4 ov dv => ?_)
                  have dC : H4 D = some (.lst acc) := st4.fr D _ dB fB
                  have gC : G4 D = none := by
                    cases z : G4 D with
                    | none => rfl
                    | some u =>
                      rcases st4.gn D gB (by rw [z]; exact fun y => nomatch y) with y | y
                      · rw [dB] at y; cases y
                      · exact (fB y).elim
                  have fC : ¬ (Fs D ∨ Fv D) := fun z => by
                    rcases st4.fn D z with y | y
                    · exact fB y
                    · rw [dB] at y; cases y
                  have tou : ∀ {v : V} {t : T} {Fx : Fp}, Own K G4 H4 v t Fx → ¬ Fx D → Own K G4 (upd H4 D (.lst (acc ++ [v]))) v t Fx := fun o n => o.stay (Same.refl _) (fun a u fa q => by rw [upd_ne (fun c : a = D => n (by rw [← c]; exact fa))]; exact q) fun a u fa q n => n
                  have hla : acc.length = accd.length := la
                  refine ⟨acc, dC, by omega, by omega, ⟨Fs, G4, ρ4, acc ++ [v], accd ++ [y], rest', fun j => if j = acc.length then Fv else fun a => f j a ∧ H a ≠ none, ?_, ?_, upd_same, gC, fun z => fC (.inl z), by simp [la], fun j w t a b => ?_, fun j k a n x z => ?_, fun j a x => ?_, by rw [List.length_append]; simp only [List.length_cons, List.length_nil]; omega, q4, by rw [hf]; simp⟩⟩
                  · have w : Stp (fun a => F3 a ∨ ∃ j, f j a ∧ H a ≠ none) G3 H3 (fun a => Fs a ∨ ∃ j, (if j = acc.length then Fv else fun a => f j a ∧ H a ≠ none) a) G4 H4 := ⟨st4.gg, st4.gh, fun a o q n => st4.fr a o q fun z => n (.inl z), st4.th, fun a q q' => (st4.gn a q q').imp id .inl, fun a x => by
                      rcases x with x | ⟨j, x⟩
                      · exact (st4.fn a (.inl x)).imp .inl id
                      · by_cases c : j = acc.length
                        · rw [if_pos c] at x; exact (st4.fn a (.inr x)).imp .inl id
                        · rw [if_neg c] at x; exact .inl (.inr ⟨j, x⟩)⟩
                    exact (stB.trans w).touch nD gC
                  · rw [← hw]
                    exact (sl4.wipe vs).touch (fun z => fC (.inl z)) gC _
                  · dsimp only
                    by_cases c : j = acc.length
                    · subst c
                      rw [List.getElem?_append_right (Nat.le_refl _), Nat.sub_self] at a
                      cases a
                      rw [hla, List.getElem?_append_right (Nat.le_refl _), Nat.sub_self] at b
                      cases b
                      rw [if_pos rfl]
                      exact ov.stay (Same.refl _) (fun a u fa q => by rw [upd_ne (fun c : a = D => fC (.inr (by rw [← c]; exact fa)))]; exact q) fun a u fa q n => n
                    · rw [if_neg c]
                      have hj : j < acc.length := by
                        have := (List.getElem?_eq_some_iff.mp a).1
                        rw [List.length_append] at this
                        simp only [List.length_cons, List.length_nil] at this
                        omega
                      rw [List.getElem?_append_left hj] at a
                      rw [List.getElem?_append_left (by omega)] at b
                      have o3 := own3 j w t a b
                      have o4 : Own K G4 H4 w t (fun a => f j a ∧ H a ≠ none) := o3.step st4 fun a x => (out3 j a x).2
                      exact o4.stay (Same.refl _) (fun a u fa q => by rw [upd_ne (out3 j a fa).1]; exact q) fun a u fa q n => n
                  · dsimp only at x z
                    have newF : ∀ j a, Fv a → f j a ∧ H a ≠ none → False := fun j a p q => by
                      rcases st4.fn a (.inr p) with y | y
                      · exact (out3 j a q).2 y
                      · exact live3 j a q y
                    by_cases c : j = acc.length
                    · rw [if_pos c] at x
                      rw [if_neg (fun y => n (c.trans y.symm))] at z
                      exact newF k a x z
                    · rw [if_neg c] at x
                      by_cases c' : k = acc.length
                      · rw [if_pos c'] at z
                        exact newF j a z x
                      · rw [if_neg c'] at z
                        exact dj j k a n x.1 z.1
                  · dsimp only at x
                    by_cases c : j = acc.length
                    · rw [if_pos c] at x
                      exact ⟨fun z => fC (.inr (by rw [← z]; exact x)), fun z => dv a x z⟩
                    · rw [if_neg c] at x
                      refine ⟨(out3 j a x).1, fun z => ?_⟩
                      rcases st4.fn a (.inl z) with y | y
                      · exact (out3 j a x).2 y
                      · exact live3 j a x y
/-- x = [owned for tg in iter ..], owned -/
theorem Sm.setLcT {js : List Nat} {bd : D → Env → Option Env} {scope : Scope} {own : List (Str × Nat)} {x : Str} {py spos : Pos} (i : Nat) (hc : X.calm = true) (hN : X.N.Nodup) (hi : Src X W tg iter wi ms) (ok : BlkOk X.N X.env.scope scope own)
    (hg : ∀ (s : Shared) (H : Hp) (C : Addr) (cl : List (Str × Addr)) (fp : List Addr), Tg (X.blk s H scope (compEnvC scope cl C X.env) fp) tg js g bd)
    (ht : ∀ (s : Shared) (H : Hp) (C : Addr) (cl : List (Str × Addr)) (fp : List Addr), Ts (X.blk s H scope (compEnvC scope cl C X.env) fp) WF rest tt mt)
    (he : ∀ (s : Shared) (H : Hp) (C : Addr) (cl : List (Str × Addr)) (fp : List Addr), Ot (X.blk s H scope (compEnvC scope cl C X.env) fp) WF e te mT)
    (hj : ∀ j ∈ js, j ∈ own.map (·.2)) (hy : X.N[i]? = some x := by rfl) (hyl : X.env.scope.names.lookup x = some .local := by rfl) (hk : i ∉ kp := by decide)
    (hsw : swapsWith (.ListComp e [⟨tg, iter, rest, 0⟩] scope pos) (some (.Name x py)) spos.line X.env = pure true := by exact sw_true rfl rfl rfl (by decide +kernel)) (hs : ∀ x, foldedSetIterable iter X.env x = pure x := by intro _; rfl) :
    Sm X W kp (.Assign [.Name x py] (.ListComp e [⟨tg, iter, rest, 0⟩] scope pos) spos) (tAsg (tLc wi g tt te (own.map (·.2))) (gName i)) (nSetT i (mLcT ms (own.map (·.2)) bd mt mT)) :=
  ⟨ps_setLc hc hN hy hyl hsw hi.pi ok (fun s H C cl fp => (hg s H C cl fp).pg) (fun s H C cl fp => (ht s H C cl fp).pt) (fun s H C cl fp => (he s H C cl fp).pe) hs,
    sim_setT hk (sim_lcT hi.sim (hg X.s_0 X.H_0 0 [] []).sim (ht X.s_0 X.H_0 0 [] []).sim (he X.s_0 X.H_0 0 [] []).sim hj)⟩
/-! ### an owned row at a name: extend, pop(k) -/
def mExt (i : Nat) (m : M D) : M D := fun ρ => bnd (retO (ownL ρ i) ρ) fun _ ρ0 => bnd (m ρ0) fun d ρ1 => bnd (retO (ownL ρ1 i) ρ1) fun ds ρ2 => match d with
  | .lst es => if ds.length + es.length ≤ 1000000 then ret .non (ρ2.set i (some (.lst ((ds ++ es).map .im)))) else none
  | _ => none
theorem Ex.ext {y : Str} {yp apos cpos : Pos} (i : Nat) (h : Ex X W e te me) (hN : X.N[i]? = some y := by rfl) (hv : Vis X.env.scope y := by first | exact Or.inl rfl | exact Or.inr (Or.inl rfl) | exact Or.inr (Or.inr rfl)) (hd : (y == ("__debug__" : Str)) = false := by decide) (hcd : (y == ("__classdict__" : Str)) = false := by decide)
    (hbase : attributeBase (.Name y yp) "extend" X.env (eval (.Name y yp) X.env) = eval (.Name y yp) X.env := by rfl)
    (hfew : ((backTo cpos (starEach (e :: []) X.env)).all (fun x => !x.1) && (backToKw cpos (keywordEach [] X.env)).all (fun x => x.1.isSome) && decide ((e :: ([] : List Expr)).length + ([] : List Keyword).length + (if ([] : List Keyword).isEmpty then 0 else 1) < 30)) = true := by rfl)
    (hline : (apos.endLine == cpos.line) = true := by rfl) (hs : starEach (e :: []) X.env = (false, eval e X.env) :: starEach [] X.env := by rfl) (hpl : (backTo cpos (starEach [] X.env)).any (·.1) = false := by rfl) :
    Ex X W (.Call (.Attribute (.Name y yp) "extend" apos) [e] [] cpos) (tBM X.K "list" rExtend (tVar i) (tCons te tNil)) (mExt i me) := by
  refine ⟨pe_bm PySem.F.plainAttrs_list PySem.F.slot_list_extend PySem.F.type_list_extend mt_extend (pe_var hN hv hd hcd) (pa_cons h.pe pa_nil hs) hbase hfew hline hs hpl, fun F G H σ ρ Q e sl p => ?_⟩
  unfold mExt at p
  cases q0 : ownL ρ i with
  | none => rw [q0] at p; exact p.elim
  | some ds0 =>
    rw [q0] at p
    obtain ⟨l, vs0, hv, hl0, _, _, _⟩ := sl.row e q0
    refine ⟨_, hv, .inl ⟨rfl, _, SqL.of hl0⟩, ?_⟩
    refine h.sim.bind e sl p fun y d ρ1 F1 G1 H1 e1 s1 sl1 r h1 => ?_
    cases q1 : ownL ρ1 i with
    | none => rw [q1] at h1; exact h1.elim
    | some ds =>
      rw [q1] at h1
      obtain ⟨l', vs, hv', hl, n, rr, go⟩ := sl1.row e1 q1
      rw [hv] at hv'
      cases hv'
      cases d with
      | lst es =>
        have h2 : Post X.K W σ (relD X.K) (fun b _ _ _ _ H' => Q b H') F1 G1 H1 (if ds.length + es.length ≤ 1000000 then MX.ret .non (ρ1.set i (some (.lst ((ds ++ es).map .im)))) else none) := h1
        split at h2
        · rename_i hz
          obtain ⟨b, us, rfl, sb, rb⟩ := repAll_of_lst r
          obtain ⟨F', st, sl'⟩ := go (vs ++ us) (ds ++ es) (rr.append rb)
          exact ⟨_, b, vs, us, rfl, rfl, hl, e1 _ _ sb, line_big (by rw [rr.1, rb.1]; exact hz), h2 .non F' G1 _ st sl' .non⟩
        · exact h2.elim
      | _ => exact h1.elim
def mPopAt (i : Nat) (m : M D) : M D := fun ρ => bnd (retO (ownL ρ i) ρ) fun _ ρ0 => bnd (m ρ0) fun d ρ1 => bnd (retO (ownL ρ1 i) ρ1) fun ds ρ2 => match d with
  | .int z => (match (if ds.length ≤ 1000000 then ixN ds.length z else none) with
    | some j => bnd (retO ds[j]? ρ2) fun x ρ3 => ret x (ρ3.set i (some (.lst ((ds.eraseIdx j).map .im))))
    | none => none)
  | _ => none
theorem ixN_popR {n : Nat} {z : Int} {j : Nat} (hn : n ≤ sizeLine) (h : ixN n z = some j) : -(2 ^ 63) ≤ z ∧ z < 2 ^ 63 ∧ seqIndex? z n = some j := by
  obtain ⟨h1, h2, h3, h4⟩ := ixN_seq h
  have := line63
  exact ⟨by omega, by omega, h1⟩
theorem RepAll.eraseIdx {K : Frg} {G : Hp} : ∀ {vs : List V} {ds : List D} (j : Nat), RepAll K G vs ds → RepAll K G (vs.eraseIdx j) (ds.eraseIdx j)
  | [], [], _, h => h
  | [], _ :: _, _, h => absurd h.1 (by simp)
  | _ :: _, [], _, h => absurd h.1 (by simp)
  | v :: vs, d :: ds, 0, h => h.tail
  | v :: vs, d :: ds, j + 1, h => .cons h.head (RepAll.eraseIdx j h.tail)
theorem Ex.popAt {y : Str} {yp apos cpos : Pos} (i : Nat) (h : Ex X W e te me) (hN : X.N[i]? = some y := by rfl) (hv : Vis X.env.scope y := by first | exact Or.inl rfl | exact Or.inr (Or.inl rfl) | exact Or.inr (Or.inr rfl)) (hd : (y == ("__debug__" : Str)) = false := by decide) (hcd : (y == ("__classdict__" : Str)) = false := by decide)
    (hbase : attributeBase (.Name y yp) "pop" X.env (eval (.Name y yp) X.env) = eval (.Name y yp) X.env := by rfl)
    (hfew : ((backTo cpos (starEach (e :: []) X.env)).all (fun x => !x.1) && (backToKw cpos (keywordEach [] X.env)).all (fun x => x.1.isSome) && decide ((e :: ([] : List Expr)).length + ([] : List Keyword).length + (if ([] : List Keyword).isEmpty then 0 else 1) < 30)) = true := by rfl)
    (hline : (apos.endLine == cpos.line) = true := by rfl) (hs : starEach (e :: []) X.env = (false, eval e X.env) :: starEach [] X.env := by rfl) (hpl : (backTo cpos (starEach [] X.env)).any (·.1) = false := by rfl) :
    Ex X W (.Call (.Attribute (.Name y yp) "pop" apos) [e] [] cpos) (tBM X.K "list" rPopAt (tVar i) (tCons te tNil)) (mPopAt i me) := by
  refine ⟨pe_bm PySem.F.plainAttrs_list PySem.F.slot_list_pop PySem.F.type_list_pop mt_popAt (pe_var hN hv hd hcd) (pa_cons h.pe pa_nil hs) hbase hfew hline hs hpl, fun F G H σ ρ Q e sl p => ?_⟩
  unfold mPopAt at p
  cases q0 : ownL ρ i with
  | none => rw [q0] at p; exact p.elim
  | some ds0 =>
    rw [q0] at p
    obtain ⟨l, vs0, hv, hl0, _, _, _⟩ := sl.row e q0
    refine ⟨_, hv, .inl ⟨rfl, _, SqL.of hl0⟩, ?_⟩
    refine h.sim.bind e sl p fun y d ρ1 F1 G1 H1 e1 s1 sl1 r h1 => ?_
    cases q1 : ownL ρ1 i with
    | none => rw [q1] at h1; exact h1.elim
    | some ds =>
      rw [q1] at h1
      obtain ⟨l', vs, hv', hl, n, rr, go⟩ := sl1.row e1 q1
      rw [hv] at hv'
      cases hv'
      cases d with
      | int z =>
        cases r
        have h2 : Post X.K W σ (relD X.K) (fun b _ _ _ _ H' => Q b H') F1 G1 H1 (match (if ds.length ≤ 1000000 then ixN ds.length z else none) with
          | some j => bnd (MX.retO ds[j]? ρ1) fun x ρ3 => MX.ret x (ρ3.set i (some (.lst ((ds.eraseIdx j).map .im))))
          | none => none) := h1
        by_cases hz : ds.length ≤ 1000000
        · rw [if_pos hz] at h2
          cases q3 : ixN ds.length z with
          | none => rw [q3] at h2; exact h2.elim
          | some j =>
            rw [q3] at h2
            have hj := ixN_lt q3
            have h3 : Post X.K W σ (relD X.K) (fun b _ _ _ _ H' => Q b H') F1 G1 H1 (bnd (MX.retO ds[j]? ρ1) fun x ρ3 => MX.ret x (ρ3.set i (some (.lst ((ds.eraseIdx j).map .im))))) := h2
            rw [List.getElem?_eq_getElem hj] at h3
            obtain ⟨b1, b2, b3⟩ := ixN_popR (line_big hz) q3
            obtain ⟨w, hw, rw'⟩ := rr.get (List.getElem?_eq_getElem hj)
            obtain ⟨F', st, sl'⟩ := go (vs.eraseIdx j) (ds.eraseIdx j) (rr.eraseIdx j)
            exact ⟨_, vs, z, j, w, rfl, rfl, hl, b1, b2, by rw [rr.1]; exact b3, hw, h3 w F' G1 _ st sl' rw'⟩
        · rw [if_neg hz] at h2
          exact h2.elim
      | _ => exact h1.elim
end
end MX

namespace MX
open PySem PySem.Spec PyProof.Rows L2
/-! ### the parts of a comprehension, each with a reading that its mirror alone gives -/
def tMir (K : Frg) (m : M D) : TE := fun σ H Q => ∃ (F : Fp) (G : Hp) (ρ : Env), Same G H ∧ Slots K G H σ ρ F ∧ Post K WF σ (relD K) (fun b _ _ _ _ H' => Q b H') F G H (m ρ)
def tMirB (K : Frg) (m : M Bool) : TT := fun σ H Q => ∃ (F : Fp) (G : Hp) (ρ : Env), Same G H ∧ Slots K G H σ ρ F ∧ Post K WF σ relB (fun b _ _ _ _ H' => Q b H') F G H (m ρ)
def tMirT (K : Frg) (m : M T) : TE := fun σ H Q => ∃ (F : Fp) (G : Hp) (ρ : Env), Same G H ∧ Slots K G H σ ρ F ∧ PostT K WF σ Q F G H (m ρ)
def gMir (K : Frg) (js : List Nat) (bd : D → Env → Option Env) : TG := fun v σ H Q => ∃ (F : Fp) (G : Hp) (ρ ρ' : Env) (d : D), Same G H ∧ Slots K G H σ ρ F ∧ Rep K G v d ∧ bd d ρ = some ρ' ∧
  ∀ σ', Slots K G H σ' ρ' F → σ'.length = σ.length → (∀ j, j ∉ js → σ'[j]? = σ[j]?) → Q σ' H
section
variable {X : Cx} {W : WX} {kp : List Nat} {tg iter e a b c : Expr} {es rest ifs : List Expr} {ta tb tc te : TE} {t tr : TA} {ma mb mc me : M D} {mt : M Bool} {tt : TT} {ms : M (List D)} {mT : M T} {g : TG} {wi : TI} {pos : Pos} {js : List Nat} {bd : D → Env → Option Env}
theorem Ex.mir (h : ∃ te, Ex X WF e te me) : Ex X WF e (tMir X.K me) me := by
  obtain ⟨te, h⟩ := h
  exact ⟨⟨fun pins s σ H Q I ⟨F, G, ρ, e1, sl, p⟩ => h.pe.run pins s σ H Q I (h.sim F G H σ ρ Q e1 sl p)⟩, fun F G H σ ρ Q e1 sl p => ⟨F, G, ρ, e1, sl, p⟩⟩
theorem Ot.mir (h : ∃ te, Ot X WF e te mT) : Ot X WF e (tMirT X.K mT) mT := by
  obtain ⟨te, h⟩ := h
  exact ⟨⟨fun pins s σ H Q I ⟨F, G, ρ, e1, sl, p⟩ => h.pe.run pins s σ H Q I (h.sim F G H σ ρ Q e1 sl p)⟩, fun F G H σ ρ Q e1 sl p => ⟨F, G, ρ, e1, sl, p⟩⟩
theorem Ts.mir (h : ∃ tt, Ts X WF ifs tt mt) : Ts X WF ifs (tMirB X.K mt) mt := by
  obtain ⟨te, h⟩ := h
  exact ⟨⟨fun pins s σ H Q I ⟨F, G, ρ, e1, sl, p⟩ => h.pt.run pins s σ H Q I (h.sim F G H σ ρ Q e1 sl p)⟩, fun F G H σ ρ Q e1 sl p => ⟨F, G, ρ, e1, sl, p⟩⟩
theorem Tg.mir (h : ∃ g, Tg X tg js g bd) : Tg X tg js (gMir X.K js bd) bd := by
  obtain ⟨g, h⟩ := h
  exact ⟨⟨fun pins s σ H v u Q I rv ⟨F, G, ρ, ρ', d, e1, sl, r, q, k⟩ => h.pg.run pins s σ H v u Q I rv (h.sim F G H σ ρ ρ' v d Q e1 sl r q k)⟩, fun F G H σ ρ ρ' v d Q e1 sl r q k => ⟨F, G, ρ, ρ', d, e1, sl, r, q, k⟩⟩
theorem Nw.lcE {scope : Scope} {own : List (Str × Nat)} (hc : X.calm = true) (hN : X.N.Nodup) (hi : Src X W tg iter wi ms) (ok : BlkOk X.N X.env.scope scope own)
    (hg : ∀ (s : Shared) (H : Hp) (C : Addr) (cl : List (Str × Addr)) (fp : List Addr), ∃ g, Tg (X.blk s H scope (compEnvC scope cl C X.env) fp) tg js g bd)
    (ht : ∀ (s : Shared) (H : Hp) (C : Addr) (cl : List (Str × Addr)) (fp : List Addr), ∃ tt, Ts (X.blk s H scope (compEnvC scope cl C X.env) fp) WF ifs tt mt)
    (he : ∀ (s : Shared) (H : Hp) (C : Addr) (cl : List (Str × Addr)) (fp : List Addr), ∃ te, Ex (X.blk s H scope (compEnvC scope cl C X.env) fp) WF e te me)
    (hj : ∀ j ∈ js, j ∈ own.map (·.2)) (hs : ∀ x, foldedSetIterable iter X.env x = pure x := by intro _; rfl) :
    Nw X W (.ListComp e [⟨tg, iter, ifs, 0⟩] scope pos) (tLc wi (gMir X.K js bd) (tMirB X.K mt) (tMir X.K me) (own.map (·.2))) (mLcN ms (own.map (·.2)) bd mt me) :=
  Nw.lc hc hN hi ok (fun s H C cl fp => Tg.mir (hg s H C cl fp)) (fun s H C cl fp => Ts.mir (ht s H C cl fp)) (fun s H C cl fp => Ex.mir (he s H C cl fp)) hj hs
theorem Sm.setLcE {scope : Scope} {own : List (Str × Nat)} {x : Str} {py spos : Pos} (i : Nat) (hc : X.calm = true) (hN : X.N.Nodup) (hi : Src X W tg iter wi ms) (ok : BlkOk X.N X.env.scope scope own)
    (hg : ∀ (s : Shared) (H : Hp) (C : Addr) (cl : List (Str × Addr)) (fp : List Addr), ∃ g, Tg (X.blk s H scope (compEnvC scope cl C X.env) fp) tg js g bd)
    (ht : ∀ (s : Shared) (H : Hp) (C : Addr) (cl : List (Str × Addr)) (fp : List Addr), ∃ tt, Ts (X.blk s H scope (compEnvC scope cl C X.env) fp) WF ifs tt mt)
    (he : ∀ (s : Shared) (H : Hp) (C : Addr) (cl : List (Str × Addr)) (fp : List Addr), ∃ te, Ex (X.blk s H scope (compEnvC scope cl C X.env) fp) WF e te me)
    (hj : ∀ j ∈ js, j ∈ own.map (·.2)) (hy : X.N[i]? = some x := by rfl) (hyl : X.env.scope.names.lookup x = some .local := by rfl) (hk : i ∉ kp := by decide)
    (hsw : swapsWith (.ListComp e [⟨tg, iter, ifs, 0⟩] scope pos) (some (.Name x py)) spos.line X.env = pure true := by exact sw_true rfl rfl rfl (by decide +kernel)) (hs : ∀ x, foldedSetIterable iter X.env x = pure x := by intro _; rfl) :
    Sm X W kp (.Assign [.Name x py] (.ListComp e [⟨tg, iter, ifs, 0⟩] scope pos) spos) (tAsg (tLc wi (gMir X.K js bd) (tMirB X.K mt) (tMir X.K me) (own.map (·.2))) (gName i)) (nSet i (mFz (mLcN ms (own.map (·.2)) bd mt me))) :=
  Sm.setLc i hc hN hi ok (fun s H C cl fp => Tg.mir (hg s H C cl fp)) (fun s H C cl fp => Ts.mir (ht s H C cl fp)) (fun s H C cl fp => Ex.mir (he s H C cl fp)) hj hy hyl hk hsw hs
theorem Sm.setLcOE {scope : Scope} {own : List (Str × Nat)} {x : Str} {py spos : Pos} (i : Nat) (hc : X.calm = true) (hN : X.N.Nodup) (hi : Src X W tg iter wi ms) (ok : BlkOk X.N X.env.scope scope own)
    (hg : ∀ (s : Shared) (H : Hp) (C : Addr) (cl : List (Str × Addr)) (fp : List Addr), ∃ g, Tg (X.blk s H scope (compEnvC scope cl C X.env) fp) tg js g bd)
    (ht : ∀ (s : Shared) (H : Hp) (C : Addr) (cl : List (Str × Addr)) (fp : List Addr), ∃ tt, Ts (X.blk s H scope (compEnvC scope cl C X.env) fp) WF ifs tt mt)
    (he : ∀ (s : Shared) (H : Hp) (C : Addr) (cl : List (Str × Addr)) (fp : List Addr), ∃ te, Ex (X.blk s H scope (compEnvC scope cl C X.env) fp) WF e te me)
    (hj : ∀ j ∈ js, j ∈ own.map (·.2)) (hy : X.N[i]? = some x := by rfl) (hyl : X.env.scope.names.lookup x = some .local := by rfl) (hk : i ∉ kp := by decide)
    (hsw : swapsWith (.ListComp e [⟨tg, iter, ifs, 0⟩] scope pos) (some (.Name x py)) spos.line X.env = pure true := by exact sw_true rfl rfl rfl (by decide +kernel)) (hs : ∀ x, foldedSetIterable iter X.env x = pure x := by intro _; rfl) :
    Sm X W kp (.Assign [.Name x py] (.ListComp e [⟨tg, iter, ifs, 0⟩] scope pos) spos) (tAsg (tLc wi (gMir X.K js bd) (tMirB X.K mt) (tMir X.K me) (own.map (·.2))) (gName i)) (nSetT i (mFlat (mLcN ms (own.map (·.2)) bd mt me))) :=
  Sm.setLcO (ifs := []) i hc hN hi ok (fun s H C cl fp => Tg.mir (hg s H C cl fp)) (fun s H C cl fp => Ts.mir (ht s H C cl fp)) (fun s H C cl fp => Ex.mir (he s H C cl fp)) hj hy hyl hk hsw hs
theorem Sm.setLcTE {scope : Scope} {own : List (Str × Nat)} {x : Str} {py spos : Pos} (i : Nat) (hc : X.calm = true) (hN : X.N.Nodup) (hi : Src X W tg iter wi ms) (ok : BlkOk X.N X.env.scope scope own)
    (hg : ∀ (s : Shared) (H : Hp) (C : Addr) (cl : List (Str × Addr)) (fp : List Addr), ∃ g, Tg (X.blk s H scope (compEnvC scope cl C X.env) fp) tg js g bd)
    (ht : ∀ (s : Shared) (H : Hp) (C : Addr) (cl : List (Str × Addr)) (fp : List Addr), ∃ tt, Ts (X.blk s H scope (compEnvC scope cl C X.env) fp) WF ifs tt mt)
    (he : ∀ (s : Shared) (H : Hp) (C : Addr) (cl : List (Str × Addr)) (fp : List Addr), ∃ te, Ot (X.blk s H scope (compEnvC scope cl C X.env) fp) WF e te mT)
    (hj : ∀ j ∈ js, j ∈ own.map (·.2)) (hy : X.N[i]? = some x := by rfl) (hyl : X.env.scope.names.lookup x = some .local := by rfl) (hk : i ∉ kp := by decide)
    (hsw : swapsWith (.ListComp e [⟨tg, iter, ifs, 0⟩] scope pos) (some (.Name x py)) spos.line X.env = pure true := by exact sw_true rfl rfl rfl (by decide +kernel)) (hs : ∀ x, foldedSetIterable iter X.env x = pure x := by intro _; rfl) :
    Sm X W kp (.Assign [.Name x py] (.ListComp e [⟨tg, iter, ifs, 0⟩] scope pos) spos) (tAsg (tLc wi (gMir X.K js bd) (tMirB X.K mt) (tMirT X.K mT) (own.map (·.2))) (gName i)) (nSetT i (mLcT ms (own.map (·.2)) bd mt mT)) :=
  Sm.setLcT i hc hN hi ok (fun s H C cl fp => Tg.mir (hg s H C cl fp)) (fun s H C cl fp => Ts.mir (ht s H C cl fp)) (fun s H C cl fp => Ot.mir (he s H C cl fp)) hj hy hyl hk hsw hs
end
end MX

namespace MX
open PySem PySem.Spec PyProof.Rows L2
/-! ### == and != of objects with an own __eq__ -/
section
variable {M : Model} {prog : Program} {w : World} {A : Around} {E : Value → Shared → Prop} {s : Shared} {K : PySem.W.Frag} {x y C D f : Addr} {ox oy : Obj} {od od' : Option Obj} {b tb : Value}
theorem ifBound_ne {args : List Value} {Q : Option Value → Shared → Prop} (X : K.In s.heap) (I : PySem.W.InstAt s.heap x ox C od) (hs : PySem.W.findIn K (.ref C) "__ne__" = some (some (.builtin "object.__ne__")))
    (h : wpAny M A (call (.builtin "object.__ne__") (.ref x :: args)) (fun v => Q (some v)) E s) : wpAny M A (callSpecialIfBound? (.ref x) "__ne__" args) Q E s := by
  simp only [callSpecialIfBound?, bindSpecialIfBound?]
  refine wpAny_holding (wpAny_bind (wpAny_bind (wpAny_bind (I.type.here ((PySem.W.looks_findIn X hs).here ?_)))))
  refine wpAny_bind (wpAny_askSetting (wpAny_ite ?_))
  have fin : wpAny M A (call (.builtin "object.__ne__") ([.ref x] ++ args) >>= fun v => pure (some v)) Q E s := wpAny_bind (wpAny_mono h (fun v s' h' => wpAny_pure h') fun _ _ h' => h')
  split
  · exact wpAny_bind (wpAny_of_eq (F.cmp_object.ne.bind _) (wpAny_pure (by exact fin)))
  · exact wpAny_tryCatch (wpAny_bind (wpAny_of_eq (F.cmp_object.ne.bind _) (wpAny_pure (by exact fin))))
theorem entry_ne {Q : Fin → Shared → Prop} (hu : A.units < cLine) (X : K.In s.heap) (I : PySem.W.InstAt s.heap x ox C od) (hs : PySem.W.findIn K (.ref C) "__eq__" = some (some (.ref f))) (hf : PySem.W.isFn K (.ref f) = true)
    (hcall : wpAny (model prog w) A (call (.ref f) [.ref x, b]) (fun v s' => ∃ r, v = .bool r ∧ Q (.done (.ret (.bool (!r)))) s') E s) : wpAny (model prog w) A (Builtin.«object.__ne__» ⟨[.ref x, b], []⟩) Q E s := by
  obtain ⟨hp, g, d, t, os⟩ := s
  unfold Builtin.«object.__ne__»
  repeat (first
    | with_reducible refine wpAny_cRoomFor hu ?_
    | (refine wpAny_bind (m := callSpecialIfBound? (.ref x) (Str.ofString "__eq__") [b])
        (PySem.W.ifBound_K X I hs hf (wpAny_mono hcall (fun v s' hr => by
          obtain ⟨r, rfl, hq⟩ := hr
          repeat (first | exact hq | exact wpAny_pure hq | exact wpAny_truthy_bool hq | (refine wpAny_bind (m := truthy (.bool _)) (wpAny_truthy_bool ?_)) | wp_step)) fun _ _ e => e)))
    | wp_step)
theorem try_ne {Q : Option Value → Shared → Prop} (hu : A.units + 1 < cLine) (X : K.In s.heap) (I : PySem.W.InstAt s.heap x ox C od) (hm : PySem.W.mroIn K C (.type "object") = some true) (hn : PySem.W.findIn K (.ref C) "__ne__" = some (some (.builtin "object.__ne__")))
    (hs : PySem.W.findIn K (.ref C) "__eq__" = some (some (.ref f))) (hf : PySem.W.isFn K (.ref f) = true) (hcall : wpAny (model prog w) A.in1 (call (.ref f) [.ref x, b]) (fun v s' => ∃ r, v = .bool r ∧ Q (some (.bool (!r))) s') E s) :
    wpAny (model prog w) A (tryCompare (.ref x) "__ne__" b) Q E s := by
  unfold tryCompare
  refine wpAny_bind (ifBound_ne X I hn (wpAny_call (codeAny_call_builtin F.cmp_object.ne.plain F.cmpEntry_ne (PySem.W.check_slot F.cmpKind_ne F.cmpSplit_ne (I.type.andThen (PySem.W.looks_mroIn X hm)) (F.cmpArgs_ne _ _)
    (entry_ne (A := A.in1) hu X I hs hf (wpAny_mono hcall (fun v s' hv => ?_) fun _ _ e => e))))))
  obtain ⟨r, rfl, hq⟩ := hv
  first | exact ⟨r, rfl, wpAny_pure hq⟩ | exact ⟨r, rfl, wpAny_pure (wpAny_pure hq)⟩ | exact ⟨r, rfl, hq⟩
theorem try_eq {Q : Option Value → Shared → Prop} (X : K.In s.heap) (I : PySem.W.InstAt s.heap x ox C od)
    (hs : PySem.W.findIn K (.ref C) "__eq__" = some (some (.ref f))) (hf : PySem.W.isFn K (.ref f) = true) (hcall : wpAny (model prog w) A (call (.ref f) [.ref x, b]) (fun v s' => ∃ r, v = .bool r ∧ Q (some (.bool r)) s') E s) :
    wpAny (model prog w) A (tryCompare (.ref x) "__eq__" b) Q E s := by
  unfold tryCompare
  refine wpAny_bind (PySem.W.ifBound_K X I hs hf (wpAny_mono hcall (fun v s' hv => ?_) fun _ _ e => e))
  obtain ⟨r, rfl, hq⟩ := hv
  exact wpAny_pure hq
theorem rich_left {op : CmpOp} {Q : Value → Shared → Prop} (hu : A.units < cLine) (X : K.In s.heap) (I : PySem.W.InstAt s.heap x ox C od) (hb : PySem.W.Looks (model prog w) s.heap (typeOf b) tb) (hn : tb = .ref C ∨ PySem.W.subIn K tb (.ref C) = some false)
    (one : wpAny (model prog w) A (tryCompare (.ref x) (cmpInfo op).2.1 b) (fun r s' => ∃ v, r = some v ∧ Q v s') E s) : wpAny (model prog w) A (richCompare op (.ref x) b) Q E s := by
  unfold richCompare
  simp only [oneThing_ref]
  refine wpAny_holding (wpAny_bind (wpAny_cRoomFor hu ?_))
  refine wpAny_bind (I.type.here (wpAny_bind (hb.here ?_)))
  split
  · rename_i q
    have e : PySem.W.subIn K tb (.ref C) = some false := by
      rcases hn with e | e
      · rw [e] at q; simp at q
      · exact e
    refine wpAny_bind ((PySem.W.looks_subIn X e).here ?_)
    simp only [Bool.false_eq_true, if_false]
    refine wpAny_bind (wpAny_mono one (fun r s' z => ?_) fun _ _ e => e)
    obtain ⟨v, rfl, hq⟩ := z
    exact wpAny_pure hq
  · refine wpAny_bind (wpAny_pure ?_)
    simp only [Bool.false_eq_true, if_false]
    refine wpAny_bind (wpAny_mono one (fun r s' z => ?_) fun _ _ e => e)
    obtain ⟨v, rfl, hq⟩ := z
    exact wpAny_pure hq
theorem rich_right {op : CmpOp} {Q : Value → Shared → Prop} (hu : A.units < cLine) (X : K.In s.heap) (I : PySem.W.InstAt s.heap x ox C od) (J : PySem.W.InstAt s.heap y oy D od') (hne : D ≠ C) (hn : PySem.W.subIn K (.ref D) (.ref C) = some true)
    (one : wpAny (model prog w) A (tryCompare (.ref y) (cmpInfo op).2.2 (.ref x)) (fun r s' => ∃ v, r = some v ∧ Q v s') E s) : wpAny (model prog w) A (richCompare op (.ref x) (.ref y)) Q E s := by
  unfold richCompare
  simp only [oneThing_ref]
  refine wpAny_holding (wpAny_bind (wpAny_cRoomFor hu ?_))
  refine wpAny_bind (I.type.here (wpAny_bind (J.type.here ?_)))
  split
  · refine wpAny_bind ((PySem.W.looks_subIn X hn).here ?_)
    simp only [if_true]
    refine wpAny_bind (wpAny_mono one (fun r s' z => ?_) fun _ _ e => e)
    obtain ⟨v, rfl, hq⟩ := z
    first | exact wpAny_pure hq | exact wpAny_bind (wpAny_rule (wpAny_pure hq)) | exact wpAny_rule (wpAny_pure hq)
  · rename_i q
    simp at q
    exact absurd q.symm hne
end
/-- what == of the classes cs asks -/
structure KitE (K : Frg) (cs : List Nat) : Prop where
  ne : ∀ c ∈ cs, PySem.W.findIn K (.ref (cadr K c)) "__ne__" = some (some (.builtin "object.__ne__"))
  mro : ∀ c ∈ cs, PySem.W.mroIn K (cadr K c) (.type "object") = some true
  sub : ∀ c ∈ cs, ∀ d ∈ cs, PySem.W.subIn K (.ref (cadr K c)) (.ref (cadr K d)) = some (subB c d)
  apart : ∀ c ∈ cs, ∀ d ∈ cs, c ≠ d → cadr K c ≠ cadr K d
def keB (K : Frg) (cs : List Nat) : Bool :=
  (cs.all fun c => decide (PySem.W.findIn K (.ref (cadr K c)) "__ne__" = some (some (.builtin "object.__ne__"))) && decide (PySem.W.mroIn K (cadr K c) (.type "object") = some true)) &&
  (cs.all fun c => cs.all fun d => decide (PySem.W.subIn K (.ref (cadr K c)) (.ref (cadr K d)) = some (subB c d)) && (decide (c = d) || decide (cadr K c ≠ cadr K d)))
theorem keB_ok {K : Frg} {cs : List Nat} (h : keB K cs = true) : KitE K cs := by
  unfold keB at h
  obtain ⟨h1, h2⟩ := He.ba h
  refine ⟨fun c hc => ?_, fun c hc => ?_, fun c hc d hd => ?_, fun c hc d hd ne => ?_⟩
  · exact of_decide_eq_true (He.ba (List.all_eq_true.mp h1 c hc)).1
  · exact of_decide_eq_true (He.ba (List.all_eq_true.mp h1 c hc)).2
  · exact of_decide_eq_true (He.ba (List.all_eq_true.mp (List.all_eq_true.mp h2 c hc) d hd)).1
  · have z := (He.ba (List.all_eq_true.mp (List.all_eq_true.mp h2 c hc) d hd)).2
    rcases Bool.or_eq_true_iff.mp z with z | z
    · exact absurd (of_decide_eq_true z) ne
    · exact of_decide_eq_true z
/-- class c's own == has the mirror feq -/
def EqOk (X : Cx) (feq : Fn) (c : Nat) : Prop := ∃ (f : Addr) (fd : FuncData) (ps : List Str) (n : Nat), FnOk X.prog X.w X.K X.mg X.base (L2.CX X.prog X.w) n f fd ps (spM X.K 2 feq) ∧ Meth X.K (cadr X.K c) "__eq__" f ∧ Binds X.K fd ps [] ∧ Room (n + 1) X.A
def rOwn (K : Frg) (cs : List Nat) (feq : Fn) (g : Bool → Bool) : R2 := fun x y H Q => ∃ a c dx fs b d dy gs, x = .ref a ∧ H a = some (.ins (cadr K c) dx fs) ∧ c ∈ cs ∧ y = .ref b ∧ H b = some (.ins (cadr K d) dy gs) ∧ d ∈ cs ∧
  spM K 2 feq (if c ≠ d ∧ subB d c = true then [.ref b, .ref a] else [.ref a, .ref b]) H (fun v H' => ∃ r, v = .bl r ∧ Q (.bl (g r)) H') fun _ _ _ => False
section
variable {X : Cx} {W : WX} {cs : List Nat} {feq : Fn}
theorem run_eq {A : Around} {f : Addr} {fd : FuncData} {ps : List Str} {n : Nat} {sp : Sp} (F : FnOk X.prog X.w X.K X.mg X.base (L2.CX X.prog X.w) n f fd ps sp) (hb : Binds X.K fd ps []) {pins : List (Addr × Obj)} {σ : L2.St} {H : Hp} {s : Shared} (I : Inv X pins σ H s) (hr : Room n A) (hfr : A.frames = X.A.frames) {a b : Addr} {Q : VK}
    (hsp : sp [.ref a, .ref b] H (fun v H' => ∃ r, v = .bl r ∧ Q (.bl r) H') fun _ _ _ => False) : wpAny (model X.prog X.w) A (call (.ref f) [.ref a, .ref b]) (fun v s' => ∃ r, v = .bool r ∧ ∃ H', Inv X pins σ H' s' ∧ Q (.bl r) H') X.xe s := by
  have e0 : Env0 X.prog X.w X.K X.mg X.base A X.stack s H := by
    have e := I.env0
    exact ⟨by rw [hfr]; exact e.frames, e.mod, e.bs, e.bsz, e.funs, e.frf, e.hok, e.bare⟩
  have hl := F.len _ _ _ _ hsp
  have r2 : Vals [V.ref a, V.ref b] [Value.ref a, Value.ref b] := .cons rfl (.cons rfl .nil)
  refine wpAny_call (codeAny_mono (F.run A X.stack s H ⟨[.ref a, .ref b], []⟩ [.ref a, .ref b] [.ref a, .ref b] _ _ hr e0 (by
    have := hb s [.ref a, .ref b] I.kIn (by simpa using hl)
    simpa using this) r2 hsp) fun r s' hq => ?_)
  cases r with
  | error e => exact (show False from let ⟨_, _, _, _, _, _, _, _, _, _, _, _, z⟩ := hq; z).elim
  | ok fl =>
    cases fl with
    | ret w =>
      obtain ⟨z, H', I', rz, r, ez, q⟩ := I.after hq
      subst ez
      cases rz
      exact ⟨r, rfl, H', I', q⟩
    | next => exact False.elim hq
    | brk => exact False.elim hq
    | cont => exact False.elim hq
theorem op_own_eq (ke : KitE X.K cs) (he : ∀ c ∈ cs, EqOk X feq c) : OpR X (compareOp .Eq) (rOwn X.K cs feq id) := by
  rintro pins s σ H x y v u Q I rx ry ⟨a, c, dx, fs, b, d, dy, gs, rfl, ha, hc, rfl, hb, hd, hsp⟩
  cases rx
  cases ry
  obtain ⟨mA, J, _⟩ := ins_get I.hok ha
  obtain ⟨mB, J', _⟩ := ins_get I.hok hb
  obtain ⟨od, J, _⟩ := J.look
  obtain ⟨od', J', _⟩ := J'.look
  have KI := I.kIn
  show wpAny (model X.prog X.w) X.A (richCompare .Eq (.ref a) (.ref b)) (EP X pins σ Q) X.xe s
  by_cases q : c ≠ d ∧ subB d c = true
  · rw [if_pos q] at hsp
    obtain ⟨f, fd, ps, n, F, hm, hbd, hr⟩ := he d hd
    obtain ⟨m1, m2, m3⟩ := hm
    have hr' := hr.mono (Nat.le_succ n)
    refine rich_right hr'.units0 KI J J' (ke.apart d hd c hc fun z => q.1 z.symm) (by rw [ke.sub d hd c hc, q.2]) ?_
    exact try_eq KI J' m1 m2 (wpAny_mono (run_eq F hbd I hr' rfl hsp) (fun v s' ⟨r, e, H', I', z⟩ => ⟨r, e, _, rfl, .bl r, H', I', rfl, z⟩) fun _ _ e => e)
  · rw [if_neg q] at hsp
    obtain ⟨f, fd, ps, n, F, hm, hbd, hr⟩ := he c hc
    obtain ⟨m1, m2, m3⟩ := hm
    have hr' := hr.mono (Nat.le_succ n)
    refine rich_left hr'.units0 KI J J'.type ?_ ?_
    · by_cases z : c = d
      · exact .inl (by rw [z])
      · right
        rw [ke.sub d hd c hc]
        cases w : subB d c with
        | false => rfl
        | true => exact absurd ⟨z, w⟩ q
    · exact try_eq KI J m1 m2 (wpAny_mono (run_eq F hbd I hr' rfl hsp) (fun v s' ⟨r, e, H', I', z⟩ => ⟨r, e, _, rfl, .bl r, H', I', rfl, z⟩) fun _ _ e => e)
theorem op_own_ne (ke : KitE X.K cs) (he : ∀ c ∈ cs, EqOk X feq c) : OpR X (compareOp .NotEq) (rOwn X.K cs feq Bool.not) := by
  rintro pins s σ H x y v u Q I rx ry ⟨a, c, dx, fs, b, d, dy, gs, rfl, ha, hc, rfl, hb, hd, hsp⟩
  cases rx
  cases ry
  obtain ⟨mA, J, _⟩ := ins_get I.hok ha
  obtain ⟨mB, J', _⟩ := ins_get I.hok hb
  obtain ⟨od, J, _⟩ := J.look
  obtain ⟨od', J', _⟩ := J'.look
  have KI := I.kIn
  show wpAny (model X.prog X.w) X.A (richCompare .NotEq (.ref a) (.ref b)) (EP X pins σ Q) X.xe s
  by_cases q : c ≠ d ∧ subB d c = true
  · rw [if_pos q] at hsp
    obtain ⟨f, fd, ps, n, F, hm, hbd, hr⟩ := he d hd
    obtain ⟨m1, m2, m3⟩ := hm
    refine rich_right hr.units0 KI J J' (ke.apart d hd c hc fun z => q.1 z.symm) (by rw [ke.sub d hd c hc, q.2]) ?_
    exact try_ne (by have := hr.un; omega) KI J' (ke.mro d hd) (ke.ne d hd) m1 m2 (wpAny_mono (run_eq (Q := fun v H' => ∃ r, v = .bl r ∧ Q (.bl (!r)) H') F hbd I hr.in1 rfl (by
      obtain ⟨F0, G0, ts, l0, s0, o0, p0⟩ := hsp
      refine ⟨F0, G0, ts, l0, s0, o0, ?_⟩
      revert p0
      cases feq ts with
      | none => exact fun p => p
      | some r => obtain ⟨r, ts'⟩ := r
                  cases r with
                  | ok t => exact fun p v Fa Fv G' H' st os ow dj => let ⟨r, e, z⟩ := p v Fa Fv G' H' st os ow dj; ⟨r, e, r, rfl, z⟩
                  | exc C fs => exact fun p => p)) (fun v s' ⟨r, e, H', I', r', e', z⟩ => ⟨r, e, _, rfl, .bl (!r), H', I', rfl, by cases e'; exact z⟩) fun _ _ e => e)
  · rw [if_neg q] at hsp
    obtain ⟨f, fd, ps, n, F, hm, hbd, hr⟩ := he c hc
    obtain ⟨m1, m2, m3⟩ := hm
    refine rich_left hr.units0 KI J J'.type ?_ ?_
    · by_cases z : c = d
      · exact .inl (by rw [z])
      · right
        rw [ke.sub d hd c hc]
        cases w : subB d c with
        | false => rfl
        | true => exact absurd ⟨z, w⟩ q
    · exact try_ne (by have := hr.un; omega) KI J (ke.mro c hc) (ke.ne c hc) m1 m2 (wpAny_mono (run_eq (Q := fun v H' => ∃ r, v = .bl r ∧ Q (.bl (!r)) H') F hbd I hr.in1 rfl (by
      obtain ⟨F0, G0, ts, l0, s0, o0, p0⟩ := hsp
      refine ⟨F0, G0, ts, l0, s0, o0, ?_⟩
      revert p0
      cases feq ts with
      | none => exact fun p => p
      | some r => obtain ⟨r, ts'⟩ := r
                  cases r with
                  | ok t => exact fun p v Fa Fv G' H' st os ow dj => let ⟨r, e, z⟩ := p v Fa Fv G' H' st os ow dj; ⟨r, e, r, rfl, z⟩
                  | exc C fs => exact fun p => p)) (fun v s' ⟨r, e, H', I', r', e', z⟩ => ⟨r, e, _, rfl, .bl (!r), H', I', rfl, by cases e'; exact z⟩) fun _ _ e => e)
def blR (g : Bool → Bool) : Option (Res T × List T) → Option D
  | some (.ok (.im (.bl r)), _) => some (.bl (g r))
  | _ => none
def ownD (cs : List Nat) (feq : Fn) (g : Bool → Bool) (a b : D) : Option D := match a, b with
  | .obj c _, .obj d _ => if c ∈ cs ∧ d ∈ cs then blR g (feq (if c ≠ d ∧ subB d c = true then [.im b, .im a] else [.im a, .im b])) else none
  | _, _ => none
theorem od_own {K : Frg} {g : Bool → Bool} : OpD K (rOwn K cs feq g) (ownD cs feq g) := by
  intro G H a b d x y Q e ra rb hf k
  cases a with
  | obj c fs =>
    cases b with
    | obj c2 fs2 =>
      have hf' : (if c ∈ cs ∧ c2 ∈ cs then blR g (feq (if c ≠ c2 ∧ subB c2 c = true then [.im (.obj c2 fs2), .im (.obj c fs)] else [.im (.obj c fs), .im (.obj c2 fs2)])) else none) = some d := hf
      split at hf'
      · rename_i hc
        have ra0 := ra
        have rb0 := rb
        cases ra with
        | obj s l r =>
          cases rb with
          | obj s2 l2 r2 =>
            refine ⟨_, c, _, _, _, c2, _, _, rfl, e _ _ s, hc.1, rfl, e _ _ s2, hc.2, ?_⟩
            have fin : ∀ {vs : List V} {ts : List T}, blR g (feq ts) = some d → PostF K vs (fun v H' => ∃ r, v = .bl r ∧ Q (.bl (g r)) H') (fun _ _ _ => False) F0 G H (feq ts) := by
              intro vs ts q
              unfold blR at q
              split at q
              · rename_i r ts' q2
                rw [q2]
                cases q
                intro v Fa Fv G' H' st os ow dj
                cases ow with
                | im rv => cases rv; exact ⟨r, rfl, k _ G' H' st.shut (.bl _)⟩
              · cases q
            by_cases z : c ≠ c2 ∧ subB c2 c = true
            · rw [if_pos z] at hf'
              rw [if_pos z]
              exact ⟨F0, G, _, rfl, e, owns_im (ds := [.obj c2 fs2, .obj c fs]) (.cons rb0 (.cons ra0 .nil)), fin hf'⟩
            · rw [if_neg z] at hf'
              rw [if_neg z]
              exact ⟨F0, G, _, rfl, e, owns_im (ds := [.obj c fs, .obj c2 fs2]) (.cons ra0 (.cons rb0 .nil)), fin hf'⟩
      · cases hf'
    | _ => cases hf
  | _ => cases b <;> cases hf
def eqO (cs : List Nat) (feq : Fn) (a b : D) : Option D := match a with
  | .obj _ _ => ownD cs feq id a b
  | _ => eqD a b
def neO (cs : List Nat) (feq : Fn) (a b : D) : Option D := match a with
  | .obj _ _ => ownD cs feq Bool.not a b
  | _ => neD a b
theorem OpD.or {K : Frg} {r r' : R2} {f g h : D → D → Option D} (a : OpD K r f) (b : OpD K r' g) (hh : ∀ x y d, h x y = some d → f x y = some d ∨ g x y = some d) : OpD K (fun x y H Q => r x y H Q ∨ r' x y H Q) h := by
  intro G H x y d u v Q e ra rb hf k
  rcases hh x y d hf with q | q
  · exact .inl (a G H x y d u v Q e ra rb q k)
  · exact .inr (b G H x y d u v Q e ra rb q k)
theorem op_eqO (hu : X.A.units + 64 < cLine) (ke : KitE X.K cs) (he : ∀ c ∈ cs, EqOk X feq c) : OpR X (compareOp .Eq) (fun x y H Q => rEqD X.K x y H Q ∨ rOwn X.K cs feq id x y H Q) := OpR.or (op_eqD hu) (op_own_eq ke he)
theorem op_neO (hu : X.A.units + 64 < cLine) (ke : KitE X.K cs) (he : ∀ c ∈ cs, EqOk X feq c) : OpR X (compareOp .NotEq) (fun x y H Q => rNeD X.K x y H Q ∨ rOwn X.K cs feq Bool.not x y H Q) := OpR.or (op_neD hu) (op_own_ne ke he)
theorem od_eqO {K : Frg} : OpD K (fun x y H Q => rEqD K x y H Q ∨ rOwn K cs feq id x y H Q) (eqO cs feq) := od_eq.or od_own fun x y d h => by
  cases x <;> first | exact .inr h | exact .inl h
theorem od_neO {K : Frg} : OpD K (fun x y H Q => rNeD K x y H Q ∨ rOwn K cs feq Bool.not x y H Q) (neO cs feq) := od_ne.or od_own fun x y d h => by
  cases x <;> first | exact .inr h | exact .inl h
end
end MX

namespace MX
open PySem PySem.Spec PyProof.Rows L2
/-! ### errors: made and raised, caught, looked at -/
/-- what is known of the error classes cs -/
structure XcK (K : Frg) (cs : List Nat) : Prop where
  is : ∀ c ∈ cs, ExcC K (cadr K c)
  fl : ∀ c ∈ cs, ∀ k < 45, PySem.W.findIn K (.ref (cadr K c)) (fname k) = some none
  sub : ∀ c ∈ cs, ∀ d ∈ cs, PySem.W.kitOne K (.ref (cadr K c)) (.ref (cadr K d)) = some (subB c d)
  exm : ∀ c ∈ cs, ∀ d ∈ cs, PySem.W.exmOne K (.ref (cadr K c)) (.ref (cadr K d)) = some (subB c d)
  ve : ∀ c ∈ cs, PySem.W.kitOne K (.ref (cadr K c)) (.type "ValueError") = some true
  ty : ∀ c ∈ cs, PySem.W.typeIn K (.ref (cadr K c)) = some (.type "type")
  kp : ∀ c ∈ cs, PySem.W.keepIn K (.ref (cadr K c)) = true
def xcB1 (K : Frg) (D : Addr) : Bool :=
  (decide (PySem.W.findIn K (.ref D) "__getattribute__" = some (some (.builtin "BaseException.__getattribute__"))) && (decide (PySem.W.findIn K (.ref D) "__getattr__" = some none) &&
  (decide (PySem.W.subIn K (.ref D) (.type "BaseException") = some true) && (PySem.W.hasDictIn K D && (decide (PySem.W.findIn K (.ref D) "__class__" = some (some (.builtin "object.__class__"))) &&
  (decide (PySem.W.specialIn K (.builtin "object.__class__") "__get__" = some (some (.builtin "getset_descriptor.__get__"))) && (decide (PySem.W.takesIn K (.builtin "object.__class__") = some true) &&
  decide (PySem.W.mroIn K D (.type "object") = some true))))))))
theorem xcB1_ok {K : Frg} {D : Addr} (h : xcB1 K D = true) : ExcC K D := by
  unfold xcB1 at h
  obtain ⟨h1, h⟩ := He.ba h
  obtain ⟨h2, h⟩ := He.ba h
  obtain ⟨h3, h⟩ := He.ba h
  obtain ⟨h4, h⟩ := He.ba h
  obtain ⟨h5, h⟩ := He.ba h
  obtain ⟨h6, h⟩ := He.ba h
  obtain ⟨h7, h8⟩ := He.ba h
  exact ⟨of_decide_eq_true h1, of_decide_eq_true h2, of_decide_eq_true h3, h4, of_decide_eq_true h5, of_decide_eq_true h6, of_decide_eq_true h7, of_decide_eq_true h8⟩
def xcB (K : Frg) (cs : List Nat) : Bool :=
  (cs.all fun c => xcB1 K (cadr K c) && ((List.range 45).all (fun k => decide (PySem.W.findIn K (.ref (cadr K c)) (fname k) = some none)) &&
    (decide (PySem.W.kitOne K (.ref (cadr K c)) (.type "ValueError") = some true) && (decide (PySem.W.typeIn K (.ref (cadr K c)) = some (.type "type")) && PySem.W.keepIn K (.ref (cadr K c)))))) &&
  (cs.all fun c => cs.all fun d => decide (PySem.W.kitOne K (.ref (cadr K c)) (.ref (cadr K d)) = some (subB c d)) && decide (PySem.W.exmOne K (.ref (cadr K c)) (.ref (cadr K d)) = some (subB c d)))
theorem xcB_ok {K : Frg} {cs : List Nat} (h : xcB K cs = true) : XcK K cs := by
  unfold xcB at h
  obtain ⟨h1, h2⟩ := He.ba h
  have one := fun c (hc : c ∈ cs) => List.all_eq_true.mp h1 c hc
  have two := fun c (hc : c ∈ cs) d (hd : d ∈ cs) => List.all_eq_true.mp (List.all_eq_true.mp h2 c hc) d hd
  refine ⟨fun c hc => xcB1_ok (He.ba (one c hc)).1, fun c hc k hk => ?_, fun c hc d hd => of_decide_eq_true (He.ba (two c hc d hd)).1, fun c hc d hd => of_decide_eq_true (He.ba (two c hc d hd)).2,
    fun c hc => ?_, fun c hc => ?_, fun c hc => ?_⟩
  · exact of_decide_eq_true (List.all_eq_true.mp (He.ba (He.ba (one c hc)).2).1 k (List.mem_range.mpr hk))
  · exact of_decide_eq_true (He.ba (He.ba (He.ba (one c hc)).2).2).1
  · exact of_decide_eq_true (He.ba (He.ba (He.ba (He.ba (one c hc)).2).2).2).1
  · exact (He.ba (He.ba (He.ba (He.ba (one c hc)).2).2).2).2
/-- a class with its own __init__ -/
def oexB (K : Frg) (C : Addr) : Bool := (match K.lookup C with
  | some ⟨.type "type", _, .cls cd, sl⟩ => (match cd.mro, sl.toList with
    | .ref C' :: bm, [_, _, _, _, some (.builtin n), _] => (((C' == C && n == "ValueError.__new__") && !cd.hasDel) && cd.hasDict) && PySem.HandSPX.refsVE bm
    | _, _ => false)
  | _ => false) && (decide (PySem.W.findIn K (.ref C) "__setattr__" = some (some (.builtin "object.__setattr__"))) && (decide (PySem.W.subIn K (.ref C) (.type "BaseException") = some true) &&
  (decide (PySem.W.typeIn K (.ref C) = some (.type "type")) && PySem.W.keepIn K (.ref C))))
theorem oexB_ok {K : Frg} {C : Addr} (h : oexB K C = true) : OexC K C := by
  unfold oexB at h
  obtain ⟨h0, h⟩ := He.ba h
  obtain ⟨h1, h⟩ := He.ba h
  obtain ⟨h2, h⟩ := He.ba h
  obtain ⟨h3, h4⟩ := He.ba h
  refine ⟨?_, of_decide_eq_true h1, of_decide_eq_true h2, of_decide_eq_true h3, h4⟩
  split at h0
  · rename_i dd cd sl ho
    split at h0
    · rename_i C' bm k0 k1 k2 k3 n k5 hm hs
      obtain ⟨z0, z4⟩ := He.ba h0
      obtain ⟨z0, z3⟩ := He.ba z0
      obtain ⟨z0, z2⟩ := He.ba z0
      obtain ⟨z0, z1⟩ := He.ba z0
      have e0 : C' = C := beq_iff_eq.mp z0
      have e1 : n = "ValueError.__new__" := beq_iff_eq.mp z1
      subst e0 e1
      obtain ⟨nm, bs, mro, ns, qn, hd, sn, sub, ab, col, del⟩ := cd
      dsimp only at hm z2 z3
      subst hm z3
      have z5 : del = false := by simpa using z2
      subst z5
      have hsl : sl = #[k0, k1, k2, k3, some (.builtin "ValueError.__new__"), k5] := by
        obtain ⟨l⟩ := sl
        simp only at hs
        rw [hs]
      subst hsl
      exact ⟨nm, qn, ns, bs, bm, sn, sub, ab, col, dd, k0, k1, k2, k3, k5, ho, z4⟩
    · cases h0
  · cases h0
/-- what C(..) writes into the error that is being made -/
def spXi (C : Addr) (ks : List Str) : Sp := fun vs H Q E => ∃ a us, vs = .ref a :: us ∧ us.length = ks.length ∧ H a = some (exo a C none) ∧
  ∀ d H2, H d = none → d ≠ a → (∀ b, b ≠ a → b ≠ d → H2 b = H b) → H2 a = some (exo a C (some d)) → H2 d = some (exd d (ks.zip us).reverse) → Q .non H2
section
variable {P : Program} {w : World} {K : Frg} {mg : Str → Option Value} {base : Heap}
theorem xinit1 {x qual p1 q1 f1 : Str} {params : Arguments} {scope : Scope} {f C : Addr} {fd : FuncData} {N : List Str} {a1 a2 a3 a4 : Pos} (T : OexC K C) (F : FunD K x qual params [.Assign [.Attribute (.Name q1 a1) f1 a2] (.Name p1 a3) a4] scope [] [] f fd) (S : FnScope N [q1, p1] scope)
    (h1 : PySem.W.findIn K (.ref C) f1 = some none)
    (hb : ∀ (cdv : Value) (A : Around) (outer : List PySem.Env) (s : Shared) (H : Hp) (E : XK),
      PSs (cxOf (L2.CX P w) P w K mg base N qual scope f cdv A outer s H E) [.Assign [.Attribute (.Name q1 a1) f1 a2] (.Name p1 a3) a4] (tOst K f1 (tVar 0) (tVar 1))) :
    FnOk P w K mg base (L2.CX P w) 1 f fd [q1, p1] (spXi C [f1]) := by
  refine F.ok (k := 0) S (fun vs H Q E h => ?_) (fun cdv A outer s H vs Q E hr h => ?_)
  · obtain ⟨a, us, rfl, hl, _⟩ := h
    simpa using hl
  · obtain ⟨a, us, rfl, hl, ha, q⟩ := h
    match us, hl with
    | [u], _ =>
      refine ⟨_, hb cdv A outer s H E, ?_⟩
      refine ⟨u, start_get (i := 1) rfl, .ref a, start_get (i := 0) rfl, a, C, rfl, T, h1, .inl ⟨ha, fun dx hd ne => ?_⟩⟩
      refine q dx _ hd ne (fun b n1 n2 => ?_) upd_same ?_
      · rw [upd_ne n1, upd_ne n2]
      · rw [upd_ne ne, upd_same]; rfl
theorem xinit2 {x qual p1 p2 q1 q2 f1 f2 : Str} {params : Arguments} {scope : Scope} {f C : Addr} {fd : FuncData} {N : List Str} {a1 a2 a3 a4 b1 b2 b3 b4 : Pos} (T : OexC K C)
    (F : FunD K x qual params [.Assign [.Attribute (.Name q1 a1) f1 a2] (.Name p1 a3) a4, .Assign [.Attribute (.Name q2 b1) f2 b2] (.Name p2 b3) b4] scope [] [] f fd) (S : FnScope N [q1, p1, p2] scope)
    (h1 : PySem.W.findIn K (.ref C) f1 = some none) (h2 : PySem.W.findIn K (.ref C) f2 = some none)
    (hb : ∀ (cdv : Value) (A : Around) (outer : List PySem.Env) (s : Shared) (H : Hp) (E : XK),
      PSs (cxOf (L2.CX P w) P w K mg base N qual scope f cdv A outer s H E) [.Assign [.Attribute (.Name q1 a1) f1 a2] (.Name p1 a3) a4, .Assign [.Attribute (.Name q2 b1) f2 b2] (.Name p2 b3) b4] (tSeq (tOst K f1 (tVar 0) (tVar 1)) (tOst K f2 (tVar 0) (tVar 2)))) :
    FnOk P w K mg base (L2.CX P w) 1 f fd [q1, p1, p2] (spXi C [f1, f2]) := by
  refine F.ok (k := 0) S (fun vs H Q E h => ?_) (fun cdv A outer s H vs Q E hr h => ?_)
  · obtain ⟨a, us, rfl, hl, _⟩ := h
    simpa using hl
  · obtain ⟨a, us, rfl, hl, ha, q⟩ := h
    match us, hl with
    | [u, u2], _ =>
      refine ⟨_, hb cdv A outer s H E, ?_⟩
      refine ⟨u, start_get (i := 1) rfl, .ref a, start_get (i := 0) rfl, a, C, rfl, T, h1, .inl ⟨ha, fun dx hd ne => ?_⟩⟩
      have ed : upd (upd H dx (exd dx [(f1, u)])) a (exo a C (some dx)) dx = some (exd dx [(f1, u)]) := by rw [upd_ne ne, upd_same]
      refine ⟨u2, start_get (i := 2) rfl, .ref a, start_get (i := 0) rfl, a, C, rfl, T, h2, .inr ⟨dx, _, upd_same, ed, (by show 1 ≤ 900; decide), ?_⟩⟩
      refine q dx _ hd ne (fun b n1 n2 => ?_) ?_ ?_
      · rw [upd_ne n2, upd_ne n1, upd_ne n2]
      · rw [upd_ne (Ne.symm ne), upd_same]
      · rw [upd_same]; rfl
end
section
variable {X : Cx} {W : WX} {kp : List Nat} {e a b : Expr} {es : List Expr} {ta tb te : TE} {t : TA} {ma mb me : M D} {ms : M (List D)} {pos : Pos}
/-- raise C(e, ..) -/
def nRaise (c : Nat) (ks : List Nat) (ms : M (List D)) : N := fun ρ => bndS (ms ρ) fun ds ρ1 => if ds.length = ks.length then some (.exc c (ks.zip ds).reverse, ρ1) else none
theorem zip_rep {K : Frg} {G : Hp} : ∀ (ks : List Nat) {vs : List V} {ds : List D}, RepAll K G vs ds → ((ks.map fname).zip vs).map (·.1) = (ks.zip ds).map (fun g => fname g.1) ∧ ∀ (i : Nat) (p : Str × V) (q : Nat × D), ((ks.map fname).zip vs)[i]? = some p → (ks.zip ds)[i]? = some q → Rep K G p.2 q.2
  | [], vs, ds, r => ⟨rfl, fun i p q a b => by cases a⟩
  | k :: ks, vs, ds, r => by
    cases vs with
    | nil => cases ds with
      | nil => exact ⟨rfl, fun i p q a b => by cases a⟩
      | cons d ds => exact absurd r.1 (by simp)
    | cons v vs => cases ds with
      | nil => exact absurd r.1 (by simp)
      | cons d ds =>
        obtain ⟨h1, h2⟩ := zip_rep ks r.tail
        refine ⟨?_, fun i p q a b => ?_⟩
        · show fname k :: _ = fname k :: _
          exact congrArg _ h1
        · cases i with
          | zero => cases a; cases b; exact r.head
          | succ i => exact h2 i p q a b
theorem rev_rep {K : Frg} {G : Hp} {ps : List (Str × V)} {qs : List (Nat × D)} (h1 : ps.map (·.1) = qs.map (fun g => fname g.1)) (h2 : ∀ (i : Nat) (p : Str × V) (q : Nat × D), ps[i]? = some p → qs[i]? = some q → Rep K G p.2 q.2) :
    ps.reverse.map (·.1) = qs.reverse.map (fun g => fname g.1) ∧ ∀ (i : Nat) (p : Str × V) (q : Nat × D), ps.reverse[i]? = some p → qs.reverse[i]? = some q → Rep K G p.2 q.2 := by
  have hl : ps.length = qs.length := by simpa using congrArg List.length h1
  refine ⟨by rw [List.map_reverse, List.map_reverse, h1], fun i p q a b => ?_⟩
  have hi : i < ps.length := by simpa using (List.getElem?_eq_some_iff.mp a).1
  rw [List.getElem?_reverse hi] at a
  rw [List.getElem?_reverse (by omega)] at b
  exact h2 _ p q a (by rw [hl]; exact b)
theorem Sm.raise {x : Str} {p pos' : Pos} {k : Nat} {f : Addr} {fd : FuncData} {ps : List Str} (c0 : Nat) (ks : List Nat) (T : OexC X.K (cadr X.K c0)) (hM : Meth X.K (cadr X.K c0) "__init__" f)
    (F : FnOk X.prog X.w X.K X.mg X.base (L2.CX X.prog X.w) k f fd ps (spXi (cadr X.K c0) (ks.map fname))) (tk : Takes X W) (hr : Room (k + 1) X.A) (hm : X.mg x = some (.ref (cadr X.K c0))) (hb : Binds X.K fd ps []) (ha : As X W (e :: es) t ms)
    (hl : (e :: es).length ≤ 1000 := by decide) (hc : X.calm = true := by rfl) (hg : Gl X x := by rfl) (hdb : (x == ("__debug__" : Str)) = false := by decide) (he : starEach (e :: es) X.env = (false, eval e X.env) :: starEach es X.env := by rfl) (hpl : (backTo pos (starEach es X.env)).any (·.1) = false := by rfl) :
    Sm X W kp (.Raise (some (.Call (.Name x p) (e :: es) [] pos)) none pos') (fun _ σ H => tMkO (cadr X.K c0) (spXi (cadr X.K c0) (ks.map fname)) [] t σ H fun cls d H' => W cls d σ H') (nRaise c0 ks ms) := by
  obtain ⟨m1, m2, m3⟩ := hM
  refine ⟨ps_raise hc tk (pmk_oex T m1 (beq_iff_eq.mp m2) F hr hb .nil (passes_call tk fun _ _ _ _ z => z.elim) hg hm ha.pa hdb he hpl), fun F G H σ ρ D e sl p => ?_⟩
  refine ha.sim.bindS e sl p fun vs ds ρ1 F1 G1 H1 e1 s1 sl1 r h1 => ?_
  refine ⟨by rw [r.2]; exact hl, fun y ny => ?_⟩
  split at h1
  · rename_i hlen
    refine ⟨y, vs, by rw [List.append_nil], by rw [List.length_map, ← hlen, r.1.1], upd_same, fun d H2 hd hdy hH ha hd2 => ⟨rfl, d, _, ha, hd2, ?_, ?_⟩⟩
    · rw [upd_ne hdy] at hd; exact hd
    · rw [upd_ne hdy] at hd
      have eH : upd (del H2 y) d (.xd ((ks.map fname).zip vs).reverse) = upd H1 d (.xd ((ks.map fname).zip vs).reverse) := by
        funext b
        by_cases c : b = d
        · rw [c, upd_same, upd_same]
        · rw [upd_ne c, upd_ne c]
          by_cases c2 : b = y
          · rw [c2, del_same, ny]
          · rw [del_ne c2, hH b c2 c, upd_ne c2]
      rw [eH]
      have st := Stp.new e1 hd (.xd ((ks.map fname).zip vs).reverse)
      obtain ⟨z1, z2⟩ := zip_rep ks r.1
      obtain ⟨z3, z4⟩ := rev_rep z1 z2
      exact h1 (some d) σ F1 _ _ st.pure (sl1.pure st) (.refl _ _) (.inr ⟨d, _, rfl, upd_same, z3, fun i p q a b => (z4 i p q a b).mono (same_upd (none_of e1 hd))⟩)
  · exact h1.elim
/-- C() of a class without own __init__ -/
theorem pmk_bare {x : Str} {C : Addr} {bmB : List Value} {B newId initId : String} {p : Pos} (F : ExcBaseFacts B newId initId bmB) (q : PySem.W.excIn X.K C bmB newId = true) (gC : X.mg x = some (.ref C)) (kC : PySem.W.keepIn X.K (.ref C) = true) (r : Raises X (.ref C)) (hg : Gl X x)
    (hdb : (x == ("__debug__" : Str)) = false := by decide) : PMk X (.Call (.Name x p) [] [] pos) (fun _ H Q => Q (.ref C) none H) := by
  intro pn sa σ Ha Q Ja hw
  refine wpAny_Call_Name_kw (ld_glob Ja hg gC ?_ hdb)
  refine PySem.W.callWith_K0 Ja.kIn kC ?_
  obtain ⟨bm, N, nm, qn, bs, hdct, sn, sub, ab, col, dd, k0, k1, k2, k3, k5, mN, hC, hN, hni, T⟩ := exc_obj Ja.kIn q
  show wpAny _ _ (call (.ref C) []) _ _ _
  refine wpAny_call_exc_subT F T hC hN hni (fun h' e hm => ?_) (Nat.zero_le _)
  exact mk_of Ja hm r hw (Ja.hok.gone hm.new)
theorem Sm.raise0 {x : Str} {p pos' : Pos} (c0 : Nat) (q : PySem.W.excIn X.K (cadr X.K c0) He.veBase "ValueError.__new__" = true) (h2 : PySem.W.keepIn X.K (.ref (cadr X.K c0)) = true) (h3 : PySem.W.subIn X.K (.ref (cadr X.K c0)) (.type "BaseException") = some true) (h4 : PySem.W.typeIn X.K (.ref (cadr X.K c0)) = some (.type "type"))
    (tk : Takes X W) (hm : X.mg x = some (.ref (cadr X.K c0))) (hc : X.calm = true := by rfl) (hg : Gl X x := by rfl) (hdb : (x == ("__debug__" : Str)) = false := by decide) :
    Sm X W kp (.Raise (some (.Call (.Name x p) [] [] pos)) none pos') (fun _ σ H => W (.ref (cadr X.K c0)) none σ H) (fun ρ => some (.exc c0 [], ρ)) := by
  refine ⟨ps_raise hc tk (pmk_bare PySem.F.excBase_ValueError q hm h2 (raises_own h3 h4) hg hdb), fun F G H σ ρ D e sl p => ?_⟩
  exact p none σ F G H (.refl e) sl (.refl _ _) (.inl ⟨rfl, rfl⟩)

/-! ### try .. except C as e: the error stands in the heap while it is looked at -/
theorem Inv.track {Y : Cx} {pn : List (Addr × Obj)} {σ : L2.St} {H : Hp} {s : Shared} (J : Inv Y pn σ H s) {z : Addr} {ob : HO} (nz : H z = none) (ex : Y.ex = []) (n0 : Y.s_0.heap.get? z = none) (nL : z ≠ Y.env.locals) (nC : ∀ x c, Y.env.cells.lookup x = some c → c ≠ z) (np : ∀ p ∈ Y.pn ++ pn, p.1 ≠ z)
    (ok : ObjOk Y.prog Y.w (upd H z ob) s.heap z ob) : Inv Y pn σ (upd H z ob) s where
  ok := J.ok
  os := J.os
  bare := J.bare
  base := {
    keep := J.base.keep
    slot := J.base.slot
    free := fun b o h n hx => by
      rw [upd_ne (fun q => by rw [q, n0] at h; cases h)]
      exact J.base.free b o h n hx
    there := J.base.there
    tups := fun b xs h => by
      have w := J.base.tups b xs h
      rw [upd_ne (ne_of_none w nz)]; exact w
    frzs := fun b o u h => by
      have w := J.base.frzs b o u h
      rw [upd_ne (ne_of_none w nz)]; exact w
    tbls := fun b ps h => by
      obtain ⟨more, w⟩ := J.base.tbls b ps h
      exact ⟨more, by rw [upd_ne (ne_of_none w nz)]; exact w⟩ }
  loc := J.loc
  cell := J.cell
  free := by rw [upd_ne (Ne.symm nL)]; exact J.free
  freeC := fun x c h => by rw [upd_ne (nC x c h)]; exact J.freeC x c h
  pin := fun p hp => by
    obtain ⟨a1, a2, a3⟩ := J.pin p hp
    exact ⟨a1, by rw [upd_ne (np p hp)]; exact a2, a3⟩
  hok := fun b u q => by
    by_cases hb : b = z
    · subst hb; rw [upd_same] at q; cases q; exact ok
    · rw [upd_ne hb] at q
      exact (J.hok b u q).stay (fun _ _ _ w => w) (fun c w => by rw [upd_ne (ne_of_none w nz)]; exact w) fun c xs w => by rw [upd_ne (ne_of_none w nz)]; exact w
  len := J.len
theorem xob_ok {P : Program} {w : World} {H : Hp} {h : Heap} {z C : Addr} {d : Option Addr} {o : Obj} {vs : Array Value} (e : h.get? z = some o) (k : Zc (.ref C) d o) (f : o.data = .fields vs) : ObjOk P w H h z (xob z C d) :=
  ⟨⟨o, vs, e, k.1, k.2, f⟩, ⟨o, e⟩, fun _ _ ⟨o', vs', e', k'⟩ m => ⟨o', vs', m _ e', k'⟩⟩
/-- what the clause wishes -/
def wErr (K : Frg) (c : Value) (i : Nat) (ts : TS) (Wo : WX) (D : Ends) : WX := fun cls d σ H =>
  ∃ r, PySem.W.exmOne K cls c = some r ∧ (r = true → ∃ C, cls = .ref C ∧ ∀ z, H z = none → ts { nx := fun τ H' => D.nx (τ.set i none) H', rt := D.rt, bk := fun τ H' => D.bk (τ.set i none) H', ct := fun τ H' => D.ct (τ.set i none) H' } (σ.set i (some (.ref z))) (upd H z (xob z C d))) ∧ (r = false → Wo cls d σ H)
theorem ps_try_err {Y : Cx} {x m : Str} {c : Value} {i : Nat} {body su : List Stmt} {s0 : Stmt} {p1 p2 p3 : Pos} {tb : WX → TS} {ts : TS} {Wo : WX} (hst : Y.stack = Y.env :: Y.outer) (hloc : Y.env.frame = some Y.env.locals) (hex : Y.ex = []) (nd : Y.N.Nodup) (hi : Y.N[i]? = some m) (hl : Y.env.kindOf m = some .local) (hc : Names Y x c) (tk : Takes Y Wo)
    (hb : ∀ (W : WX) (pn : List (Addr × Obj)) (xe : Value → Shared → Prop), Takes (Y.tr pn xe) W → PSs (Y.tr pn xe) body (tb W))
    (hsu : ∀ (z : Addr) (pn : List (Addr × Obj)), PSs (Y.suite z pn) (s0 :: su) ts) :
    PS Y (.Try body [.ExceptHandler (some (.Name x p1)) (some m) (s0 :: su) p2] [] [] p3) (fun D σ H => tb (wErr Y.K c i ts Wo D) D σ H) := by
  refine ⟨fun pn sa σ H D J hw => ?_⟩
  have oky := J.ok
  have hfr : Y.A.frames = some (Y.env :: Y.outer) := by rw [oky.frames, hst]
  refine wpAny_Try_except ?_
  refine wpAny_mono ((hb (wErr Y.K c i ts Wo D) (Y.pn ++ pn) (fun er sb => wpAny (model Y.prog Y.w) Y.A (noteFrame er Y.env) (fun _ sc => wpAny (model Y.prog Y.w) Y.A (setFlight er none) (fun _ sd =>
    wpAny (model Y.prog Y.w) Y.A (handleBy er Y.env [.ExceptHandler (some (.Name x p1)) (some m) (s0 :: su) p2]) (SP Y pn D) Y.xe sd) Y.xe sc) Y.xe sb) (fun u sz flown => ?_)).run [] sa σ H D (J.toTry _) hw) (fun fl sb done => ?_) (fun er sb he => he)
  · obtain ⟨z, B, sI, pn2, σ2, H2, cls, d, rfl, J2, nb, up, sky, nz, osz, bare, r, hr1, hyes, hno⟩ := flown
    have JJ : Inv Y pn σ2 H2 sI := J2.ofTry oky
    have skyz : Sky B (Y.env :: Y.outer) z (Zc cls d) Y.env.locals sz.heap := by rw [← hst]; exact sky
    show wpAny (model Y.prog Y.w) Y.A (noteFrame (.ref z) Y.env) _ _ _
    refine Sky.land Zc.steady hfr hloc skyz fun hq flq upq => ?_
    have Jq : Inv Y pn σ2 H2 { sz with heap := hq } := JJ.landed nb flq.1 (up.trans upq) osz bare
    obtain ⟨oq, vq, eq1, kq, dq⟩ := flq.there
    have apart : ∀ {h : Heap} {o : Obj} {vs : Array Value}, h.FunFrames B (Y.env :: Y.outer) → h.get? z = some o → o.data = .fields vs → z ∉ frs (Y.env :: Y.outer) := fun {h o vs} ff e dd hm => by
      obtain ⟨_, o', e', hnf⟩ := ff.mem hm
      rw [e] at e'; cases e'
      exact hnf _ dd
    have nfr := apart flq.2.2.1 eq1 dq
    have nL : z ≠ Y.env.locals := fun q => nfr (List.mem_filterMap.mpr ⟨Y.env, List.mem_cons_self, by rw [hloc, q]⟩)
    have nF : z ∉ Y.fs := fun hm => by
      obtain ⟨e, he, q⟩ := List.mem_filterMap.mp hm
      exact nfr (List.mem_filterMap.mpr ⟨e, List.mem_cons_of_mem _ he, q⟩)
    have nI : sI.heap.get? z = none := by
      cases q : sI.heap.get? z with
      | none => rfl
      | some o =>
        have w := nb z o q (by rw [hst]; exact nfr)
        rw [flq.2.1] at w; cases w
    have n0 : Y.s_0.heap.get? z = none := by
      cases q : Y.s_0.heap.get? z with
      | none => rfl
      | some o =>
        obtain ⟨o', w⟩ := JJ.base.there z o q (by rw [hex]; exact fun w => nomatch w)
        rw [nI] at w; cases w
    have nC : ∀ y c, Y.env.cells.lookup y = some c → c ≠ z := fun y c h q => by
      obtain ⟨v, o, ho, _⟩ := JJ.cell y c h
      rw [q, nI] at ho; cases ho
    have nP : ∀ p ∈ Y.pn ++ pn, p.1 ≠ z := fun p hp q => by
      obtain ⟨a1, _⟩ := JJ.pin p hp
      rw [q, nI] at a1; cases a1
    have toSuite : ∀ {sx : Shared} {σx : L2.St} {Hx : Hp}, Inv Y pn σx Hx sx → Inv (Y.suite z (Y.pn ++ pn)) [] σx Hx sx := fun I => ⟨I.ok.suite _ _, I.os, I.bare, I.base, I.loc, I.cell, I.free, I.freeC, fun p hp => I.pin p (by rw [List.append_nil] at hp; exact hp), I.hok, I.len⟩
    have ofSuite : ∀ {sx : Shared} {σx : L2.St} {Hx : Hp}, Inv (Y.suite z (Y.pn ++ pn)) [] σx Hx sx → Inv Y pn σx Hx sx := fun I => ⟨oky, I.os, I.bare, I.base, I.loc, I.cell, I.free, I.freeC, fun p hp => I.pin p (List.mem_append_left _ hp), I.hok, I.len⟩
    have Sq := toSuite Jq
    refine wpAny_handleBy_cons (codeAny_handlers_test ?_) (by intro q; cases q)
    have lookT : PySem.W.Looks (model Y.prog Y.w) hq (typeOf (.ref z)) cls := fun A Q E s k q => wpAny_typeOf_ref (k _ _ eq1) (by rw [kq.1]; exact q)
    have lookM := PySem.W.exm_one (M := model Y.prog Y.w) Jq.kIn lookT hr1
    have named : ∀ {Q : Value → Shared → Prop} {E : Value → Shared → Prop}, Q c { sz with heap := hq } → wpAny (model Y.prog Y.w) (Y.A.mark (some (.ref z))) (eval (.Name x p1) Y.env) Q E { sz with heap := hq } := fun {Q E} q => by
      obtain ⟨hg, hdbg, hm | ⟨hm, hv, hnn⟩⟩ := hc
      · exact ld_glob (X := Y.suite z (Y.pn ++ pn)) Sq hg hm q hdbg
      · exact ld_blt (X := Y.suite z (Y.pn ++ pn)) Sq hg hm hv q hnn hdbg
    refine named (lookM.here ?_)
    cases r with
    | true =>
      obtain ⟨C, rfl, wish⟩ := hyes rfl
      refine codeAny_handlers_suite_as ?_
      refine HandSPX.lands_againZ flq fun hv flv upv => ?_
      have Jv : Inv Y pn σ2 H2 { sz with heap := hv } := JJ.landed nb flv.1 ((up.trans upq).trans upv) osz bare
      obtain ⟨ov, vv, ev1, kv, dv⟩ := flv.there
      have Sv := toSuite (Inv.track (ob := xob z C d) Jv nz hex n0 nL nC nP (xob_ok ev1 kv dv))
      refine store_ok (X := Y.suite z (Y.pn ++ pn)) (v := .ref z) Sv nd hi (.inl hl) rfl (fun s5 S5 => ?_) (.inr hl)
      refine wpAny_mono ((hsu z (Y.pn ++ pn)).run [] s5 _ _ _ S5 (wish z nz)) (fun fl s6 done => ?_) (fun _ _ w => False.elim w)
      have close : ∀ {σ6 : L2.St} {H6 : Hp} {Q : Shared → Prop}, Inv (Y.suite z (Y.pn ++ pn)) [] σ6 H6 s6 → (∀ s7, Inv Y pn (σ6.set i none) H6 s7 → Q s7) →
          wpAny (model Y.prog Y.w) Y.A (do bindName Y.env m .none; unbindBehindTheSuite Y.env m p2) (fun _ s7 => Q s7) Y.xe s6 := fun {σ6 H6 Q} S6 k => gone_ok (ofSuite S6) nd hi hl k
      cases fl with
      | next => obtain ⟨τ, H6, S6, q6⟩ := done
                exact close S6 fun s7 J7 => ⟨_, _, J7, q6⟩
      | brk => obtain ⟨τ, H6, S6, q6⟩ := done
               exact close S6 fun s7 J7 => ⟨_, _, J7, q6⟩
      | cont => obtain ⟨τ, H6, S6, q6⟩ := done
                exact close S6 fun s7 J7 => ⟨_, _, J7, q6⟩
      | ret u => obtain ⟨v6, τ, H6, S6, r6, q6⟩ := done
                 exact close S6 fun s7 J7 => ⟨_, _, _, J7, r6, q6⟩
    | false =>
      show wpAny _ Y.A (handleBy (.ref z) Y.env []) _ _ _
      refine wpAny_handleBy_nil ?_
      obtain ⟨k1, k2, k3, o, vs, T, oT, ts', he, hz, hd, h1, hr⟩ := id flq
      unfold PySem.passOn
      refine wpAny_bind (wpAny_field he hd h1 ?_)
      rw [if_neg (fun w => by simp at w)]
      have away : wpAny (model Y.prog Y.w) Y.A (setFlight (.ref z) Y.env.frame) (fun _ s4 => wpAny (model Y.prog Y.w) Y.A (throw (.ref z) : Sem PySem.Flow) (SP Y pn D) Y.xe s4) Y.xe { sz with heap := hq } := by
        rw [hloc]
        refine HandSPX.setFlight_upZ flq fun hu hhu upu => wpAny_throw (tk _ _ ?_)
        exact ⟨z, B, sI, pn, σ2, H2, cls, d, rfl, JJ, nb, (up.trans upq).trans upu, .inr (.inr (by rw [hst]; exact hhu)), nz, osz, bare, hno rfl⟩
      first
        | exact wpAny_bind (wpAny_pure (wpAny_bind away))
        | exact wpAny_bind away
  · cases fl with
    | next => obtain ⟨τ, Hb, Jb, q⟩ := done
              exact wpAny_execs_nil ⟨τ, Hb, Jb.ofTry oky, q⟩
    | brk => obtain ⟨τ, Hb, Jb, q⟩ := done
             exact ⟨τ, Hb, Jb.ofTry oky, q⟩
    | cont => obtain ⟨τ, Hb, Jb, q⟩ := done
              exact ⟨τ, Hb, Jb.ofTry oky, q⟩
    | ret u => obtain ⟨v, τ, Hb, Jb, rv, q⟩ := done
               exact ⟨v, τ, Hb, Jb.ofTry oky, rv, q⟩
/-- try: .. except C as e: .. -/
def nTry (i c : Nat) (cs : List Nat) (nb ns : N) : N := fun ρ => match nb ρ with
  | some (.exc C fs, ρ1) => if C ∈ cs then (if subB C c = true then (match ns (ρ1.set i (some (.im (.xo C fs)))) with
      | some (.nx, ρ2) => some (.nx, ρ2.set i none)
      | some (.bk, ρ2) => some (.bk, ρ2.set i none)
      | some (.ct, ρ2) => some (.ct, ρ2.set i none)
      | some (.rt t, ρ2) => some (.rt t, ρ2.set i none)
      | _ => none) else some (.exc C fs, ρ1)) else none
  | r => r
theorem Rep.newXo {K : Frg} {G : Hp} {z : Addr} {C : Nat} {x : Option Addr} {fs : List (Nat × D)} {H : Hp} (n : G z = none) (ex : ExcAt K G H x fs) : Rep K (upd G z (xob z (cadr K C) x)) (.ref z) (.xo C fs) := by
  rcases ex with ⟨rfl, rfl⟩ | ⟨dd, gs, rfl, a2, a3, a4⟩
  · exact .xo0 upd_same
  · exact .xo upd_same (by rw [upd_ne (ne_of_none a2 n)]; exact a2) a3 fun i p q a b => (a4 i p q a b).mono (same_upd n)
theorem sim_try {K : Frg} {W : WX} {kp : List Nat} {cs : List Nat} (kx : XcK K cs) {c i : Nat} (hc : c ∈ cs) (hk : i ∉ kp) {tb : WX → TS} {ts : TS} {nb ns : N} (hb : ∀ W : WX, SimS K W kp (tb W) nb) (hs : SimS K WF kp ts ns) :
    SimS K W kp (fun D σ H => tb (wErr K (.ref (cadr K c)) i ts W D) D σ H) (nTry i c cs nb ns) := by
  intro F G H σ ρ D e sl p
  refine hb _ F G H σ ρ D e sl ?_
  revert p
  unfold nTry
  cases nb ρ with
  | none => exact fun p => p
  | some r =>
    obtain ⟨f, ρ1⟩ := r
    cases f with
    | nx => exact fun p => p
    | bk => exact fun p => p
    | ct => exact fun p => p
    | rt t => exact fun p => p
    | exc C fs =>
      intro p x σ' F' G' H' st sl' kk ex
      dsimp only at p
      split at p
      · rename_i hC
        refine ⟨subB C c, kx.exm C hC c hc, fun hr => ⟨_, rfl, fun z nz => ?_⟩, fun hr => ?_⟩
        · rw [if_pos hr] at p
          have e' := st.gh
          have nw := Stp.new e' nz (xob z (cadr K C) x)
          have ngz := none_of e' nz
          have sl2 := (sl'.pure nw).setIm (Rep.newXo (C := C) (H := H') ngz ex) i
          have st2 := st.trans (nw.pure (F := F'))
          refine hs F' _ _ _ _ _ nw.gh sl2 ?_
          revert p
          cases ns (ρ1.set i (some (.im (.xo C fs)))) with
          | none => exact fun p => p.elim
          | some r =>
            obtain ⟨f, ρ2⟩ := r
            have kq : ∀ {τ : L2.St} {y : Option V}, Keep kp (σ'.set i (some (.ref z))) τ → Keep kp σ (τ.set i y) := fun k => ((kk.trans (Keep.set hk _)).trans k).trans (Keep.set hk _)
            cases f with
            | nx => exact fun p τ F6 G6 H6 st6 sl6 k6 => p (τ.set i none) F6 G6 H6 (st2.trans st6) (sl6.drop i none) (kq k6)
            | bk => exact fun p τ F6 G6 H6 st6 sl6 k6 => p (τ.set i none) F6 G6 H6 (st2.trans st6) (sl6.drop i none) (kq k6)
            | ct => exact fun p τ F6 G6 H6 st6 sl6 k6 => p (τ.set i none) F6 G6 H6 (st2.trans st6) (sl6.drop i none) (kq k6)
            | rt t => exact fun p τ v Fs Fv G6 H6 st6 sl6 ow dj k6 => p (τ.set i none) v Fs Fv G6 H6 (st2.trans st6) (sl6.drop i none) ow dj (kq k6)
            | exc C2 gs => exact fun p => p.elim
        · rw [if_neg (by rw [hr]; exact Bool.false_ne_true)] at p
          exact p x σ' F' G' H' st sl' kk ex
      · exact p.elim
theorem PSs.all {X : Cx} {st : List Stmt} {ι : Type} {t : ι → TS} (i : ι) (h : PSs X st (t i)) : PSs X st (fun D σ H => ∀ j, t j D σ H) := ⟨fun pn s σ H D I w => h.run pn s σ H D I (w i)⟩
theorem Sm.tryAs {X : Cx} {W : WX} {kp : List Nat} {x m : Str} {body su : List Stmt} {s0 : Stmt} {p1 p2 p3 : Pos} {nb ns : N} {cs : List Nat} (i c : Nat) (kx : XcK X.K cs) (nd : X.N.Nodup) (hm : X.mg x = some (.ref (cadr X.K c))) (tk : Takes X W)
    (hb : ∀ (W : WX) (pn : List (Addr × Obj)) (xe : Value → Shared → Prop), Takes (X.tr pn xe) W → ∃ t, Sms (X.tr pn xe) W kp body t nb)
    (hsu : ∀ (z : Addr) (pn : List (Addr × Obj)), ∃ t, Sms (X.suite z pn) WF kp (s0 :: su) t ns)
    (hc : c ∈ cs := by decide) (hk : i ∉ kp := by decide) (hi : X.N[i]? = some m := by rfl) (hl : X.env.kindOf m = some .local := by rfl) (hst : X.stack = X.env :: X.outer := by rfl) (hloc : X.env.frame = some X.env.locals := by rfl) (hex : X.ex = [] := by rfl)
    (hg : Gl X x := by rfl) (hdb : (x == ("__debug__" : Str)) = false := by decide) :
    ∃ t, Sm X W kp (.Try body [.ExceptHandler (some (.Name x p1)) (some m) (s0 :: su) p2] [] [] p3) t (nTry i c cs nb ns) := by
  let tb : WX → TS := fun W D σ H => ∀ q : { q : List (Addr × Obj) × (Value → Shared → Prop) // Takes (X.tr q.1 q.2) W }, (hb W q.1.1 q.1.2 q.2).choose D σ H
  let ts : TS := fun D σ H => ∀ q : Addr × List (Addr × Obj), (hsu q.1 q.2).choose D σ H
  refine ⟨_, ps_try_err (tb := tb) (ts := ts) hst hloc hex nd hi hl ⟨hg, hdb, .inl hm⟩ tk (fun W pn xe t => ?_) (fun z pn => ?_), sim_try kx hc hk (tb := tb) (ts := ts) (fun W F G H σ ρ D e sl p q => ?_) (fun F G H σ ρ D e sl p q => ?_)⟩
  · exact PSs.all (t := fun q : { q : List (Addr × Obj) × (Value → Shared → Prop) // Takes (X.tr q.1 q.2) W } => (hb W q.1.1 q.1.2 q.2).choose) ⟨(pn, xe), t⟩ (hb W pn xe t).choose_spec.ps
  · exact PSs.all (t := fun q : Addr × List (Addr × Obj) => (hsu q.1 q.2).choose) (z, pn) (hsu z pn).choose_spec.ps
  · exact (hb W q.1.1 q.1.2 q.2).choose_spec.sim F G H σ ρ D e sl p
  · exact (hsu q.1 q.2).choose_spec.sim F G H σ ρ D e sl p
noncomputable def tTryAs {X : Cx} {W : WX} {kp : List Nat} {st : Stmt} {n : N} (h : ∃ t, Sm X W kp st t n) : TS := h.choose
theorem Sm.ofEx {X : Cx} {W : WX} {kp : List Nat} {st : Stmt} {n : N} (h : ∃ t, Sm X W kp st t n) : Sm X W kp st (tTryAs h) n := h.choose_spec
/-! ### what is asked of a caught error -/
def rIsX (K : Frg) : List V → Hp → VK → Prop := fun xs H Q => ∃ z C d c u r, xs = [.ref z, c] ∧ ClsV c u ∧ H z = some (xob z C d) ∧ (∀ dd, d = some dd → ∃ fs, H dd = some (.xd fs)) ∧ ExcC K C ∧ PySem.W.kitOne K (.ref C) u = some r ∧ Q (.bl r) H
theorem cls_some {K : Frg} {D : Addr} (h : PySem.W.hasDictIn K D = true) : (PySem.W.clsIn K D).isSome = true := by
  obtain ⟨cd, hc, _⟩ := PySem.W.any_some h
  rw [hc]; rfl
theorem inst_xob {P : Program} {w : World} {H : Hp} {h : Heap} {z C : Addr} {d : Option Addr} (ok : HOk P w H h) (e : H z = some (xob z C d)) (hd : ∀ dd, d = some dd → ∃ fs, H dd = some (.xd fs)) : ∃ o od, PySem.W.InstAt h z o C od ∧ (∀ dd fs, d = some dd → H dd = some (.xd fs) → ∃ (mA : Str → Option Value) (ob : Obj), od = some ob ∧ (∀ name, PySem.W.lookIn name ob = some (mA name)) ∧ ∀ f, RelO (fs.lookup f) (mA f)) := by
  obtain ⟨⟨o, vs, h1, h2, h3, h4⟩, _, _⟩ := (show ObjOk P w H h z (xob z C d) from ok z _ e)
  have nc : PySem.W.notCls o = true := by unfold PySem.W.notCls; rw [h4] <;> rfl
  cases d with
  | none => exact ⟨o, none, ⟨h1, h2, nc, by rw [h3]; trivial⟩, fun dd fs q => by cases q⟩
  | some dd =>
    obtain ⟨fs, ed⟩ := hd dd rfl
    obtain ⟨mA, hns, hr⟩ := (show ObjOk P w H h dd (.xd fs) from ok dd _ ed)
    obtain ⟨od, ho, hl⟩ := lookIn_ns hns
    refine ⟨o, some od, ⟨h1, h2, nc, by rw [h3]; exact ho⟩, fun d2 gs q eg => ?_⟩
    cases q
    rw [ed] at eg
    cases eg
    exact ⟨mA, od, rfl, hl, hr⟩
theorem call_isX {X : Cx} : CallR X (.builtin "isinstance") (rIsX X.K) := by
  intro pn sa σ H xs us Q J rr hw
  obtain ⟨z, C, d, c, u, r, rfl, k, hz, hd, T, kt, q⟩ := hw
  obtain ⟨u1, u2, rfl, r1, r2⟩ := vals2 rr
  have e2 := k.eq r2
  subst e2
  obtain rfl : u1 = Value.ref z := r1
  obtain ⟨o, od, I, _⟩ := inst_xob J.hok hz hd
  exact PySem.W.kia_one (PySem.W.kitx_exc (cls_some T.hd) T.hg T.hk T.hs T.ha T.hn T.ht T.hm) J.kIn I kt (fun w => nomatch w) fun tk => ⟨.bl r, H, J.tok tk, rfl, q⟩
theorem xo_inv {K : Frg} {G : Hp} {v : V} {C : Nat} {fs : List (Nat × D)} (r : Rep K G v (.xo C fs)) : ∃ z d, v = .ref z ∧ G z = some (xob z (cadr K C) d) ∧ ((fs = [] ∧ d = none) ∨ ∃ dd gs, d = some dd ∧ G dd = some (.xd gs) ∧ gs.map (·.1) = fs.map (fun g => fname g.1) ∧ ∀ (i : Nat) (p : Str × V) (q : Nat × D), gs[i]? = some p → fs[i]? = some q → Rep K G p.2 q.2) := by
  cases r with
  | xo0 s => exact ⟨_, none, rfl, s, .inl ⟨rfl, rfl⟩⟩
  | xo s t l h => exact ⟨_, _, rfl, s, .inr ⟨_, _, rfl, t, l, h⟩⟩
def isxC (cs : List Nat) : List D → Option D
  | [.xo k _, .cls c] => if k ∈ cs ∧ c ∈ cs then some (.bl (subB k c)) else none
  | _ => none
theorem cd_isx {K : Frg} {cs : List Nat} (kx : XcK K cs) : CallD K (rIsX K) 2 (isxC cs) := by
  intro G H ds d vs Q e r hl hd k
  unfold isxC at hd
  split at hd
  · rename_i C fs c
    split at hd
    · rename_i hc
      cases hd
      obtain ⟨v, u, rfl, rv, rc⟩ := repAll_2 r
      obtain ⟨z, x, rfl, hz, hx⟩ := xo_inv rv
      cases rc
      refine ⟨z, _, x, _, _, _, rfl, .own _, e _ _ hz, fun dd q => ?_, kx.is C hc.1, kx.sub C hc.1 c hc.2, k _ G H (.refl e) (.bl _)⟩
      rcases hx with ⟨_, w⟩ | ⟨d2, gs, w, hg, _⟩
      · rw [w] at q; cases q
      · rw [w] at q; cases q; exact ⟨gs, e _ _ hg⟩
    · cases hd
  · cases hd
section
variable {X : Cx} {W : WX} {kp : List Nat} {e a b : Expr} {es : List Expr} {ta tb te : TE} {t : TA} {ma mb me : M D} {ms : M (List D)} {pos : Pos}
/-- isinstance(e, ValueError) -/
def isVD (cs : List Nat) : D → Option D
  | .xo k _ => if k ∈ cs then some (.bl true) else none
  | _ => none
def mIsVE (cs : List Nat) (ma : M D) : M D := fun ρ => bnd (ma ρ) fun d ρ1 => retO (isVD cs d) ρ1
theorem Ex.isVE {x y : Str} {p py : Pos} {cs : List Nat} (kx : XcK X.K cs) (hm : X.mg x = none) (hm2 : X.mg y = none) (hv : bootBuiltins x = some (.builtin "isinstance")) (hv2 : bootBuiltins y = some (.type "ValueError")) (ha : Ex X W a ta ma)
    (hg : Gl X x := by rfl) (hn : x ≠ "__name__" := by decide) (hdb : (x == ("__debug__" : Str)) = false := by decide) (hg2 : Gl X y := by rfl) (hn2 : y ≠ "__name__" := by decide) (hdb2 : (y == ("__debug__" : Str)) = false := by decide)
    (he : starEach [a, .Name y py] X.env = (false, eval a X.env) :: starEach [.Name y py] X.env := by rfl) (he2 : starEach [.Name y py] X.env = (false, eval (.Name y py) X.env) :: starEach [] X.env := by rfl) (hpl : (backTo pos (starEach [.Name y py] X.env)).any (·.1) = false := by rfl) :
    Ex X W (.Call (.Name x p) [a, .Name y py] [] pos) (tCB (rIsX X.K) (tCons ta (tCons (tC (.ty "ValueError")) tNil))) (mIsVE cs ma) := by
  refine ⟨pe_callB call_isX hg hm hv (pa_cons ha.pe (pa_cons (pe_bltn hg2 hm2 hv2 rfl hn2 hdb2) pa_nil he2) he) hn hdb he hpl, fun F G H σ ρ Q e0 sl q => ?_⟩
  refine ha.sim.bind e0 sl q fun v d ρ1 F1 G1 H1 e1 s1 sl1 r h1 => ?_
  obtain ⟨w, hw, h2⟩ := h1.retO
  unfold isVD at hw
  split at hw
  · rename_i C fs
    split at hw
    · rename_i hc
      cases hw
      obtain ⟨z, x, rfl, hz, hx⟩ := xo_inv r
      refine ⟨z, _, x, _, _, _, rfl, .ty _, e1 _ _ hz, fun dd q => ?_, kx.is C hc, kx.ve C hc, h2 _ F1 G1 H1 (.refl e1) sl1 (.bl _)⟩
      rcases hx with ⟨_, w⟩ | ⟨d2, gs, w, hg, _⟩
      · rw [w] at q; cases q
      · rw [w] at q; cases q; exact ⟨gs, e1 _ _ hg⟩
    · cases hw
  · cases hw
/-- e.f of an error -/
def tXfE (K : Frg) (f : Str) (te : TE) : TE := fun σ H Q => te σ H fun x H1 => ∃ z C dd fs v, x = .ref z ∧ H1 z = some (xob z C (some dd)) ∧ H1 dd = some (.xd fs) ∧ fs.lookup f = some v ∧ ExcC K C ∧ PySem.W.findIn K (.ref C) f = some none ∧ Q v H1
theorem pe_xfE {f : Str} (he : PE X e te) (hb : attributeBase e f X.env (eval e X.env) = eval e X.env := by rfl) : PE X (.Attribute e f pos) (tXfE X.K f te) := by
  refine ⟨fun pn sa σ H Q J hw => attr_of hb (thn (he.run pn sa σ H _ J hw) fun u sb hh => ?_)⟩
  obtain ⟨x, H1, J1, rx, z, C, dd, fs, v, rfl, hz, hd, l, T, hno, q⟩ := hh
  obtain rfl : u = Value.ref z := rx
  obtain ⟨o, od, I, k⟩ := inst_xob J1.hok hz fun d2 w => by cases w; exact ⟨fs, hd⟩
  obtain ⟨mA, ob, rfl, hl, hr⟩ := k dd fs rfl hd
  obtain ⟨u, hu, ru⟩ := RelO.some_of (v := v) (o := mA f) (by rw [← l]; exact hr f)
  exact HandSPX.exc_get J1.kIn I T.hg T.hk T.hs (PySem.W.findObj_own T.hd hno rfl (by rw [hl, hu])) (handed_of ru) ⟨v, H1, J1.tok _, ru, q⟩
def xfD (k : Nat) (cs : List Nat) : D → Option D
  | .xo c gs => if c ∈ cs then gs.lookup k else none
  | _ => none
def mXf (k : Nat) (cs : List Nat) (m : M D) : M D := fun ρ => bnd (m ρ) fun d ρ1 => retO (xfD k cs d) ρ1
theorem Ex.xfld {f : Str} {cs : List Nat} (k : Nat) (kx : XcK X.K cs) (h : Ex X W e te me) (hf : fname k = f := by rfl) (hk : k < 45 := by decide) (hb : attributeBase e f X.env (eval e X.env) = eval e X.env := by rfl) :
    Ex X W (.Attribute e f pos) (tXfE X.K f te) (mXf k cs me) := by
  subst hf
  refine ⟨pe_xfE h.pe hb, fun F G H σ ρ Q e0 sl q => ?_⟩
  refine h.sim.bind e0 sl q fun v d ρ1 F1 G1 H1 e1 s1 sl1 r h1 => ?_
  obtain ⟨w, hw, h2⟩ := h1.retO
  unfold xfD at hw
  split at hw
  · rename_i C gs
    split at hw
    · rename_i hc
      obtain ⟨z, x, rfl, hz, hx⟩ := xo_inv r
      rcases hx with ⟨w0, _⟩ | ⟨dd, fs, rfl, hg, a3, a4⟩
      · rw [w0] at hw; cases hw
      · obtain ⟨u, l, ru⟩ := lookup_rep hk a3 a4 hw
        exact ⟨z, _, dd, fs, u, rfl, e1 _ _ hz, e1 _ _ hg, l, kx.is C hc, kx.fl C hc k hk, h2 u F1 G1 H1 (.refl e1) sl1 ru⟩
    · cases hw
  · cases hw
end
end
end MX

namespace MX
open PySem PySem.Spec PyProof.Rows L2
/-! ### what the head's Hook looks at -/
def tyAll : List Ty := [.non, .bl, .int, .str, .lst, .tup, .dct]
theorem tyAll_mem (n : Ty) : n ∈ tyAll := by cases n <;> decide
def kcB (K : Frg) (cs : List Nat) : Bool :=
  (cs.all fun c => (He.Fa.cls (cname c)).ok K && (decide (PySem.W.findIn K (.ref (cadr K c)) "__class__" = some (some (.builtin "object.__class__"))) && (decide (PySem.W.specialIn K (.builtin "object.__class__") "__get__" = some (some (.builtin "getset_descriptor.__get__"))) &&
    (decide (PySem.W.takesIn K (.builtin "object.__class__") = some true) && decide (PySem.W.mroIn K (cadr K c) (.type "object") = some true))))) &&
  ((cs.all fun c => tyAll.all fun n => decide (PySem.W.kitOne K (.ref (cadr K c)) (.type n.name) = some false) && decide (PySem.W.kitOne K (.type n.name) (.ref (cadr K c)) = some false)) &&
  (cs.all fun c => cs.all fun d => decide (PySem.W.kitOne K (.ref (cadr K c)) (.ref (cadr K d)) = some (subB c d))))
theorem kcB_ok {K : Frg} {cs : List Nat} (h : kcB K cs = true) : KitC K cs := by
  unfold kcB at h
  obtain ⟨h1, h⟩ := He.ba h
  obtain ⟨h2, h3⟩ := He.ba h
  refine ⟨fun c hc => ?_, fun c hc n => ?_, fun c hc n => ?_, fun c hc d hd => ?_⟩
  · obtain ⟨a, b⟩ := He.ba (List.all_eq_true.mp h1 c hc)
    obtain ⟨b, d⟩ := He.ba b
    obtain ⟨d, e⟩ := He.ba d
    obtain ⟨e, f⟩ := He.ba e
    exact ⟨He.cls_ok a, of_decide_eq_true b, of_decide_eq_true d, of_decide_eq_true e, of_decide_eq_true f⟩
  · exact of_decide_eq_true (He.ba (List.all_eq_true.mp (List.all_eq_true.mp h2 c hc) n (tyAll_mem n))).1
  · exact of_decide_eq_true (He.ba (List.all_eq_true.mp (List.all_eq_true.mp h2 c hc) n (tyAll_mem n))).2
  · exact of_decide_eq_true (List.all_eq_true.mp (List.all_eq_true.mp h3 c hc) d hd)
abbrev AlM : Type := ((Bool × Bool) × (Bool × Bool)) × He.AlD
def obsMG (n : Nat) (fa : List He.Fa) (fn : List He.DefD) (cs : List Nat) (es : List (List Nat)) (xs os : List Nat) (g : Addr → Option Obj) : AlM := let K := He.frG g (He.asD g n); (((kcB K cs, es.all (keB K)), (xcB K xs, os.all fun c => oexB K (cadr K c))), He.obsD fa fn K)
def hookM (n : Nat) (fa : List He.Fa) (fn : List He.DefD) (cs : List Nat) (es : List (List Nat)) (xs os : List Nat) : PySem.W.Hook where
  α := AlM
  obs := fun s => obsMG n fa fn cs es xs os s.heap.get?
  val := fun _ => (((true, true), (true, true)), He.valD fn)
  says := fun _ h => ∃ K : PySem.W.Frag, K.In h ∧ He.SaysD fa fn K ∧ kcB K cs = true ∧ es.all (keB K) = true ∧ xcB K xs = true ∧ (os.all fun c => oexB K (cadr K c)) = true
  of := fun _ _ e => ⟨_, He.frG_in, congrArg (fun z : AlM => z.2) e, congrArg (fun z : AlM => z.1.1.1) e, congrArg (fun z : AlM => z.1.1.2) e, congrArg (fun z : AlM => z.1.2.1) e, congrArg (fun z : AlM => z.1.2.2) e⟩
  keeps := fun _ _ _ ⟨K, hK, c⟩ k => ⟨K, PySem.W.Frag.In.keeps hK k, c⟩
theorem obsMG_eq {n : Nat} {fa : List He.Fa} {fn : List He.DefD} {cs : List Nat} {es : List (List Nat)} {xs os : List Nat} {g : Addr → Option Obj} {s : Shared} (h : ∀ a, g a = s.heap.get? a) : obsMG n fa fn cs es xs os g = (hookM n fa fn cs es xs os).obs s := by
  have e : g = s.heap.get? := funext h
  rw [e] <;> rfl
theorem walk_ofM {l : PySem.W.OpenLaw} {n k : Nat} {q : Program} {loose : List Str} {XP : (Str → Option Value) → Heap → Prop} {YP : World → Heap → Prop} {d : DefRec} {CX : World → CXT} {x : Str}
    (hn : l.most = some n) (hn2 : n ≤ sizeLine) (hdf : d.params.defaults = []) (hr : Room k callerA)
    (F : ∀ (w : World) (mg : Str → Option Value) (fa : Addr) (h : Heap), YP w h → h.Ns mainGlobals mg → mg d.name = some (.ref fa) →
      ∃ (K : PySem.W.Frag) (fd : FuncData) (sp : Sp), K.In h ∧ (∀ (s : Shared) (u : Value), BindsTo s fd ⟨[u], []⟩ [(x, u)]) ∧
        (∀ (H : Hp) (a : Addr) (ns : List Int), ns.length ≤ n → (∀ k ∈ ns, Builtin.Int.intBits k ≤ 1048576) → Only H → SqL K H a (ns.map V.int) → sp [.ref a] H (fun v _ => v = .bl true) fun _ _ _ => False) ∧
        ∀ base : Heap, K.In base → base.Ns mainGlobals mg → FnOk l.prog w K mg base (CX w) k fa fd [x] sp)
    (hCX : ∀ (w : World) (H : Hp) (s : Shared) (e : Value) (s' : Shared), CX w [] H s (fun _ _ _ => False) e s' → False) :
    PySem.W.WalkO q loose XP YP l.row.toRowW d [] (fun f vs => PySem.call f vs) := by
  refine Att.attach_callB hn hdf fun w s₀ s₁ mg mb fa o pm cd doc a vs ns G Y ho hd hcd hmg hobj hints hlen hbits hg => ?_
  obtain ⟨K, fd, sp, KX, hb, hsp, hF⟩ := F w mg fa _ Y G.T.g hmg
  exact law_call KX G.T.g G.T.b G.T.builtins G.T.nolimit hg hobj hints (Nat.le_trans hlen hn2) hr hF hb (fun H hO hS => hsp H a ns hlen hbits hO hS) fun H e s' => hCX w H s₁ e s'
theorem cx_no (P : Program) (w : World) (H : Hp) (s : Shared) (e : Value) (s' : Shared) : L2.CX P w [] H s (fun _ _ _ => False) e s' → False := fun ⟨_, _, _, _, _, _, _, _, _, _, _, _, z⟩ => z
/-- the law's own mirror says true: its promise at the end -/
theorem spM_true {K : Frg} {f : Fn} {H : Hp} {a : Addr} {ns : List Int} (hO : Only H) (hS : SqL K H a (ns.map V.int)) (h : ∃ ts, f [.im (.scr ns)] = some (.ok (.im (.bl true)), ts)) : spM K 1 f [.ref a] H (fun v _ => v = .bl true) fun _ _ _ => False := by
  obtain ⟨ts, h⟩ := h
  refine ⟨F0, H, [.im (.scr ns)], rfl, Same.refl H, owns_im (ds := [.scr ns]) (.cons (.scr hS) .nil), ?_⟩
  rw [h]
  intro v Fa Fv G' H' st os ow dj
  cases ow with
  | im r => cases r; rfl
end MX

namespace MX
open PySem PySem.Spec PyProof.Rows L2
/-! ### [e for .. in .. if .. for .. in .. if ..] -/
def lc2M (vs : List Nat) (bd : D → Env → Option Env) (mt : M Bool) (ms1 : M (List D)) (vs1 : List Nat) (bd1 : D → Env → Option Env) (mt1 : M Bool) (me : M D) : List D → Env → Option (List D × Env)
  | [], ρ => some ([], ρ)
  | d :: ds, ρ => (bd d (wipeE ρ vs)).bind fun ρ1 => (okO (mt ρ1)).bind fun b => if b.1 = true then (okO (ms1 b.2)).bind fun l => (lcM vs1 bd1 mt1 me l.1 l.2).bind fun r => (lc2M vs bd mt ms1 vs1 bd1 mt1 me ds r.2).map fun q => (r.1 ++ q.1, q.2) else lc2M vs bd mt ms1 vs1 bd1 mt1 me ds b.2
def mLc2N (ms : M (List D)) (vs : List Nat) (bd : D → Env → Option Env) (mt : M Bool) (ms1 : M (List D)) (vs1 : List Nat) (bd1 : D → Env → Option Env) (mt1 : M Bool) (me : M D) : M (List D) := fun ρ => bnd (ms ρ) fun ds ρ1 => match lc2M vs bd mt ms1 vs1 bd1 mt1 me ds ρ1 with
  | some r => if r.1.length ≤ 1000000 then ret r.1 (restE ρ1 vs r.2) else none
  | none => none
theorem wipeE_at {ρ : Env} {i : Nat} : ∀ {vs : List Nat}, (wipeE ρ vs)[i]? = if i ∈ vs ∧ i < ρ.length then some none else ρ[i]?
  | [] => by simp [wipeE]
  | v :: vs => by
    have ih := wipeE_at (ρ := ρ) (i := i) (vs := vs)
    unfold wipeE
    by_cases c : v = i
    · subst c
      by_cases hl : v < ρ.length
      · rw [List.getElem?_set_self (by rw [wipeE_length]; exact hl), if_pos ⟨List.mem_cons_self, hl⟩]
      · rw [List.getElem?_eq_none (by rw [List.length_set, wipeE_length]; omega), if_neg (fun z => hl z.2), List.getElem?_eq_none (by omega)]
    · rw [List.getElem?_set_ne c, ih]
      by_cases m : i ∈ vs ∧ i < ρ.length
      · rw [if_pos m, if_pos ⟨List.mem_cons_of_mem _ m.1, m.2⟩]
      · rw [if_neg m, if_neg]
        rintro ⟨z, hl⟩
        rcases List.mem_cons.mp z with q | q
        · exact c q.symm
        · exact m ⟨q, hl⟩
theorem wipeE_sub {ρ : Env} {vs vs1 : List Nat} (h : ∀ i ∈ vs1, i ∈ vs) : wipeE (wipeE ρ vs1) vs = wipeE ρ vs := by
  apply List.ext_getElem?
  intro i
  rw [wipeE_at, wipeE_at, wipeE_at, wipeE_length]
  by_cases m : i ∈ vs ∧ i < ρ.length
  · rw [if_pos m, if_pos m]
  · rw [if_neg m, if_neg m, if_neg]
    exact fun z => m ⟨h i z.1, z.2⟩
theorem wipe_sub {σ : L2.St} {vs vs1 : List Nat} (h : ∀ i ∈ vs1, i ∈ vs) : L2.wipe (L2.wipe σ vs1) vs = L2.wipe σ vs := by
  apply List.ext_getElem?
  intro i
  rw [wipe_at, wipe_at, wipe_at, wipe_length]
  by_cases m : i ∈ vs ∧ i < σ.length
  · rw [if_pos m, if_pos m]
  · rw [if_neg m, if_neg m, if_neg]
    exact fun z => m ⟨h i z.1, z.2⟩
/-- what stands at a turn, the names at σ0 wiped of vs, the new list at D; todo: what the rest of the work gives -/
structure L2I (K : Frg) (G0 : Hp) (σ0 : L2.St) (vs : List Nat) (F1 : Fp) (G1 H1 : Hp) (D : Addr) (H : Hp) (todo : List MX.D → Env → Prop) : Prop where
  ex : ∃ (F' : Fp) (G' : Hp) (ρ' : Env) (acc : List V) (accd : List MX.D), Same G0 G' ∧ Stp F1 G1 H1 F' G' H ∧ Slots K G' H (L2.wipe σ0 vs) (wipeE ρ' vs) F' ∧ H D = some (.lst acc) ∧ G' D = none ∧ ¬ F' D ∧ RepAll K G' acc accd ∧ todo accd ρ'
section
variable {K : Frg} {W : WX} {g g1 : TG} {te : TE} {tt tt1 : TT} {me : M D} {mt mt1 : M Bool} {ms ms1 : M (List D)} {wi wi1 : TI} {bd bd1 : D → Env → Option Env} {js js1 vs vs1 : List Nat}
theorem sim_lc2 (hi : Sim K W (relJ K) wi ms) (hg : SimG K js g bd) (ht : Sim K WF relB tt mt) (hi1 : Sim K WF (relJ K) wi1 ms1) (hg1 : SimG K js1 g1 bd1) (ht1 : Sim K WF relB tt1 mt1) (he : Sim K WF (relD K) te me) (hj : ∀ j ∈ js, j ∈ vs) (hj1 : ∀ j ∈ js1, j ∈ vs1) (hv : ∀ i ∈ vs1, i ∈ vs) :
    SimN K W (tLc2 wi g tt wi1 g1 tt1 te vs vs1) (mLc2N ms vs bd mt ms1 vs1 bd1 mt1 me) := by
  intro F G H σ ρ Q e sl p
  refine hi.bindN e sl p fun J ds ρ1 F1 G1 H1 e1 s1 sl1 jk h1 => ?_
  intro D nD
  cases q : lc2M vs bd mt ms1 vs1 bd1 mt1 me ds ρ1 with
  | none => rw [q] at h1; exact h1.elim
  | some r =>
    obtain ⟨fin, ρf⟩ := r
    rw [q] at h1
    have h1' : PostN K W σ Q F1 G1 H1 (if fin.length ≤ 1000000 then ret fin (restE ρ1 vs ρf) else none) := h1
    by_cases hz : fin.length ≤ 1000000
    · rw [if_pos hz] at h1'
      have nG : G1 D = none := none_of e1 nD
      refine ⟨fun i m H => i + m = ds.length ∧ L2I K G1 σ vs F1 G1 H1 D H fun accd ρ' => ∃ rest, lc2M vs bd mt ms1 vs1 bd1 mt1 me (ds.drop i) ρ' = some (rest, ρf) ∧ fin = accd ++ rest, ⟨ds.length, by omega, ?_⟩, ?_⟩
      · have nF : Slots K G1 H1 σ ρ1 (fun a => F1 a ∧ H1 a ≠ none) := by
          obtain ⟨l, f, g1, g2, g3⟩ := sl1
          refine ⟨l, fun i a => f i a ∧ H1 a ≠ none, fun i t q => ?_, fun i j a n x y => g2 i j a n x.1 y.1, fun i a x => ⟨g3 i a x.1, x.2⟩⟩
          obtain ⟨v, e2, o⟩ := g1 i t q
          exact ⟨v, e2, o.live⟩
        have st := Stp.heap e1 nD (.lst [])
        exact ⟨fun a => F1 a ∧ H1 a ≠ none, G1, ρ1, [], [], Same.refl _, ⟨st.gg, st.gh, fun a o x _ => st.fr a o x fun z => z.elim, st.th, fun a x y => absurd x y, fun a x => .inl x.1⟩, (nF.touch (fun z => z.2 nD) nG (.lst [])).wipe vs, upd_same, nG, fun z => z.2 nD, .nil, fin, q, rfl⟩
      · rintro i m H ⟨him, ⟨F', G', ρ', acc, accd, _, st, sl', hD, nG', nF', ra, rest, hq, hf⟩⟩
        cases m with
        | zero =>
          refine .inl ⟨(jk.2 G' H i st.gg st.gh).2 (by omega), ?_⟩
          rw [List.drop_eq_nil_of_le (by omega)] at hq
          cases hq
          rw [List.append_nil] at hf
          subst hf
          exact h1' D acc F' G' H st (sl'.back sl1 st.gg) hD nG' nF' nD ra
        | succ m =>
          have hi : i < ds.length := by omega
          refine .inr ⟨((jk.2 G' H i st.gg st.gh).1 _ (List.getElem?_eq_getElem hi)).1, fun H' => (i + 1) + m = ds.length ∧ L2I K G1 σ vs F1 G1 H1 D H' fun accd ρ' => ∃ rest, lc2M vs bd mt ms1 vs1 bd1 mt1 me (ds.drop (i + 1)) ρ' = some (rest, ρf) ∧ fin = accd ++ rest, fun H' w => ⟨m, Nat.lt_succ_self m, w⟩, fun x H' hy => ?_⟩
          obtain ⟨G2, st2, rx⟩ := ((jk.2 G' H i st.gg st.gh).1 _ (List.getElem?_eq_getElem hi)).2 x H' hy
          rw [List.drop_eq_getElem_cons hi] at hq
          unfold lc2M at hq
          obtain ⟨ρ2, q1, hq⟩ := Option.bind_eq_some_iff.mp hq
          obtain ⟨⟨b, ρ3⟩, q2, hq⟩ := Option.bind_eq_some_iff.mp hq
          refine hg F' G2 H' (L2.wipe σ vs) _ ρ2 x _ _ st2.gh (sl'.pure st2) rx q1 fun σ2 sl2 l2 u2 => ?_
          have hw : L2.wipe σ2 vs = L2.wipe σ vs := by
            rw [← wipe_wipe (σ := σ)]
            exact wipe_same l2 u2 hj
          refine ⟨hw, ?_⟩
          refine ht F' G2 H' σ2 ρ2 _ st2.gh sl2 (post_ok q2 fun b' F3 G3 H3 st3 sl3 rb => ?_)
          cases (show b' = b from rb)
          have stZ : Stp F' G' H F3 G3 H3 := st2.pure.trans st3
          have dB : H3 D = some (.lst acc) := stZ.fr D _ hD nF'
          have gB : G3 D = none := by
            cases z : G3 D with
            | none => rfl
            | some u =>
              rcases stZ.gn D nG' (by rw [z]; exact fun y => nomatch y) with y | y
              · rw [hD] at y; cases y
              · exact (nF' y).elim
          have fB : ¬ F3 D := fun z => by
            rcases stZ.fn D z with y | y
            · exact nF' y
            · rw [hD] at y; cases y
          have stB : Stp F1 G1 H1 F3 G3 H3 := st.trans stZ
          cases b with
          | false =>
            rw [if_neg Bool.false_ne_true] at hq ⊢
            refine ⟨by omega, ⟨F3, G3, ρ3, acc, accd, stB.gg, stB, ?_, dB, gB, fB, ra.mono stZ.gg, rest, hq, hf⟩⟩
            rw [← hw]
            exact sl3.wipe vs
          | true =>
            rw [if_pos rfl] at hq ⊢
            obtain ⟨⟨ds1, ρ4⟩, q3, hq⟩ := Option.bind_eq_some_iff.mp hq
            obtain ⟨⟨r1, ρ5⟩, q4, hq⟩ := Option.bind_eq_some_iff.mp hq
            obtain ⟨⟨r2, ρ6⟩, q5, hq⟩ := Option.map_eq_some_iff.mp hq
            cases hq
            refine hi1 F3 G3 H3 σ2 ρ3 _ stB.gh sl3 (post_ok q3 fun J1 F4 G4 H4 st4 sl4 jk1 => ?_)
            have dC : H4 D = some (.lst acc) := st4.fr D _ dB fB
            have gC : G4 D = none := by
              cases z : G4 D with
              | none => rfl
              | some u =>
                rcases st4.gn D gB (by rw [z]; exact fun y => nomatch y) with y | y
                · rw [dB] at y; cases y
                · exact (fB y).elim
            have fC : ¬ F4 D := fun z => by
              rcases st4.fn D z with y | y
              · exact fB y
              · rw [dB] at y; cases y
            have jk1' : JOk J1 K G4 ds1 := jk1
            refine ⟨fun j k H => j + k = ds1.length ∧ L2I K G4 σ2 vs1 F1 G1 H1 D H fun accd ρ' => ∃ rest1, lcM vs1 bd1 mt1 me (ds1.drop j) ρ' = some (rest1, ρ5) ∧ fin = accd ++ rest1 ++ r2, ⟨ds1.length, by omega, F4, G4, ρ4, acc, accd, Same.refl _, stB.trans st4, sl4.wipe vs1, dC, gC, fC, ra.mono (stZ.gg.trans st4.gg), r1, q4, by rw [hf, List.append_assoc]⟩, ?_⟩
            rintro j k H5 ⟨hjk, ⟨F5, G5, ρ', acc1, accd1, gg5, st5, sl5, hD5, nG5, nF5, ra5, rest1, hq5, hf5⟩⟩
            cases k with
            | zero =>
              refine .inl ⟨(jk1'.2 G5 H5 j gg5 st5.gh).2 (by omega), by omega, ?_⟩
              rw [List.drop_eq_nil_of_le (by omega)] at hq5
              cases hq5
              rw [List.append_nil] at hf5
              refine ⟨F5, G5, ρ5, acc1, accd1, st5.gg, st5, ?_, hD5, nG5, nF5, ra5, r2, q5, hf5⟩
              have z := sl5.wipe vs
              rw [wipe_sub hv, wipeE_sub hv, hw] at z
              exact z
            | succ k =>
              have hj' : j < ds1.length := by omega
              refine .inr ⟨((jk1'.2 G5 H5 j gg5 st5.gh).1 _ (List.getElem?_eq_getElem hj')).1, fun H' => (j + 1) + k = ds1.length ∧ L2I K G4 σ2 vs1 F1 G1 H1 D H' fun accd ρ' => ∃ rest1, lcM vs1 bd1 mt1 me (ds1.drop (j + 1)) ρ' = some (rest1, ρ5) ∧ fin = accd ++ rest1 ++ r2, fun H' w => ⟨k, Nat.lt_succ_self k, w⟩, fun x H6 hy => ?_⟩
              obtain ⟨G6, st6, rx6⟩ := ((jk1'.2 G5 H5 j gg5 st5.gh).1 _ (List.getElem?_eq_getElem hj')).2 x H6 hy
              rw [List.drop_eq_getElem_cons hj'] at hq5
              unfold lcM at hq5
              obtain ⟨ρ7, w1, hq5⟩ := Option.bind_eq_some_iff.mp hq5
              obtain ⟨⟨b1, ρ8⟩, w2, hq5⟩ := Option.bind_eq_some_iff.mp hq5
              refine hg1 F5 G6 H6 (L2.wipe σ2 vs1) _ ρ7 x _ _ st6.gh (sl5.pure st6) rx6 w1 fun σ3 sl7 l7 u7 => ?_
              have hw1 : L2.wipe σ3 vs1 = L2.wipe σ2 vs1 := by
                rw [← wipe_wipe (σ := σ2)]
                exact wipe_same l7 u7 hj1
              refine ⟨hw1, ?_⟩
              refine ht1 F5 G6 H6 σ3 ρ7 _ st6.gh sl7 (post_ok w2 fun b' F8 G8 H8 st8 sl8 rb8 => ?_)
              cases (show b' = b1 from rb8)
              have stY : Stp F5 G5 H5 F8 G8 H8 := st6.pure.trans st8
              have d8 : H8 D = some (.lst acc1) := stY.fr D _ hD5 nF5
              have g8 : G8 D = none := by
                cases z : G8 D with
                | none => rfl
                | some u =>
                  rcases stY.gn D nG5 (by rw [z]; exact fun y => nomatch y) with y | y
                  · rw [hD5] at y; cases y
                  · exact (nF5 y).elim
              have f8 : ¬ F8 D := fun z => by
                rcases stY.fn D z with y | y
                · exact nF5 y
                · rw [hD5] at y; cases y
              cases b1 with
              | false =>
                rw [if_neg Bool.false_ne_true] at hq5 ⊢
                refine ⟨by omega, F8, G8, ρ8, acc1, accd1, gg5.trans stY.gg, st5.trans stY, ?_, d8, g8, f8, ra5.mono stY.gg, rest1, hq5, hf5⟩
                rw [← hw1]
                exact sl8.wipe vs1
              | true =>
                rw [if_pos rfl] at hq5 ⊢
                obtain ⟨⟨y, ρ9⟩, w3, hq5⟩ := Option.bind_eq_some_iff.mp hq5
                obtain ⟨⟨r9, ρ10⟩, w4, hq5⟩ := Option.map_eq_some_iff.mp hq5
                cases hq5
                refine he F8 G8 H8 σ3 ρ8 _ (st5.trans stY).gh sl8 (post_ok w3 fun v F9 G9 H9 st9 sl9 rv => ?_)
                have d9 : H9 D = some (.lst acc1) := st9.fr D _ d8 f8
                have g9 : G9 D = none := by
                  cases z : G9 D with
                  | none => rfl
                  | some u =>
                    rcases st9.gn D g8 (by rw [z]; exact fun y => nomatch y) with y | y
                    · rw [d8] at y; cases y
                    · exact (f8 y).elim
                have f9 : ¬ F9 D := fun z => by
                  rcases st9.fn D z with y | y
                  · exact f8 y
                  · rw [d8] at y; cases y
                have la : acc1.length < 1000000 := by
                  have z := congrArg List.length hf5
                  simp only [List.length_append, List.length_cons] at z
                  rw [ra5.1]
                  omega
                have st10 := (st5.trans stY).trans st9
                refine ⟨acc1, d9, line_lt la, by omega, F9, G9, ρ9, acc1 ++ [v], accd1 ++ [y], gg5.trans (stY.gg.trans st9.gg), st10.touch nD g9, ?_, upd_same, g9, f9, (ra5.mono (stY.gg.trans st9.gg)).append (.cons rv .nil), r9, w4, by rw [hf5]; simp⟩
                rw [← hw1]
                exact (sl9.wipe vs1).touch f9 g9 _
    · rw [if_neg hz] at h1'
      exact h1'.elim
end
theorem Src.pi' {X : Cx} {W : WX} {tg iter : Expr} {wi : TI} {m : M (List D)} (h : Src X W tg iter wi m) : PI X tg iter wi := h.pi
def tiMir (K : Frg) (m : M (List D)) : TI := fun σ H R => ∃ (F : Fp) (G : Hp) (ρ : Env), Same G H ∧ Slots K G H σ ρ F ∧ Post K WF σ (relJ K) (fun b _ _ _ _ H' => R b H') F G H (m ρ)
section
variable {X : Cx} {W : WX} {tg tg1 iter iter1 e : Expr} {ifs ifs1 : List Expr} {me : M D} {mt mt1 : M Bool} {ms ms1 : M (List D)} {wi wi1 : TI} {pos : Pos} {js js1 vs1 : List Nat} {bd bd1 : D → Env → Option Env}
theorem Src.mir (h : ∃ wi, Src X WF tg iter wi ms) : Src X WF tg iter (tiMir X.K ms) ms := by
  obtain ⟨wi, h⟩ := h
  exact ⟨⟨fun pins s σ H R I ⟨F, G, ρ, e1, sl, p⟩ => h.pi.run pins s σ H R I (h.sim F G H σ ρ R e1 sl p)⟩, fun F G H σ ρ R e1 sl p => ⟨F, G, ρ, e1, sl, p⟩⟩
theorem Nw.lc2E {scope : Scope} {own : List (Str × Nat)} (hc : X.calm = true) (hN : X.N.Nodup) (hi : Src X W tg iter wi ms) (ok : BlkOk X.N X.env.scope scope own) (hv : ∀ i ∈ vs1, i ∈ own.map (·.2))
    (hg : ∀ (s : Shared) (H : Hp) (C : Addr) (cl : List (Str × Addr)) (fp : List Addr), ∃ g, Tg (X.blk s H scope (compEnvC scope cl C X.env) fp) tg js g bd)
    (ht : ∀ (s : Shared) (H : Hp) (C : Addr) (cl : List (Str × Addr)) (fp : List Addr), ∃ tt, Ts (X.blk s H scope (compEnvC scope cl C X.env) fp) WF ifs tt mt)
    (hi1 : ∀ (s : Shared) (H : Hp) (C : Addr) (cl : List (Str × Addr)) (fp : List Addr), ∃ wi1, Src (X.blk s H scope (compEnvC scope cl C X.env) fp) WF tg1 iter1 wi1 ms1)
    (hg1 : ∀ (s : Shared) (H : Hp) (C : Addr) (cl : List (Str × Addr)) (fp : List Addr), ∃ g, Tg (X.blk s H scope (compEnvC scope cl C X.env) fp) tg1 js1 g bd1)
    (ht1 : ∀ (s : Shared) (H : Hp) (C : Addr) (cl : List (Str × Addr)) (fp : List Addr), ∃ tt, Ts (X.blk s H scope (compEnvC scope cl C X.env) fp) WF ifs1 tt mt1)
    (he : ∀ (s : Shared) (H : Hp) (C : Addr) (cl : List (Str × Addr)) (fp : List Addr), ∃ te, Ex (X.blk s H scope (compEnvC scope cl C X.env) fp) WF e te me)
    (hj : ∀ j ∈ js, j ∈ own.map (·.2)) (hj1 : ∀ j ∈ js1, j ∈ vs1) (hs : ∀ x, foldedSetIterable iter X.env x = pure x := by intro _; rfl) (hs1 : ∀ env x, foldedSetIterable iter1 env x = pure x := by intro _ _; rfl) :
    Nw X W (.ListComp e [⟨tg, iter, ifs, 0⟩, ⟨tg1, iter1, ifs1, 0⟩] scope pos) (tLc2 wi (gMir X.K js bd) (tMirB X.K mt) (tiMir X.K ms1) (gMir X.K js1 bd1) (tMirB X.K mt1) (tMir X.K me) (own.map (·.2)) vs1) (mLc2N ms (own.map (·.2)) bd mt ms1 vs1 bd1 mt1 me) :=
  ⟨pe_lc2 hc hN hi.pi ok hv (fun s H C cl fp => (Tg.mir (hg s H C cl fp)).pg) (fun s H C cl fp => (Ts.mir (ht s H C cl fp)).pt) (fun s H C cl fp => (Src.mir (hi1 s H C cl fp)).pi) (fun s H C cl fp => (Tg.mir (hg1 s H C cl fp)).pg) (fun s H C cl fp => (Ts.mir (ht1 s H C cl fp)).pt) (fun s H C cl fp => (Ex.mir (he s H C cl fp)).pe) hs hs1,
    sim_lc2 hi.sim (Tg.mir (hg X.s_0 X.H_0 0 [] [])).sim (Ts.mir (ht X.s_0 X.H_0 0 [] [])).sim (Src.mir (hi1 X.s_0 X.H_0 0 [] [])).sim (Tg.mir (hg1 X.s_0 X.H_0 0 [] [])).sim (Ts.mir (ht1 X.s_0 X.H_0 0 [] [])).sim (Ex.mir (he X.s_0 X.H_0 0 [] [])).sim hj hj1 hv⟩
end
end MX

namespace MX
open PySem PySem.Spec PyProof.Rows L2
/-! ### t.index(x), t a tuple of ints -/
def rTIdx (K : Frg) : V → List V → Hp → VK → Prop := fun x xs H Q => ∃ p, ∃ ys : List Int, ∃ z j, x = .ref p ∧ xs = [.int z] ∧ SqT K H p (ys.map V.int) ∧ ys[j]? = some z ∧ (∀ m, m < j → ys[m]? ≠ some z) ∧ Q (.int (j : Nat)) H
section
variable {X : Cx}
theorem flat_intsV (ys : List Int) : (ys.map V.int).all flatV = true := by
  rw [List.all_map]
  exact List.all_eq_true.mpr fun _ _ => rfl
theorem mt_tidx : MtR X "tuple.index" (rTIdx X.K) := by
  intro pins s σ H x xs v us Q I rx rs h
  obtain ⟨p, ys, z, j, rfl, rfl, hq, hy, hno, q⟩ := h
  cases rx
  obtain ⟨u, rfl, t, rfl⟩ := vals1 rs
  obtain ⟨its, r, pl, hz⟩ := I.tuple hq
  obtain ⟨⟨cls, dd, dt, sl⟩, ho, hc, n, hd⟩ := pl
  simp only at hc hd
  subst hc
  subst hd
  have hl : its.toArray.size = ys.length := by rw [List.size_toArray, ← r.length, List.length_map]
  have hj : j < its.toArray.size := by rw [hl]; exact (List.getElem?_eq_some_iff.mp hy).1
  have stands : ∀ (m : Nat) (hm : m < its.toArray.size), ∃ y t', ys[m]? = some y ∧ its.toArray[m] = Value.int y t' := fun m hm => by
    have hm' : m < ys.length := by rw [← hl]; exact hm
    obtain ⟨w, hw, t', hw'⟩ := r.get (i := m) (x := .int ys[m]) (by simp [hm'])
    refine ⟨ys[m], t', List.getElem?_eq_getElem hm', ?_⟩
    have ew := (List.getElem?_eq_some_iff.mp hw).2
    rw [← hw', ← ew]
    simp
  refine call_meets PySem.F.slot_tuple_index ⟨_, ho, rfl⟩ PySem.F.entry_tuple_index (PySem.F.args_tuple_index_2 _ _) (TI.tuple_indexAt p its.toArray n dd sl (.int z t) (eqU (.int z)) j hj ?_ ?_)
    ⟨ho, fun w hw => mem_eqAt (x := .int z) ⟨t, rfl⟩ rfl r (flat_intsV ys) w (by simpa using hw), ⟨.int (j : Nat), H, I.tok _, ⟨_, rfl⟩, q⟩⟩
  · obtain ⟨y, t', h1, h2⟩ := stands j hj
    rw [hy] at h1
    cases h1
    rw [h2]
    show (z == z) = true
    exact beq_self_eq_true z
  · intro m hm hmj
    obtain ⟨y, t', h1, h2⟩ := stands m hm
    rw [h2]
    have ne : y ≠ z := fun e => hno m hmj (by rw [h1, e])
    first
      | (show (y == z) = false; exact beq_eq_false_iff_ne.mpr ne)
      | (show (z == y) = false; exact beq_eq_false_iff_ne.mpr fun e => ne e.symm)
end
def firstAt (z : Int) : List Int → Nat → Option Nat
  | [], _ => none
  | y :: r, k => if y = z then some k else firstAt z r (k + 1)
theorem firstAt_ok {z : Int} : ∀ {ys : List Int} {k j : Nat}, firstAt z ys k = some j → ∃ i, j = k + i ∧ ys[i]? = some z ∧ ∀ m, m < i → ys[m]? ≠ some z
  | [], k, j, h => by cases h
  | y :: r, k, j, h => by
    unfold firstAt at h
    by_cases c : y = z
    · rw [if_pos c] at h; cases h
      exact ⟨0, rfl, by rw [c]; rfl, fun m hm => absurd hm (by omega)⟩
    · rw [if_neg c] at h
      obtain ⟨i, h1, h2, h3⟩ := firstAt_ok h
      refine ⟨i + 1, by omega, by simpa using h2, fun m hm => ?_⟩
      cases m with
      | zero => simpa using c
      | succ m => simpa using h3 m (by omega)
def tidxD : D → D → Option D
  | .tupx ds, .int z => (intsD ds).bind fun ys => (firstAt z ys 0).map fun j => .int (j : Nat)
  | _, _ => none
def mTIdx (mo me : M D) : M D := fun ρ => bnd (mo ρ) fun d ρ1 => match d with
  | .tupx ds => bnd (me ρ1) fun k ρ2 => retO (tidxD (.tupx ds) k) ρ2
  | _ => none
/-- the value is a tuple whose object is known -/
def kTup (x : V) (H : Hp) : Prop := ∃ a o vs, x = .ref a ∧ H a = some (.frz o (.tup vs)) ∧ o.cls = .type "tuple" ∧ o.dict = none
def tTM (r : V → List V → Hp → VK → Prop) (to : TE) (t : TA) : TE := fun σ H Q => to σ H fun x H1 => kTup x H1 ∧ t σ H1 fun xs H2 => r x xs H2 Q
section
variable {X : Cx} {W : WX} {o e : Expr} {to te : TE} {mo me : M D} {t : TA} {name : Str} {id : String} {r : V → List V → Hp → VK → Prop}
theorem pe_tm {es : List Expr} {apos cpos : Pos} (pa : PlainAttrs "tuple") (slot : Slot "tuple" name id) (hty : typeOf (.builtin id) = pure (.type "method_descriptor")) (hm : MtR X id r) (ho : PE X o to) (ha : PA X (e :: es) t)
    (hbase : attributeBase o name X.env (eval o X.env) = eval o X.env) (hfew : ((backTo cpos (starEach (e :: es) X.env)).all (fun x => !x.1) && (backToKw cpos (keywordEach [] X.env)).all (fun x => x.1.isSome) && decide ((e :: es).length + ([] : List Keyword).length + (if ([] : List Keyword).isEmpty then 0 else 1) < 30)) = true)
    (hline : (apos.endLine == cpos.line) = true) (hs : starEach (e :: es) X.env = (false, eval e X.env) :: starEach es X.env) (hplain : (backTo cpos (starEach es X.env)).any (·.1) = false) :
    PE X (.Call (.Attribute o name apos) (e :: es) [] cpos) (tTM r to t) := by
  refine ⟨fun pins s σ H Q I h => ?_⟩
  refine wpAny_Call_method_late hbase hfew hline rfl (thn (ho.run pins s σ H _ I h) fun v s1 ⟨x, H1, I1, r1, ty, q1⟩ => ?_)
  obtain ⟨a, ob, vs, rfl, ea, c, z⟩ := ty
  have r1' := r1
  obtain rfl : v = Value.ref a := r1
  obtain ⟨g, _⟩ := (show ObjOk X.prog X.w H1 s1.heap a (.frz ob (.tup vs)) from I1.hok a _ ea)
  refine ⟨"tuple", id, pa, slot, hty, ⟨ob, g, c⟩, fun b hb => ⟨ob, by cases hb; exact g, z⟩, ?_⟩
  have hA := ha.run cpos pins s1 σ H1 _ I1 q1
  rw [hs] at hA ⊢
  refine Calls.callWith_builtin (by show (false || (backTo cpos (starEach es X.env)).any (·.1)) = false; rw [hplain] <;> rfl) (Calls.evalArgs_plain ?_)
  exact thn hA fun us s2 ⟨ws, H2, I2, r2, q2⟩ => hm pins s2 σ H2 _ ws _ us Q I2 r1' r2 q2
theorem Ex.tidx {apos cpos : Pos} (ho : Ex X W o to mo) (h : Ex X W e te me)
    (hbase : attributeBase o "index" X.env (eval o X.env) = eval o X.env := by rfl)
    (hfew : ((backTo cpos (starEach (e :: []) X.env)).all (fun x => !x.1) && (backToKw cpos (keywordEach [] X.env)).all (fun x => x.1.isSome) && decide ((e :: ([] : List Expr)).length + ([] : List Keyword).length + (if ([] : List Keyword).isEmpty then 0 else 1) < 30)) = true := by rfl)
    (hline : (apos.endLine == cpos.line) = true := by rfl) (hs : starEach (e :: []) X.env = (false, eval e X.env) :: starEach [] X.env := by rfl) (hpl : (backTo cpos (starEach [] X.env)).any (·.1) = false := by rfl) :
    Ex X W (.Call (.Attribute o "index" apos) [e] [] cpos) (tTM (rTIdx X.K) to (tCons te tNil)) (mTIdx mo me) := by
  refine ⟨pe_tm PySem.F.plainAttrs_tuple PySem.F.slot_tuple_index PySem.F.type_tuple_index mt_tidx ho.pe (pa_cons h.pe pa_nil hs) hbase hfew hline hs hpl, fun F G H σ ρ Q e sl p => ?_⟩
  unfold mTIdx at p
  refine ho.sim F G H σ ρ _ e sl ?_
  revert p
  cases mo ρ with
  | none => exact fun p => p
  | some rr =>
    obtain ⟨rr, ρ1⟩ := rr
    cases rr with
    | exc C fs => exact fun p => p
    | ok d =>
      intro p v F1 G1 H1 st sl1 r
      cases d with
      | tupx ds =>
        have h1 := Post.mono st (show Post X.K W σ (relD X.K) (fun b _ _ _ _ H' => Q b H') F G H (bnd (me ρ1) fun b ρ2 => MX.retO (tidxD (.tupx ds) b) ρ2) from p)
        cases r with
        | tupx s c z l rr =>
          refine ⟨⟨_, _, _, rfl, st.gh _ _ s, c, z⟩, ?_⟩
          refine h.sim.bind st.gh sl1 h1 fun y k ρ2 F2 G2 H2 e2 s2 sl2 rk h2 => ?_
          obtain ⟨x, hx, h3⟩ := h2.retO
          cases k with
          | int w =>
            cases rk
            obtain ⟨ys, q1, hx⟩ := Option.bind_eq_some_iff.mp (show (intsD ds).bind (fun ys => (firstAt w ys 0).map fun j => D.int (j : Nat)) = some x from hx)
            obtain ⟨j, q2, rfl⟩ := Option.map_eq_some_iff.mp hx
            have ra : RepAll X.K G1 _ ds := ⟨l, rr⟩
            rw [intsD_eq q1] at ra
            have := repAll_ints ra
            subst this
            obtain ⟨i, h4, h5, h6⟩ := firstAt_ok q2
            rw [Nat.zero_add] at h4
            subst h4
            exact ⟨_, ys, w, j, rfl, rfl, .inl (rd_mono e2 (rd_mono s2.gg (.inr ⟨_, s⟩))), h5, h6, h3 _ F2 G2 H2 (.refl e2) sl2 (.int _)⟩
          | _ => cases hx
      | _ => exact p.elim
end
/-! ### list(range(n)), a row of one's own -/
def mLRngN (m : M D) : M (List D) := fun ρ => bnd (m ρ) fun d ρ1 => match d with
  | .int j => if j ≤ 1000000 ∧ -1000000 ≤ j then ret (rngL 0 j.toNat) ρ1 else none
  | _ => none
section
variable {X : Cx} {W : WX} {a : Expr} {te : TE} {me : M D} {pos : Pos}
theorem Nw.listRng1 {p pos2 p2 : Pos} (hc : X.calm = true) (hm : X.mg "list" = none) (hm2 : X.mg "range" = none) (h : Ex X W a te me) (hg : Gl X "list" := by rfl) (hg2 : Gl X "range" := by rfl)
    (na : starEach [a] X.env = (false, eval a X.env) :: starEach [] X.env := by rfl) (na2 : starEach [.Call (.Name "range" p2) [a] [] pos2] X.env = (false, eval (.Call (.Name "range" p2) [a] [] pos2) X.env) :: starEach [] X.env := by rfl) :
    Nw X W (.Call (.Name "list" p) [.Call (.Name "range" p2) [a] [] pos2] [] pos) (tLstRg (tRg1 te)) (mLRngN me) := by
  refine ⟨pe_listRg hc hg hm (prg_1 hg2 hm2 h.pe na) na2, fun F G H σ ρ Q e sl p => ?_⟩
  refine h.sim.bindN e sl p fun v d ρ1 F1 G1 H1 e1 s1 sl1 r h1 => ?_
  cases d with
  | int j =>
    cases r
    have h2 : PostN X.K W σ Q F1 G1 H1 (if j ≤ 1000000 ∧ -1000000 ≤ j then MX.ret (rngL 0 j.toNat) ρ1 else none) := h1
    split at h2
    · rename_i hb
      refine ⟨j, rfl, ⟨by omega, by omega, by omega, by omega, by omega⟩, fun q nq => ?_⟩
      have nF : Slots X.K G1 H1 σ ρ1 (fun a => F1 a ∧ H1 a ≠ none) := by
        obtain ⟨l, f, g1, g2, g3⟩ := sl1
        refine ⟨l, fun i a => f i a ∧ H1 a ≠ none, fun i t q => ?_, fun i j a n x y => g2 i j a n x.1 y.1, fun i a x => ⟨g3 i a x.1, x.2⟩⟩
        obtain ⟨v, e2, o⟩ := g1 i t q
        exact ⟨v, e2, o.live⟩
      have st := Stp.heap e1 nq (.lst (rgV 0 j))
      refine h2 q (rgV 0 j) (fun a => F1 a ∧ H1 a ≠ none) G1 _ ⟨st.gg, st.gh, fun a o x _ => st.fr a o x fun z => z.elim, st.th, fun a x y => absurd x y, fun a x => .inl x.1⟩ (nF.touch (fun z => z.2 nq) (none_of e1 nq) _) upd_same (none_of e1 nq) (fun z => z.2 nq) nq ?_
      unfold rgV rngL
      rw [show (j - 0).toNat = j.toNat by omega]
      refine ⟨by simp, fun i v d a b => ?_⟩
      rw [List.getElem?_map] at a b
      cases z : (List.range j.toNat)[i]? with
      | none => rw [z] at a; cases a
      | some k => rw [z] at a b; cases a; cases b; exact .int _
    · exact h2.elim
  | _ => exact h1.elim
end
end MX

namespace MX
open PySem PySem.Spec PyProof.Rows L2
/-! ### set(t), t a tuple of tuples of ints -/
abbrev mtS (w : World) : Obj := { cls := .type "set", dict := none, data := .set #[] 0 (.fresh 0 0 (!w.params.followText "set-order")) }
abbrev hpS (w : World) (s : Shared) : Heap := s.heap.push (mtS w)
section
variable {P : Program} {w : World} {A : Around} {E : Value → Shared → Prop} {s : Shared}
theorem set_of_tupT {t : Addr} {xs : Array Value} (ks : List (Addr × List Int)) {Q : Value → Shared → Prop} (hd : A.handled = none) (ht : s.heap.IsTuple t xs) (hx : xs.toList = ks.map fun p => Value.ref p.1) (hk : ∀ p ∈ ks, IsT P w s.heap p.2 p.1) (few : ks.length < 64) (hu : A.units + 3 < cLine)
    (h : ∀ (h' : Heap) (tk : Nat) L es ep tb, SetTR P w h' s.heap.objs.size L es ep tb → Got ks ks.length L → (∀ b o, s.heap.get? b = some o → h'.get? b = some o) → Q (.ref s.heap.objs.size) { s with heap := h', toks := tk }) : wpAny (model P w) A (call (.type "set") [.ref t]) Q E s := by
  have sz : xs.size = ks.length := by
    have z := congrArg List.length hx
    simpa using z
  obtain ⟨c, tl, hmro⟩ := F.called_set.mro
  have k1 := F.called_set.made
  have k2 := F.called_set.sub
  refine wpAny_call (codeAny_of_tree (show wpAny _ _ (callAny (.type "set") _) _ _ _ from wpAny_pure ⟨Code.quiet_builtin _ (by decide +kernel), codeAny_builtin F.entry_type_call ?_⟩))
  rw [Around.under_plain (weight_type_call_type "set" [.ref t] []) rfl]
  have k3 := F.called_set.notType
  have k4 := F.called_set.canCreate
  have k5 := F.typeCall_set_1 (.ref t)
  repeat (any_goals (first | assumption | wp_step))
  refine codeAny_mono (code_set_led1 (.ref t) (E := E) (Q₁ := fun u s₁ => u = .ref s.heap.objs.size ∧ s₁ = { s with heap := hpS w s }) ⟨rfl, rfl⟩) fun r s₁ hr => ?_
  match r, hr with
  | .error e, hr => exact hr
  | .ok (.ret u), hr =>
    obtain ⟨rfl, rfl⟩ := hr
    have gS : (hpS w s).get? s.heap.objs.size = some (mtS w) := Heap.get?_push_size _ rfl
    have tS : Shared.TypeIs { s with heap := hpS w s } (.ref s.heap.objs.size) "set" := ⟨_, gS, rfl⟩
    have k6 := F.called_set.init.lookup
    have k7 := F.called_set.init.bind (.ref s.heap.objs.size)
    repeat (any_goals (first | assumption | wp_step))
    refine codeAny_mono (codeAny_call_builtin (R := wants (fun r s₂ => r = .none ∧ ∃ h' tk L es ep tb, s₂ = { s with heap := h', toks := tk } ∧ SetTR P w h' s.heap.objs.size L es ep tb ∧ Got ks ks.length L ∧ (∀ b o, s.heap.get? b = some o → h'.get? b = some o)) E) F.called_set.init.plain F.entry_set_init (check_set_init_1 tS ?_)) fun r₂ s₂ hr₂ => ?_
    · obtain ⟨⟨cl, di, da, sl⟩, go, q1, n1, q2⟩ := ht
      simp only at q1 q2
      subst q1
      subst q2
      have go1 : (hpS w s).get? t = some { cls := .type "tuple", dict := di, data := .seq xs n1, slots := sl } := Heap.get?_push_of_some _ go
      have k8 := F.sub_tuple_set
      have k9 := F.sub_tuple_frozenset
      have k10 : (Value.type "tuple" == Value.type "dict") = false := by decide
      have it1 : (hpS w s).IsTuple t xs := ⟨_, go1, rfl, n1, rfl⟩
      unfold Builtin.«set.__init__» noKeywords Builtin.Frozenset.updateFrom
      generalize hPI : pyIter = PI
      wp_walk
      subst hPI
      refine wpAny_pyIter_tuple it1 (wpAny_bind (wpAny_runValue ?_))
      have lt : t < s.heap.objs.size := Heap.lt_size go
      have hd3 : A.in1.in1.in1.handled = none := by simp [hd]
      have sz1 : (hpS w s).objs.size = s.heap.objs.size + 1 := Heap.size_push ..
      have nI : t ≠ (hpS w s).objs.size := by rw [sz1]; exact Nat.ne_of_lt (Nat.lt_succ_of_lt lt)
      have nF : s.heap.objs.size ∉ [(hpS w s).objs.size, t] := by
        rw [sz1]
        intro z
        simp only [List.mem_cons, List.not_mem_nil, or_false] at z
        rcases z with z | z
        · exact absurd z (Nat.ne_of_lt (Nat.lt_succ_self _))
        · exact absurd z.symm (Nat.ne_of_lt lt)
      have val : ∀ (i : Nat) (v : Value), xs[i]? = some v → ∃ p, ks[i]? = some p ∧ v = .ref p.1 := fun i v hv => by
        rw [← Array.getElem?_toList, hx, List.getElem?_map] at hv
        obtain ⟨p, e1, e2⟩ := Option.map_eq_some_iff.mp hv
        exact ⟨p, e1, e2.symm⟩
      have far : ∀ b, s.heap.objs.size ≤ b → s.heap.get? b = none := fun b hb => by
        cases q : s.heap.get? b with
        | none => rfl
        | some o => exact absurd (Heap.lt_size q) (Nat.not_lt_of_le hb)
      refine set_update_tups ((Walks.tuple hd3 _ t nI xs).toS) s.heap.objs.size nF ks sz few val s.heap hk (far _ (Nat.le_refl _)) (fun b hb => far b (by rw [List.mem_singleton.mp hb, sz1]; exact Nat.le_succ _)) hu (xs.size - 0) 0 _ (by omega) (Nat.zero_le _)
        ⟨⟨_, Heap.get?_push_size _ rfl, rfl, rfl⟩, (it1.push _)⟩ (fun b o e => Heap.get?_push_of_some _ (Heap.get?_push_of_some _ e)) ?st ?fin
      case st => exact ⟨[], #[], 0, _, setTR_fresh (Heap.get?_push_of_some _ gS), Got.zero ks⟩
      case fin =>
        rintro ⟨h', g2, d', tk', os'⟩ L es ep tb hm hS' g' hkp
        obtain rfl : g2 = s.gens := hm.gens
        obtain rfl : d' = s.drawn := hm.drawn
        obtain rfl : os' = s.os := hm.os
        show wpAny _ _ _ _ _ _
        refine wpAny_pure ?_
        show wpAny _ _ (PySem.ret Value.none) _ _ _
        rw [sz] at g'
        exact wpAny_pure ⟨rfl, h', tk', L, es, ep, tb, rfl, hS', g', hkp⟩
    · match r₂, hr₂ with
      | .error e, hr₂ => exact hr₂
      | .ok (.ret u), hr₂ =>
        obtain ⟨rfl, h', tk, L, es, ep, tb, rfl, hS', g', hk'⟩ := hr₂
        repeat (any_goals (first | assumption | wp_step))
        exact h _ _ _ _ _ _ hS' g' hk'
end
section
variable {X : Cx}
def rSetOfTT (K : PySem.W.Frag) (P : Program) (w : World) : List V → Hp → VK → Prop := fun xs H Q => ∃ (t : Addr) (ks : List (Addr × List Int)), xs = [V.ref t] ∧ SqT K H t (ks.map fun p => V.ref p.1) ∧ (∀ p ∈ ks, SqT K H p.1 (p.2.map V.int)) ∧ ks.length < 64 ∧
  ∀ a L, H a = none → (∀ p ∈ L, p ∈ ks) → (∀ p ∈ ks, p.2 ∈ L.map (·.2)) → Q (.ref a) (upd H a (SetTO P w a L))
theorem cr_setOfTT (hc : X.calm = true) (hu : X.A.units + 64 < cLine) : CallR X (.type "set") (rSetOfTT X.K X.prog X.w) := by
  intro pins s σ H xs us Q I r h
  obtain ⟨t, ks, rfl, hl, hk, hf, q⟩ := h
  rw [Vals.ref1 r]
  obtain ⟨its, rv, pl, hz⟩ := I.tuple hl
  have nw : H s.heap.objs.size = none := I.hok.fresh (Nat.le_refl _)
  refine set_of_tupT (P := X.prog) (w := X.w) ks (I.ok.hd hc) (show s.heap.IsTuple t its.toArray from pl) (by simpa using refs_of_vals rv) (fun p hp => I.isT (hk p hp)) hf (by omega) fun h' tk L es ep tb R g k => ?_
  exact ⟨.ref s.heap.objs.size, upd H s.heap.objs.size (SetTO X.prog X.w s.heap.objs.size L), I.laid (t' := tk) k (Nat.le_refl _) (setTO_new R.t0), rfl, q _ L nw (fun p hp => List.mem_of_mem_take (g.sub p hp)) fun p hp => g.all p (by rw [List.take_length]; exact hp)⟩
/-- set(x), x a list or a tuple -/
def rSetAny (K : PySem.W.Frag) (P : Program) (w : World) : List V → Hp → VK → Prop := fun xs H Q => ∃ (t : Addr) (ks : List (Addr × List Int)), xs = [V.ref t] ∧ (SqL K H t (ks.map fun p => V.ref p.1) ∨ SqT K H t (ks.map fun p => V.ref p.1)) ∧ (∀ p ∈ ks, SqT K H p.1 (p.2.map V.int)) ∧ ks.length < 64 ∧
  ∀ a L, H a = none → (∀ p ∈ L, p ∈ ks) → (∀ p ∈ ks, p.2 ∈ L.map (·.2)) → Q (.ref a) (upd H a (SetTO P w a L))
theorem cr_setAny (hc : X.calm = true) (hu : X.A.units + 64 < cLine) : CallR X (.type "set") (rSetAny X.K X.prog X.w) := by
  intro pins s σ H xs us Q I r h
  obtain ⟨t, ks, rfl, hl, hk, hf, q⟩ := h
  rcases hl with hl | hl
  · exact cr_setOfT hc hu pins s σ H _ us Q I r ⟨t, ks, rfl, hl, hk, hf, q⟩
  · exact cr_setOfTT hc hu pins s σ H _ us Q I r ⟨t, ks, rfl, hl, hk, hf, q⟩
def setSrcD : D → Option (List D)
  | .lst ds => some ds
  | .scr ns => some (ns.map .int)
  | .tup ds => some ds
  | _ => none
theorem setSrc_rep {K : Frg} {G H : Hp} (e : Same G H) {v : V} {d : D} {ds : List D} (r : Rep K G v d) (h : setSrcD d = some ds) : ∃ l vs, v = V.ref l ∧ (SqL K H l vs ∨ SqT K H l vs) ∧ RepAll K G vs ds := by
  cases d with
  | lst ds' =>
    cases h
    obtain ⟨a, vs, rfl, s, rr⟩ := repAll_of_lst r
    exact ⟨a, vs, rfl, .inl (SqL.of (e _ _ s)), rr⟩
  | scr ns =>
    cases h
    cases r with
    | scr s => exact ⟨_, ns.map V.int, rfl, .inl (sqL_mono e s), ints_repAll ns⟩
  | tup ds' =>
    cases h
    obtain ⟨a, vs, rfl, s, rr⟩ := tup_of r
    exact ⟨a, vs, rfl, .inr (SqT.of (e _ _ s)), rr⟩
  | _ => cases h
def mSortSetD (m : M D) : M D := fun ρ => bnd (m ρ) fun d ρ1 => retO ((setSrcD d).bind sortedSetS) ρ1
variable {W : WX} {a e : Expr} {te : TE} {me : M D} {pos : Pos}
theorem Ex.sortSetD {p p2 q : Pos} (hc : X.calm = true) (hu : X.A.units + 64 < cLine) (hm : X.mg "sorted" = none) (hm2 : X.mg "set" = none) (h : Ex X W a te me) (hg : Gl X "sorted" := by rfl) (hg2 : Gl X "set" := by rfl)
    (na : starEach [a] X.env = (false, eval a X.env) :: starEach [] X.env := by rfl) (na2 : starEach [.Call (.Name "set" p2) [a] [] q] X.env = (false, eval (.Call (.Name "set" p2) [a] [] q) X.env) :: starEach [] X.env := by rfl)
    (hp1 : (backTo pos (starEach [] X.env)).any (·.1) = false := by rfl) (hp2 : (backTo q (starEach [] X.env)).any (·.1) = false := by rfl) :
    Ex X W (.Call (.Name "sorted" p) [.Call (.Name "set" p2) [a] [] q] [] pos) (tCB (rSortedT X.K X.prog X.w) (tCons (tCB (rSetAny X.K X.prog X.w) (tCons te tNil)) tNil)) (mSortSetD me) := by
  refine ⟨pe_callB (cr_sortedT hc) hg hm PyProof.Rows.boot_sorted (pa_cons (pe_callTy (cr_setAny hc hu) hg2 hm2 PyProof.Rows.boot_set (pa_cons h.pe pa_nil na) (by decide) (by decide) na hp2) pa_nil na2) (by decide) (by decide) na2 hp1, fun F G H σ ρ Q e sl pp => ?_⟩
  refine h.sim.bind e sl pp fun v d ρ1 F1 G1 H1 e1 s1 sl1 r hz0 => ?_
  obtain ⟨x, hz1, h2⟩ := hz0.retO
  obtain ⟨ds, hsrc, hd⟩ := Option.bind_eq_some_iff.mp hz1
  obtain ⟨l, vs, rfl, hq, rr⟩ := setSrc_rep e1 r hsrc
  unfold sortedSetS at hd
  cases q1 : pairsD ds with
  | none => rw [q1] at hd; cases hd
  | some ps =>
    rw [q1] at hd
    have hd2 : (if ps.length < 64 ∧ ps.all okP = true then some (D.lst ((usP ps).map prD)) else none) = some x := hd
    split at hd2
    · rename_i hb
      cases hd2
      have := pairsD_eq q1
      subst this
      obtain ⟨k1, k2⟩ := pairs_vs e1 rr
      have hlen : vs.length = ps.length := by rw [← k1, List.length_map]
      have hvs : (vs.map fun x => (adV x, [(kP H1 x).1, (kP H1 x).2])).map (fun p => V.ref p.1) = vs := by
        rw [List.map_map]
        have z : ∀ x ∈ vs, ((fun p : Addr × List Int => V.ref p.1) ∘ fun x => (adV x, [(kP H1 x).1, (kP H1 x).2])) x = id x := fun x hx => by
          obtain ⟨t, rfl, _⟩ := k2 x hx
          rfl
        rw [List.map_congr_left z, List.map_id]
      refine ⟨l, vs.map fun x => (adV x, [(kP H1 x).1, (kP H1 x).2]), rfl, by rw [hvs]; exact hq, fun p hp => ?_, by rw [List.length_map]; omega, fun sa L nsa hL1 hL2 => ?_⟩
      · obtain ⟨x, hx, rfl⟩ := List.mem_map.mp hp
        obtain ⟨t, rfl, ht⟩ := k2 x hx
        exact SqT.of (e1 _ _ ht)
      · have st1 := Stp.heap e1 nsa (SetTO X.prog X.w sa L)
        have inL : ∀ q ∈ L, ∃ t p, q = (t, [p.1, p.2]) ∧ p ∈ ps ∧ okP p = true ∧ G1 t = some (.tup [.int p.1, .int p.2]) := fun q hq => by
          obtain ⟨x, hx, rfl⟩ := List.mem_map.mp (hL1 q hq)
          obtain ⟨t, rfl, ht⟩ := k2 x hx
          have hp : kP H1 (V.ref t) ∈ ps := by rw [← k1]; exact List.mem_map.mpr ⟨_, hx, rfl⟩
          exact ⟨t, _, rfl, hp, List.all_eq_true.mp hb.2 _ hp, ht⟩
        refine ⟨sa, L, 2, 1000, rfl, upd_same, fun q hq => ?_, by decide, fun q hq => ?_, fun L' p hpm hnd h64 hpw np => ?_⟩
        · obtain ⟨t, p, rfl, _, _, ht⟩ := inL q hq
          exact SqT.of (st1.gh _ _ ht)
        · obtain ⟨t, p, rfl, _, hp, _⟩ := inL q hq
          have ho : ((0 ≤ p.1 ∧ p.1 < 1000) ∧ 0 ≤ p.2) ∧ p.2 < 1000 := by simpa [okP] using hp
          refine ⟨rfl, fun m hm => ?_⟩
          rcases List.mem_cons.mp hm with z | z
          · omega
          · rcases List.mem_cons.mp z with z | z
            · omega
            · cases z
        · have inL' : ∀ q ∈ L', ∃ t p, q = (t, [p.1, p.2]) ∧ p ∈ ps ∧ okP p = true ∧ G1 t = some (.tup [.int p.1, .int p.2]) := fun q hq => inL q (hpm.mem_iff.mp hq)
          have fe : ∀ q ∈ L', q.2 = [(frP q).1, (frP q).2] := fun q hq => by
            obtain ⟨t, p, rfl, _⟩ := inL' q hq
            rfl
          have ms : (L'.map frP) = usP ps := by
            refine sortedP_uniq ?_ (sortP_sorted _) ?_
            · rw [List.pairwise_map]
              refine List.Pairwise.imp_of_mem (fun {q r} hq hr w => ?_) hpw
              obtain ⟨t, p, rfl, _, h3, _⟩ := inL' q hq
              obtain ⟨t', p', rfl, _, h4, _⟩ := inL' r hr
              have o1 : ((0 ≤ p.1 ∧ p.1 < 1000) ∧ 0 ≤ p.2) ∧ p.2 < 1000 := by simpa [okP] using h3
              have o2 : ((0 ≤ p'.1 ∧ p'.1 < 1000) ∧ 0 ≤ p'.2) ∧ p'.2 < 1000 := by simpa [okP] using h4
              have w' : p.1 * 1000 ^ 1 + (p.2 * 1000 ^ 0 + 0) ≤ p'.1 * 1000 ^ 1 + (p'.2 * 1000 ^ 0 + 0) := w
              show lexL p p'
              unfold lexL
              omega
            · refine List.Perm.trans ?_ (sortP_perm (dedP ps)).symm
              refine (List.perm_ext_iff_of_nodup ?_ (dedP_nodup ps)).mpr fun p => ?_
              · refine List.Pairwise.map _ (fun {q r} => ?_) (List.Pairwise.and_mem.mp (List.pairwise_map.mp hnd))
                rintro ⟨hq, hr, ne⟩ z
                exact ne (by rw [fe q hq, fe r hr, z])
              · rw [mem_dedP]
                constructor
                · intro hp
                  obtain ⟨q, hq, rfl⟩ := List.mem_map.mp hp
                  obtain ⟨t, p, rfl, h3, _⟩ := inL' q hq
                  exact h3
                · intro hp
                  have hp' : p ∈ vs.map (kP H1) := by rw [k1]; exact hp
                  obtain ⟨x, hx, rfl⟩ := List.mem_map.mp hp'
                  have := hL2 _ (List.mem_map.mpr ⟨x, hx, rfl⟩)
                  obtain ⟨q, hq, hz⟩ := List.mem_map.mp this
                  have hq' := hpm.mem_iff.mpr hq
                  refine List.mem_map.mpr ⟨q, hq', ?_⟩
                  unfold frP
                  rw [hz]
                  rfl
          have rep : RepAll X.K G1 (L'.map fun q => V.ref q.1) ((L'.map frP).map prD) := by
            clear ms hpw hnd hpm fe h64
            induction L' with
            | nil => exact .nil
            | cons q r ih =>
              obtain ⟨t, p, rfl, _, _, ht⟩ := inL' q List.mem_cons_self
              exact .cons (prD_rep ht) (ih fun z hz => inL' z (List.mem_cons_of_mem _ hz))
          rw [ms] at rep
          have st2 : Stp F0 G1 (upd H1 sa (SetTO X.prog X.w sa L)) F0 (upd G1 p (.lst (L'.map fun q => V.ref q.1))) _ := .new st1.gh np _
          have st3 := st1.trans st2
          exact h2 _ F1 _ _ st3.pure (sl1.pure st3) (.newLst (none_of st1.gh np) rep)
    · cases hd2
end
end MX

namespace MX
open PySem PySem.Spec PyProof.Rows L2
/-! ### dicts that are data, their keys numbers and texts -/
def keyD : D → Option Key
  | .int i => some (.inl i)
  | .str x => some (.inr x)
  | _ => none
theorem keyD_rep {K : Frg} {G : Hp} {v : V} {d : D} {k : Key} (r : Rep K G v d) (h : keyD d = some k) : v = kV k := by
  cases d with
  | int i => cases h; cases r; rfl
  | str x => cases h; cases r; rfl
  | _ => cases h
def lookD {κ : Type} [DecidableEq κ] (gs : List (κ × D)) (k : κ) : Option D := (gs.find? fun g => decide (g.1 = k)).map (·.2)
def RepK {κ : Type} (K : Frg) (G : Hp) (kvs : List (κ × V)) (gs : List (κ × D)) : Prop := kvs.map (·.1) = gs.map (·.1) ∧ ∀ (i : Nat) (p : κ × V) (q : κ × D), kvs[i]? = some p → gs[i]? = some q → Rep K G p.2 q.2
theorem RepK.tail {κ : Type} {K : Frg} {G : Hp} {p : κ × V} {q : κ × D} {kvs : List (κ × V)} {gs : List (κ × D)} (h : RepK K G (p :: kvs) (q :: gs)) : RepK K G kvs gs :=
  ⟨(List.cons_eq_cons.mp (by simpa using h.1 : p.1 :: kvs.map (·.1) = q.1 :: gs.map (·.1))).2, fun i a b x y => h.2 (i + 1) a b (by simpa using x) (by simpa using y)⟩
theorem RepK.look {κ : Type} [DecidableEq κ] {K : Frg} {G : Hp} {k : κ} : ∀ {kvs : List (κ × V)} {gs : List (κ × D)}, RepK K G kvs gs → (∀ d, lookD gs k = some d → ∃ v, valV kvs k = some v ∧ Rep K G v d) ∧ (lookD gs k = none → valV kvs k = none)
  | [], [], h => ⟨fun d e => (by cases e), fun _ => rfl⟩
  | [], q :: gs, h => absurd h.1 (by simp)
  | p :: kvs, [], h => absurd h.1 (by simp)
  | p :: kvs, q :: gs, h => by
    have hpq : p.1 = q.1 := (List.cons_eq_cons.mp (by simpa using h.1 : p.1 :: kvs.map (·.1) = q.1 :: gs.map (·.1))).1
    have ih := RepK.look (k := k) h.tail
    by_cases c : q.1 = k
    · have e1 : lookD (q :: gs) k = some q.2 := by simp [lookD, c]
      rw [e1, valV_pos (hpq.trans c)]
      exact ⟨fun d e => ⟨p.2, rfl, by cases e; exact h.2 0 p q rfl rfl⟩, fun e => nomatch e⟩
    · have e1 : lookD (q :: gs) k = lookD gs k := by simp [lookD, c]
      rw [e1, valV_neg fun z => c (hpq.symm.trans z)]
      exact ih
def dgetD : D → D → Option D
  | .dk gs, y => (keyD y).bind fun k => lookD gs k
  | _, _ => none
def dinD (y x : D) : Option D := match x with
  | .dk gs => (keyD y).map fun k => .bl (lookD gs k).isSome
  | _ => none
def dninD (y x : D) : Option D := match x with
  | .dk gs => (keyD y).map fun k => .bl (!(lookD gs k).isSome)
  | _ => none
abbrev rDGet : R2 := fun x y H Q => ∃ a v, x = .ref a ∧ DGet H a y (some v) ∧ Q v H
abbrev rDIn (g : Bool → Bool) : R2 := fun y x H Q => ∃ a o, x = .ref a ∧ DGet H a y o ∧ Q (.bl (g o.isSome)) H
theorem dk_at {K : Frg} {G H : Hp} (e : Same G H) {x : V} {gs : List (Key × D)} (r : Rep K G x (.dk gs)) : ∃ a kvs, x = .ref a ∧ Rd H a (.dK kvs) ∧ RepK K G kvs gs := by
  cases r with
  | dk s l h => exact ⟨_, _, rfl, .inl (e _ _ s), l, h⟩
theorem od_dget {K : Frg} : OpD K rDGet dgetD := by
  intro G H a b d x y Q e ra rb hf k
  cases a with
  | dk gs =>
    obtain ⟨key, h1, h2⟩ := Option.bind_eq_some_iff.mp (show (keyD b).bind (fun k => lookD gs k) = some d from hf)
    obtain ⟨p, kvs, rfl, hr, rk⟩ := dk_at e ra
    obtain ⟨v, h3, h4⟩ := rk.look.1 d h2
    exact ⟨p, v, rfl, .inl ⟨kvs, key, hr, keyD_rep rb h1, h3.symm⟩, k v G H (.refl e) h4⟩
  | _ => cases hf
theorem din_core {K : Frg} {g : Bool → Bool} {G H : Hp} {b : D} {x y : V} {gs : List (Key × D)} {key : Key} {Q : VK} (e : Same G H) (ra : Rep K G x (.dk gs)) (rb : Rep K G y b) (h1 : keyD b = some key) (k : Q (.bl (g (lookD gs key).isSome)) H) : rDIn g y x H Q := by
  obtain ⟨p, kvs, rfl, hr, rk⟩ := dk_at e ra
  cases q : lookD gs key with
  | none =>
    rw [q] at k
    exact ⟨p, none, rfl, .inl ⟨kvs, key, hr, keyD_rep rb h1, (rk.look.2 q).symm⟩, k⟩
  | some d =>
    rw [q] at k
    obtain ⟨v, h3, h4⟩ := rk.look.1 d q
    exact ⟨p, some v, rfl, .inl ⟨kvs, key, hr, keyD_rep rb h1, h3.symm⟩, k⟩
theorem od_din {K : Frg} : OpD K (rDIn id) dinD := by
  intro G H b a d y x Q e rb ra hf k
  cases a with
  | dk gs =>
    obtain ⟨key, h1, h2⟩ := Option.map_eq_some_iff.mp (show (keyD b).map (fun k => D.bl (lookD gs k).isSome) = some d from hf)
    subst h2
    exact din_core e ra rb h1 (k _ G H (.refl e) (.bl _))
  | _ => cases hf
theorem od_dnin {K : Frg} : OpD K (rDIn Bool.not) dninD := by
  intro G H b a d y x Q e rb ra hf k
  cases a with
  | dk gs =>
    obtain ⟨key, h1, h2⟩ := Option.map_eq_some_iff.mp (show (keyD b).map (fun k => D.bl (!(lookD gs k).isSome)) = some d from hf)
    subst h2
    exact din_core (g := Bool.not) e ra rb h1 (k _ G H (.refl e) (.bl _))
  | _ => cases hf
section
variable {X : Cx} {W : WX} {e a b c : Expr} {es rest : List Expr} {ta tb tc te : TE} {t tr : TA} {ma mb mc me : M D} {ms : M (List D)} {pos : Pos}
theorem Ex.dget (hu : X.A.units + 64 < cLine) (ha : Ex X W a ta ma) (hb : Ex X W b tb mb) (hs : NoSl b := by exact fun _ _ => rfl) : Ex X W (.Subscript a b pos) (tDGet ta tb) (mBin dgetD ma mb) :=
  ⟨pe_dget (by omega) ha.pe hb.pe hs, sim_bin od_dget ha.sim hb.sim⟩
theorem Ex.din (hu : X.A.units + 64 < cLine) (ha : Ex X W a ta ma) (hb : Ex X W b tb mb) (hm : behindInMarks .In b = false := by rfl) : Ex X W (.Compare a [.In] [b] pos) (tDIn ta tb) (mBin dinD ma mb) :=
  ⟨pe_cmp (pc_din (by omega) ha.pe hb.pe) hm, sim_bin od_din ha.sim hb.sim⟩
theorem Ex.dnin (hu : X.A.units + 64 < cLine) (ha : Ex X W a ta ma) (hb : Ex X W b tb mb) (hm : behindInMarks .NotIn b = false := by rfl) : Ex X W (.Compare a [.NotIn] [b] pos) (tDNotIn ta tb) (mBin dninD ma mb) :=
  ⟨pe_cmp (pc_dnotin (by omega) ha.pe hb.pe) hm, sim_bin od_dnin ha.sim hb.sim⟩
/-! dict(pairs) -/
def pairsK : List D → Option (List (Key × D))
  | [] => some []
  | .tup [k, d] :: r => (keyD k).bind fun key => (pairsK r).map fun s => (key, d) :: s
  | _ :: _ => none
theorem pairsK_of {K : Frg} {G H : Hp} (e : Same G H) : ∀ {ds : List D} {vs : List V} {gs : List (Key × D)}, pairsK ds = some gs → RepAll K G vs ds →
    ∃ (ps : List Addr) (kvs : List (Key × V)), vs = ps.map V.ref ∧ Paired (fun p kv => SqT K H p [kV kv.1, kv.2]) ps kvs ∧ RepK K G kvs gs
  | [], vs, gs, h, r => by
    cases h
    have : vs = [] := List.eq_nil_of_length_eq_zero r.1
    subst this
    exact ⟨[], [], rfl, .nil, rfl, fun i p q a => by simp at a⟩
  | d :: ds, [], gs, h, r => absurd r.1 (by simp)
  | d :: ds, v :: vs, gs, h, r => by
    match d, h, r with
    | .tup [k, d'], h, r =>
      obtain ⟨key, h1, h2⟩ := Option.bind_eq_some_iff.mp (show (keyD k).bind (fun key => (pairsK ds).map fun s => (key, d') :: s) = some gs from h)
      obtain ⟨s, h3, h4⟩ := Option.map_eq_some_iff.mp h2
      subst h4
      obtain ⟨ps, kvs, rfl, hp, hk⟩ := pairsK_of e h3 r.tail
      obtain ⟨p, us, rfl, s1, rr⟩ := tup_of r.head
      match us, rr, s1 with
      | [u, w], rr, s1 =>
        have hu := keyD_rep rr.head h1
        subst hu
        refine ⟨p :: ps, (key, w) :: kvs, rfl, .cons (SqT.of (e _ _ s1)) hp, by simpa using hk.1, fun i x y a b => ?_⟩
        cases i with
        | zero => cases a; cases b; exact rr.tail.head
        | succ i => exact hk.2 i x y (by simpa using a) (by simpa using b)
      | [], rr, s1 => exact absurd rr.1 (by simp)
      | [_], rr, s1 => exact absurd rr.1 (by simp)
      | _ :: _ :: _ :: _, rr, s1 => exact absurd rr.1 (by simp)
theorem mergeK_nd : ∀ (more acc : List (Key × V)), ((acc ++ more).map (·.1)).Nodup → mergeK acc more = acc ++ more
  | [], acc, _ => by simp [mergeK]
  | p :: more, acc, h => by
    have hno : valV acc p.1 = none := by
      cases q : valV acc p.1 with
      | none => rfl
      | some v =>
        have hm := valV_in q
        rw [List.map_append, List.map_cons, List.nodup_append] at h
        exact absurd rfl (h.2.2 _ hm p.1 List.mem_cons_self)
    show mergeK (putK acc p.1 p.2) more = _
    rw [putK_new p.2 hno, mergeK_nd more (acc ++ [(p.1, p.2)]) (by simpa using h)]
    simp
def dictPD (ds : List D) : Option D := (pairsK ds).bind fun gs => if (gs.map (·.1)).Nodup then some (.dk gs) else none
abbrev rDictP (K : Frg) : List V → Hp → VK → Prop := fun xs H Q => ∃ (a : Addr) (ps : List Addr) (kvs : List (Key × V)), xs = [.ref a] ∧ SqL K H a (ps.map V.ref) ∧ Paired (fun p kv => SqT K H p [kV kv.1, kv.2]) ps kvs ∧ ∀ p, H p = none → Q (.ref p) (upd H p (.dK (mergeK [] kvs)))
def mDictP (ms : M (List D)) : M D := fun ρ => bnd (ms ρ) fun ds ρ1 => retO (dictPD ds) ρ1
theorem Ex.dictP {p : Pos} (hc : X.calm = true) (hm : X.mg "dict" = none) (h : Li X W a te ms) (hg : Gl X "dict" := by rfl)
    (na : starEach [a] X.env = (false, eval a X.env) :: starEach [] X.env := by rfl) (hp : (backTo pos (starEach [] X.env)).any (·.1) = false := by rfl) :
    Ex X W (.Call (.Name "dict" p) [a] [] pos) (tCB (rDictP X.K) (tCons te tNil)) (mDictP ms) := by
  refine ⟨pe_callTy (call_dictP hc) hg hm PyProof.Rows.boot_dict (pa_cons h.pe pa_nil na) (by decide) (by decide) na hp, fun F G H σ ρ Q e sl pp => ?_⟩
  refine h.sim.bind e sl pp fun v ds ρ1 F1 G1 H1 e1 s1 sl1 r h1 => ?_
  obtain ⟨x, hd, h2⟩ := h1.retO
  obtain ⟨l, vs, rfl, hq, rr⟩ := r
  obtain ⟨gs, q1, q2⟩ := Option.bind_eq_some_iff.mp (show (pairsK ds).bind (fun gs => if (gs.map (·.1)).Nodup then some (D.dk gs) else none) = some x from hd)
  split at q2
  · rename_i nd
    cases q2
    obtain ⟨ps, kvs, rfl, hpp, hk⟩ := pairsK_of e1 q1 rr
    refine ⟨l, ps, kvs, rfl, hq, hpp, fun q nq => ?_⟩
    rw [mergeK_nd kvs [] (by rw [List.nil_append, hk.1]; exact nd), List.nil_append]
    have st := Stp.new e1 nq (.dK kvs)
    exact h2 _ F1 _ _ st.pure (sl1.pure st) (.dk upd_same hk.1 fun i a b x y => Rep.mono st.gg (hk.2 i a b x y))
  · cases q2
end
end MX

namespace MX
open PySem PySem.Spec PyProof.Rows L2
/-! ### dict(pairs), the keys tuples: the hand layer's call -/
abbrev KPr (K : Frg) (H : Hp) : List Addr → List (List Key × V) → Prop := Paired fun p kv => ∃ b, SqT K H p [.ref b, kv.2] ∧ H b = some (.tup (kv.1.map kV))
abbrev rDictPT (K : Frg) : List V → Hp → VK → Prop := fun xs H Q => ∃ (a : Addr) (ps : List Addr) (kvs : List (List Key × V)), xs = [.ref a] ∧ SqL K H a (ps.map V.ref) ∧ KPr K H ps kvs ∧ (kvs.map (·.1)).Nodup ∧ ∀ p, H p = none → Q (.ref p) (upd H p (.dT kvs))
section
variable {X : Cx}
theorem prsT_of {pins : List (Addr × Obj)} {σ : L2.St} {H : Hp} {s : Shared} (I : Inv X pins σ H s) : ∀ {ps : List Addr} {kvs : List (List Key × V)}, KPr X.K H ps kvs →
    ∃ xs : List (List Key × Addr × Value), KT H kvs xs ∧ xs.length = ps.length ∧ ∀ (j : Nat) (x : List Key × Addr × Value), xs[j]? = some x → ∃ p, ps[j]? = some p ∧ IsTup s.heap p #[.ref x.2.1, x.2.2]
  | _, _, .nil => ⟨[], .nil, rfl, fun j q e => by simp at e⟩
  | _, _, .cons (a := p) (b := kv) h t => by
    obtain ⟨xs, r, hl, hp⟩ := prsT_of I t
    obtain ⟨b, h1, h2⟩ := h
    obtain ⟨its, rv, ht, _⟩ := I.tuple h1
    obtain ⟨u, y, ei, ru, ry⟩ := vals2 rv
    subst ei
    cases ru
    refine ⟨(kv.1, b, y) :: xs, .cons ⟨rfl, h2, ry⟩ r, by rw [List.length_cons, List.length_cons, hl], fun j q e => ?_⟩
    cases j with
    | zero =>
      cases e
      exact ⟨p, rfl, ht⟩
    | succ j =>
      obtain ⟨p', e1, e2⟩ := hp j q (by simpa using e)
      exact ⟨p', by simpa using e1, e2⟩
theorem KT_fst {H : Hp} {kvs : List (List Key × V)} {xs : List (List Key × Addr × Value)} (r : KT H kvs xs) : xs.map (·.1) = kvs.map (·.1) := by
  induction r with
  | nil => rfl
  | cons h t ih => rw [List.map_cons, List.map_cons, ih, h.1]
theorem KT_key {H : Hp} {kvs : List (List Key × V)} {xs : List (List Key × Addr × Value)} (r : KT H kvs xs) : ∀ x ∈ xs, H x.2.1 = some (.tup (x.1.map kV)) := by
  induction r with
  | nil => intro x hx; cases hx
  | cons h t ih =>
    intro x hx
    rcases List.mem_cons.mp hx with rfl | hx
    · rw [← h.1]; exact h.2.1
    · exact ih x hx
theorem stored_nd {κ : Type} [DecidableEq κ] : ∀ (more acc : List (κ × Addr × Value)), ((acc ++ more).map (·.1)).Nodup → storedAllH acc more = acc ++ more
  | [], acc, _ => by simp [storedAllH]
  | p :: more, acc, h => by
    have hno : atKey acc p.1 = none := by
      unfold atKey
      rw [Option.map_eq_none_iff, List.find?_eq_none]
      intro x hx
      rw [List.map_append, List.map_cons, List.nodup_append] at h
      have := h.2.2 x.1 (List.mem_map.mpr ⟨x, hx, rfl⟩) p.1 List.mem_cons_self
      simpa using this
    show storedAllH (storedH acc p.1 p.2.1 p.2.2) more = _
    rw [storedH_new hno, stored_nd more (acc ++ [(p.1, p.2.1, p.2.2)]) (by simpa using h)]
    simp
theorem call_dictPT (hc : X.calm = true) (hu : X.A.units + 64 < cLine) : CallR X (.type "dict") (rDictPT X.K) := by
  intro pins s σ H xs us Q I r q
  obtain ⟨a, ps, kvs, rfl, hq, hp, nd, q⟩ := q
  rw [Vals.ref1 r]
  obtain ⟨its, rv, pl, hz⟩ := I.list hq
  have ei := refs_at rv
  subst ei
  rw [List.length_map] at hz
  obtain ⟨ts, rel, hl, hpr⟩ := prsT_of I hp
  obtain ⟨o, n, ho, hcl, hd, hdat⟩ := pl
  have ndx : (ts.map (·.1)).Nodup := by rw [KT_fst rel]; exact nd
  have big := I.big
  have lt : ∀ x ∈ ts, ∃ ob its n, s.heap.get? x.2.1 = some ob ∧ ob.cls = .type "tuple" ∧ ob.data = .seq its n ∧ ItemsAre (mixKind X.prog X.w) x.1 its.toList := fun x hx => by
    obtain ⟨ob, its, n, h1, h2, h3, h4⟩ := key_of I.hok (KT_key rel x hx)
    exact ⟨ob, its, n, h1, h2, h3, h4⟩
  refine call_dict_pairsH (knd := tupleKind (mixKind X.prog X.w)) (ps := ts) (PairArg.list a ((ps.map Value.ref).toArray) (fun j => ps.getD j 0) (ts.map fun x => (Value.ref x.2.1, x.2.2))) (I.ok.hd hc) (tupleKind_room_in1 (show X.A.in1.units + 1 < cLine by show X.A.units + 1 + 1 < cLine; omega))
    ⟨⟨o, n, ho, hcl, hd, hdat⟩, by simp [hl], fun j k v e => ?_⟩ ⟨by simp, fun j key v e => ?_⟩ (fun h' hk x hx => ?_) (by simp [hl]; exact hz) fun h' tk hd' k => ?_
  · rw [List.getElem?_map] at e
    obtain ⟨x, e1, e2⟩ := Option.map_eq_some_iff.mp e
    cases e2
    obtain ⟨p, e3, e4⟩ := hpr j x e1
    refine ⟨by simp [e3, List.getD_eq_getElem?_getD], .inl ?_⟩
    have ep : ps.getD j 0 = p := by rw [List.getD_eq_getElem?_getD, e3]; rfl
    show s.heap.IsTuple (ps.getD j 0) _
    rw [ep]
    exact e4
  · rw [show PairRel (ts.map fun x => (Value.ref x.2.1, x.2.2)) j key v = ((ts.map fun x => (Value.ref x.2.1, x.2.2))[j]? = some (key, v)) from rfl, List.getElem?_map] at e
    obtain ⟨x, e1, e2⟩ := Option.map_eq_some_iff.mp e
    cases e2
    exact ⟨x.1, x.2.1, e1, rfl⟩
  · obtain ⟨ob, its, n, h1, h2, h3, h4⟩ := lt x hx
    exact ⟨ob, its, n, hk _ _ (Nat.ne_of_lt (Heap.lt_size h1)) (fun z => nomatch z) h1, h2, h3, h4⟩
  · rw [stored_nd ts [] (by simpa using ndx), List.nil_append] at hd'
    have hm : (s.heap.objs.size == sysModules) = false := beq_eq_false_iff_ne.mpr (Nat.ne_of_gt big)
    have hn : H s.heap.objs.size = none := I.hok.fresh (Nat.le_refl _)
    have hlen : kvs.length ≤ sizeLine := by
      have := congrArg List.length (KT_fst rel)
      rw [List.length_map, List.length_map] at this
      omega
    obtain ⟨o', es, ep, g1, g2, g3, g4, g5, g6⟩ := hd'
    exact ⟨.ref s.heap.objs.size, upd H s.heap.objs.size (.dT kvs), I.laid (t' := tk) (fun b u e => k b u (fun z => nomatch z) e) (Nat.le_refl _) ⟨hlen, hm, ts, rel.keeps fun b ys e => by
      rw [upd_ne (ne_of_none e hn)]; exact e, o', es, ep, g1, g2, g3, g4, g6⟩, rfl, q _ hn⟩
end
end MX

namespace MX
open PySem PySem.Spec PyProof.Rows L2
theorem Slots.live {K : Frg} {F : Fp} {G H : Hp} {σ : L2.St} {ρ : Env} (sl : Slots K G H σ ρ F) : Slots K G H σ ρ (fun a => F a ∧ H a ≠ none) := by
  obtain ⟨l, f, g1, g2, g3⟩ := sl
  refine ⟨l, fun i a => f i a ∧ H a ≠ none, fun i t q => ?_, fun i j a n x y => g2 i j a n x.1 y.1, fun i a x => ⟨g3 i a x.1, x.2⟩⟩
  obtain ⟨v, e2, o⟩ := g1 i t q
  exact ⟨v, e2, o.live⟩
/-- a new object of ours beside what there is -/
theorem Stp.mineNew {Fs Fv : Fp} {G H : Hp} {p : Addr} (e : Same G H) (n : H p = none) (o : HO) : Stp (fun a => Fs a ∨ Fv a) G H (fun a => (Fs a ∧ H a ≠ none) ∨ (a = p ∨ (Fv a ∧ H a ≠ none))) G (upd H p o) := by
  have z := Stp.heap e n o
  refine ⟨z.gg, z.gh, fun a u h _ => z.fr a u h fun q => q, z.th, fun a h h' => absurd h h', fun a h => ?_⟩
  rcases h with h | h | h
  · exact .inl (.inl h.1)
  · exact .inr (by rw [h]; exact n)
  · exact .inl (.inr h.1)
theorem Slots.beside {K : Frg} {F : Fp} {G H : Hp} {σ : L2.St} {ρ : Env} {p : Addr} (sl : Slots K G H σ ρ F) (e : Same G H) (n : H p = none) (o : HO) : Slots K G (upd H p o) σ ρ (fun a => F a ∧ H a ≠ none) :=
  sl.live.touch (fun z => z.2 n) (none_of e n) o
theorem Own.beside {K : Frg} {F : Fp} {G H : Hp} {v : V} {t : T} {p : Addr} (ow : Own K G H v t F) (n : H p = none) (hl : ∀ a, F a → H a ≠ none) (o : HO) : Own K G (upd H p o) v t F :=
  ow.stay (Same.refl G) (fun a u fa q => by rw [upd_ne (fun z => hl a fa (by rw [z]; exact n))]; exact q) fun a u fa q m => m
def mPr (ma : M D) (mb : M T) : M T := fun ρ => bnd (ma ρ) fun d ρ1 => bnd (mb ρ1) fun t ρ2 => ret (.pr d t) ρ2
def keysL : List D → Option (List Key)
  | [] => some []
  | d :: r => (keyD d).bind fun k => (keysL r).map (k :: ·)
def keysD : D → Option (List Key)
  | .tup ds => keysL ds
  | _ => none
theorem keysL_rep {K : Frg} {G : Hp} : ∀ {ds : List D} {vs : List V} {ks : List Key}, keysL ds = some ks → RepAll K G vs ds → vs = ks.map kV
  | [], vs, ks, h, r => by
    cases h
    exact List.eq_nil_of_length_eq_zero r.1
  | d :: ds, [], ks, h, r => absurd r.1 (by simp)
  | d :: ds, v :: vs, ks, h, r => by
    obtain ⟨k, h1, h2⟩ := Option.bind_eq_some_iff.mp (show (keyD d).bind (fun k => (keysL ds).map (k :: ·)) = some ks from h)
    obtain ⟨s, h3, rfl⟩ := Option.map_eq_some_iff.mp h2
    rw [keyD_rep r.head h1, keysL_rep h3 r.tail]; rfl
theorem keysD_rep {K : Frg} {G : Hp} {v : V} {d : D} {ks : List Key} (r : Rep K G v d) (h : keysD d = some ks) : ∃ b, v = .ref b ∧ G b = some (.tup (ks.map kV)) := by
  cases d with
  | tup ds =>
    obtain ⟨b, vs, rfl, s, rr⟩ := tup_of r
    exact ⟨b, rfl, by rw [← keysL_rep (show keysL ds = some ks from h) rr]; exact s⟩
  | _ => cases h
def prsT : List T → Option (List (List Key × T))
  | [] => some []
  | .pr d t :: r => (keysD d).bind fun k => (prsT r).map fun s => (k, t) :: s
  | _ :: _ => none
def dictT : T → Option T
  | .lst ts => (prsT ts).bind fun kvs => if (kvs.map (·.1)).Nodup then some (.dt kvs) else none
  | _ => none
def mDictT (m : M T) : M T := fun ρ => bnd (m ρ) fun t ρ1 => retO (dictT t) ρ1
theorem prsT_own {K : Frg} {G H : Hp} (e : Same G H) : ∀ {ts : List T} {vs : List V} {kvs : List (List Key × T)} {f : Nat → Fp}, prsT ts = some kvs → vs.length = ts.length → (∀ (i : Nat) (v : V) (t : T), vs[i]? = some v → ts[i]? = some t → Own K G H v t (f i)) →
    ∃ (ps : List Addr) (ws : List (List Key × V)), vs = ps.map V.ref ∧ KPr K H ps ws ∧ ws.map (·.1) = kvs.map (·.1) ∧ ∀ (i : Nat) (u : List Key × V) (t : List Key × T), ws[i]? = some u → kvs[i]? = some t → Own K G H u.2 t.2 (f i)
  | [], vs, kvs, f, h, hl, ho => by
    cases h
    have : vs = [] := List.eq_nil_of_length_eq_zero hl
    subst this
    exact ⟨[], [], rfl, .nil, rfl, fun i u t a => by simp at a⟩
  | t :: ts, [], kvs, f, h, hl, ho => absurd hl (by simp)
  | t :: ts, v :: vs, kvs, f, h, hl, ho => by
    cases t with
    | pr d t =>
      obtain ⟨ks, h1, h2⟩ := Option.bind_eq_some_iff.mp (show (keysD d).bind (fun k => (prsT ts).map fun s => (k, t) :: s) = some kvs from h)
      obtain ⟨s, h3, rfl⟩ := Option.map_eq_some_iff.mp h2
      obtain ⟨ps, ws, rfl, hp, hk, hw⟩ := prsT_own (f := fun i => f (i + 1)) e h3 (by simpa using hl) fun i v t a b => ho (i + 1) v t (by simpa using a) (by simpa using b)
      have o := ho 0 _ _ rfl rfl
      cases o with
      | pr e1 n r ow sub fp =>
        rename_i p u w f'
        obtain ⟨b, rfl, hb⟩ := keysD_rep r h1
        refine ⟨p :: ps, (ks, w) :: ws, rfl, .cons ⟨b, SqT.of e1, e _ _ hb⟩ hp, by simpa using hk, fun i x y a b => ?_⟩
        cases i with
        | zero => cases a; cases b; exact ow.wide fun a x => (sub a x).1
        | succ i => exact hw i x y (by simpa using a) (by simpa using b)
    | _ => cases h
section
variable {X : Cx} {W : WX} {kp : List Nat} {tg iter e a b c : Expr} {es rest ifs : List Expr} {ta tb tc te : TE} {t tr : TA} {ma mb mc me : M D} {mt : M Bool} {tt : TT} {ms : M (List D)} {mT : M T} {g : TG} {wi : TI} {pos : Pos} {js : List Nat} {bd : D → Env → Option Env}
theorem Ot.pr {k : Nat} (ha : Ex X W a ta ma) (hb : Ot X W b tb mT) (n1 : starEach [a, b] X.env = (false, eval a X.env) :: starEach [b] X.env := by rfl) (n2 : starEach [b] X.env = (false, eval b X.env) :: starEach [] X.env := by rfl) :
    Ot X W (.Tuple [a, b] k pos) (tTup (tCons ta (tCons tb tNil))) (mPr ma mT) := by
  refine ⟨pe_tup (pa_cons ha.pe (pa_cons hb.pe pa_nil n2) n1), fun F G H σ ρ Q e sl p => ?_⟩
  refine ha.sim.bindT e sl p fun x d ρ1 F1 G1 H1 e1 s1 sl1 rd h1 => ?_
  refine hb.sim F1 G1 H1 σ ρ1 _ e1 sl1 ?_
  revert h1
  cases mT ρ1 with
  | none => exact fun h => h
  | some r =>
    obtain ⟨r, ρ2⟩ := r
    cases r with
    | exc C fs => exact fun h => h
    | ok t =>
      intro h1 v Fs Fv G2 H2 st sl2 ow dj
      refine ⟨line_big (by show (2 : Nat) ≤ 1000000; decide), fun p np => ?_⟩
      refine h1 (.ref p) _ _ G2 _ (st.trans (Stp.mineNew st.gh np (.tup [x, v]))) (sl2.beside st.gh np _) (.pr (f := fun a => Fv a ∧ H2 a ≠ none) upd_same (none_of st.gh np) (Rep.mono st.gg rd) (ow.live.beside np (fun a z => z.2) _) (fun a z => ⟨.inr z, fun q => z.2 (by rw [q]; exact np)⟩) (.inl rfl)) fun a z y => ?_
      rcases z with z | z
      · exact y.2 (by rw [z]; exact np)
      · exact dj a z.1 y.1
theorem Ot.dict {p : Pos} (hc : X.calm = true) (hu : X.A.units + 64 < cLine) (hm : X.mg "dict" = none) (h : Ot X W a te mT) (hg : Gl X "dict" := by rfl)
    (na : starEach [a] X.env = (false, eval a X.env) :: starEach [] X.env := by rfl) (hp : (backTo pos (starEach [] X.env)).any (·.1) = false := by rfl) :
    Ot X W (.Call (.Name "dict" p) [a] [] pos) (tCB (rDictPT X.K) (tCons te tNil)) (mDictT mT) := by
  refine ⟨pe_callTy (call_dictPT hc hu) hg hm PyProof.Rows.boot_dict (pa_cons h.pe pa_nil na) (by decide) (by decide) na hp, fun F G H σ ρ Q e sl pp => ?_⟩
  refine h.sim F G H σ ρ _ e sl ?_
  revert pp
  unfold mDictT
  cases mT ρ with
  | none => exact fun h => h
  | some r =>
    obtain ⟨r, ρ2⟩ := r
    cases r with
    | exc C fs => exact fun h => h
    | ok t =>
      intro h1 v Fs Fv G2 H2 st sl2 ow dj
      have h2 : PostT X.K W σ Q F G H (MX.retO (dictT t) ρ2) := h1
      cases q : dictT t with
      | none => rw [q] at h2; exact h2.elim
      | some u =>
        rw [q] at h2
        cases t with
        | lst ts =>
          obtain ⟨kvs, q1, q2⟩ := Option.bind_eq_some_iff.mp (show (prsT ts).bind (fun kvs => if (kvs.map (·.1)).Nodup then some (T.dt kvs) else none) = some u from q)
          split at q2
          · rename_i nd
            cases q2
            have ol := ow.live
            cases ol with
            | lst f e1 n l s djs sub fp =>
              rename_i pl vs
              obtain ⟨ps, ws, rfl, hpr, hk, hw⟩ := prsT_own st.gh q1 l s
              have hkv : ws.length = kvs.length := by have := congrArg List.length hk; simpa using this
              refine ⟨pl, ps, ws, rfl, SqL.of e1, hpr, by rw [hk]; exact nd, fun p np => ?_⟩
              refine h2 (.ref p) _ _ G2 _ (st.trans (Stp.mineNew st.gh np (.dT ws))) (sl2.beside st.gh np _) (.dt f upd_same (none_of st.gh np) hk (fun i u t a b => (hw i u t a b).beside np (fun a z => (sub i a z).1.2) _) djs (fun i a z => ⟨.inr (sub i a z).1, fun q => (sub i a z).1.2 (by rw [q]; exact np)⟩) (.inl rfl)) fun a z y => ?_
              rcases z with z | z
              · exact y.2 (by rw [z]; exact np)
              · exact dj a z.1 y.1
          · cases q2
        | _ => cases q
theorem Ot.lcTE {scope : Scope} {own : List (Str × Nat)} (hc : X.calm = true) (hN : X.N.Nodup) (hi : Src X W tg iter wi ms) (ok : BlkOk X.N X.env.scope scope own)
    (hg : ∀ (s : Shared) (H : Hp) (C : Addr) (cl : List (Str × Addr)) (fp : List Addr), ∃ g, Tg (X.blk s H scope (compEnvC scope cl C X.env) fp) tg js g bd)
    (ht : ∀ (s : Shared) (H : Hp) (C : Addr) (cl : List (Str × Addr)) (fp : List Addr), ∃ tt, Ts (X.blk s H scope (compEnvC scope cl C X.env) fp) WF ifs tt mt)
    (he : ∀ (s : Shared) (H : Hp) (C : Addr) (cl : List (Str × Addr)) (fp : List Addr), ∃ te, Ot (X.blk s H scope (compEnvC scope cl C X.env) fp) WF e te mT)
    (hj : ∀ j ∈ js, j ∈ own.map (·.2)) (hs : ∀ x, foldedSetIterable iter X.env x = pure x := by intro _; rfl) :
    Ot X W (.ListComp e [⟨tg, iter, ifs, 0⟩] scope pos) (tLc wi (gMir X.K js bd) (tMirB X.K mt) (tMirT X.K mT) (own.map (·.2))) (mLcT ms (own.map (·.2)) bd mt mT) :=
  ⟨pe_lc hc hN hi.pi ok (fun s H C cl fp => (Tg.mir (hg s H C cl fp)).pg) (fun s H C cl fp => (Ts.mir (ht s H C cl fp)).pt) (fun s H C cl fp => (Ot.mir (he s H C cl fp)).pe) hs,
    sim_lcT hi.sim (Tg.mir (hg X.s_0 X.H_0 0 [] [])).sim (Ts.mir (ht X.s_0 X.H_0 0 [] [])).sim (Ot.mir (he X.s_0 X.H_0 0 [] [])).sim hj⟩
end
end MX

namespace MX
open PySem PySem.Spec PyProof.Rows L2
/-! ### places that are come to by keys, new data made on the way -/
def relP (σ : L2.St) (i : Nat) : Hp → Hp → V → List Nat → Prop := fun _ H v π => ∃ v0, σ[i]? = some (some v0) ∧ rch H v0 π v
structure Pm (X : Cx) (W : WX) (e : Expr) (t : TE) (i : Nat) (m : M (List Nat)) : Prop where
  pe : PE X e t
  sim : ∀ (F : Fp) (G H : Hp) (σ : L2.St) (ρ : Env) (Q : VK), Same G H → Slots X.K G H σ ρ F → Post X.K W σ (relP σ i) (fun b _ _ _ _ H' => Q b H') F G H (m ρ) → t σ H Q
theorem Pm.bind {X : Cx} {W : WX} {e : Expr} {t : TE} {i : Nat} {m : M (List Nat)} {α : Type} {β : Type} {rel : Hp → Hp → β → α → Prop} (hp : Pm X W e t i m) {F : Fp} {G H : Hp} {σ : L2.St} {ρ : Env} {Q : VK} {Φ : β → α → Env → Fp → Hp → Hp → Prop} {f : List Nat → Env → Option (Res α × Env)}
    (e1 : Same G H) (sl : Slots X.K G H σ ρ F) (h : Post X.K W σ rel Φ F G H (bnd (m ρ) f))
    (k : ∀ v π ρ' F' G' H', Same G' H' → Stp F G H F' G' H' → Slots X.K G' H' σ ρ' F' → relP σ i G' H' v π → Post X.K W σ rel Φ F' G' H' (f π ρ') → Q v H') : t σ H Q := by
  refine hp.sim F G H σ ρ Q e1 sl ?_
  revert h
  cases m ρ with
  | none => exact fun h => h
  | some r =>
    obtain ⟨a, ρ'⟩ := r
    cases a with
    | ok a => exact fun h b F' G' H' st sl' r => k b a ρ' F' G' H' st.gh st sl' r (Post.mono st h)
    | exc C fs => exact fun h x F' G' H' st sl' ex => h x F' G' H' st sl' ex
def rowP (ρ : Env) (i : Nat) (π : List Nat) : Option (List D) := match tAt ρ i π with
  | some (.lst ts) => imAll ts
  | _ => none
theorem Slots.rowP {K : Frg} {F : Fp} {G H : Hp} {σ : L2.St} {ρ : Env} (sl : Slots K G H σ ρ F) (e : Same G H) {i : Nat} {π : List Nat} {v : V} {ds : List D} (q : rowP ρ i π = some ds) (r : relP σ i G H v π) : ∃ p vs, v = .ref p ∧ H p = some (.lst vs) ∧ G p = none ∧ RepAll K G vs ds ∧
    ∀ vs' ds', RepAll K G vs' ds' → ∃ F', Stp F G H F' G (upd H p (.lst vs')) ∧ Slots K G (upd H p (.lst vs')) σ (tPut ρ i π (.lst (ds'.map T.im))) F' := by
  unfold MX.rowP at q
  split at q
  · rename_i ts q2
    obtain ⟨v0, w, Fw, hv', rw', ow, sub, back⟩ := sl.place q2
    obtain ⟨v0', hv, rc⟩ := r
    rw [hv] at hv'
    cases hv'
    cases rch_inj rc rw'
    rw [imAll_eq q] at ow
    obtain ⟨p, vs, rfl, e2, n, fp, rr⟩ := ow.flat
    refine ⟨p, vs, rfl, e2, n, rr, fun vs' ds' r' => ?_⟩
    have st : Stp Fw G H Fw G (upd H p (.lst vs')) := by
      have z := Stp.mine (o := .lst vs') e n
      exact ⟨z.gg, z.gh, fun a o q n => z.fr a o q fun y => n (by rw [y]; exact fp), z.th, fun a x y => absurd x y, fun a x => .inl x⟩
    exact back Fw Fw G _ _ st (fun _ x => x) ((Own.flatOf upd_same n r').wide fun a z => by rw [z]; exact fp) fun a x => .inl x
  · cases q
section
variable {X : Cx} {W : WX} {kp : List Nat} {tg iter e o a b c : Expr} {es rest : List Expr} {ta tb tc te to : TE} {t tr : TA} {ma mb mc me : M D} {mt : M Bool} {tt : TT} {ms : M (List D)} {mT : M T} {pos : Pos} {i : Nat} {ml : Env → Option D} {mp : Env → Option (List Nat)} {mq : M (List Nat)}
def mPl (mp : Env → Option (List Nat)) : M (List Nat) := fun ρ => retO (mp ρ) ρ
theorem Pm.of (h : Pc X e te i mp) : Pm X W e te i (mPl mp) := by
  refine ⟨h.pe, fun F G H σ ρ Q e sl p => ?_⟩
  obtain ⟨π, q, p⟩ := Post.retO p
  exact h.sim F G H σ ρ Q π e sl q fun v0 v hv r => p v F G H (.refl e) sl ⟨v0, hv, r⟩
def ownDt (ρ : Env) (i : Nat) : Option (List (List Key × T)) := match ρ[i]? with
  | some (some (.dt kvs)) => some kvs
  | _ => none
theorem ownDt_eq {ρ : Env} {i : Nat} {kvs : List (List Key × T)} (h : ownDt ρ i = some kvs) : ρ[i]? = some (some (.dt kvs)) := by
  unfold ownDt at h
  split at h
  · rename_i q; cases h; exact q
  · cases h
def idxK : List (List Key × T) → List Key → Option Nat
  | [], _ => none
  | (k, _) :: r, ks => if k = ks then some 0 else (idxK r ks).map (· + 1)
theorem idxK_ok {ks : List Key} : ∀ {fs : List (List Key × V)} {ts : List (List Key × T)} {j : Nat}, fs.map (·.1) = ts.map (·.1) → idxK ts ks = some j → ∃ x v, fs[j]? = some (x, v) ∧ valV fs ks = some v
  | _, [], j, _, h => by cases h
  | [], _ :: _, j, e, h => by cases e
  | (x, v) :: fs, (n, t) :: ts, j, e, h => by
    have e' : x = n ∧ fs.map (·.1) = ts.map (·.1) := by simpa using e
    have h' : (if n = ks then some 0 else (idxK ts ks).map (· + 1)) = some j := h
    by_cases c : n = ks
    · rw [if_pos c] at h'
      cases h'
      exact ⟨x, v, rfl, valV_pos (p := (x, v)) (e'.1.trans c)⟩
    · rw [if_neg c] at h'
      obtain ⟨j', q, rfl⟩ := Option.map_eq_some_iff.mp h'
      obtain ⟨y, u, h1, h2⟩ := idxK_ok e'.2 q
      exact ⟨y, u, by simpa using h1, by rw [valV_neg (p := (x, v)) fun z => c (e'.1.symm.trans z)]; exact h2⟩
theorem Own.dts {K : Frg} {G H : Hp} {v : V} {ts : List (List Key × T)} {F : Fp} (o : Own K G H v (.dt ts) F) : ∃ p fs, v = .ref p ∧ H p = some (.dT fs) ∧ fs.map (·.1) = ts.map (·.1) := by
  cases o with
  | dt f e n l s dj sub fp => exact ⟨_, _, rfl, e, l⟩
def mKey (i : Nat) (mb : M D) : M (List Nat) := fun ρ => bnd (retO (ownDt ρ i) ρ) fun _ ρ0 => bnd (mb ρ0) fun d ρ1 => retO ((ownDt ρ1 i).bind fun kvs => (keysD d).bind fun ks => (idxK kvs ks).map fun j => [j]) ρ1
theorem Pm.key {x : Str} {p : Pos} (i : Nat) (hu : X.A.units + 64 < cLine) (hb : Ex X W b tb mb) (hs : NoSl b := by exact fun _ _ => rfl) (hN : X.N[i]? = some x := by rfl) (hv : Vis X.env.scope x := by first | exact Or.inl rfl | exact Or.inr (Or.inl rfl) | exact Or.inr (Or.inr rfl)) (hd : (x == ("__debug__" : Str)) = false := by decide) (hcd : (x == ("__classdict__" : Str)) = false := by decide) :
    Pm X W (.Subscript (.Name x p) b pos) (tDGet (tVar i) tb) i (mKey i mb) := by
  refine ⟨pe_dget (by omega) (pe_var hN hv hd hcd) hb.pe hs, fun F G H σ ρ Q e sl pp => ?_⟩
  unfold mKey at pp
  cases q0 : ownDt ρ i with
  | none => rw [q0] at pp; exact pp.elim
  | some kv0 =>
    rw [q0] at pp
    obtain ⟨v0, Fv, hv0, o0, _, _⟩ := sl.own (ownDt_eq q0)
    refine ⟨v0, hv0, ?_⟩
    refine hb.sim.bind e sl (f := fun d ρ1 => MX.retO ((ownDt ρ1 i).bind fun kvs => (keysD d).bind fun ks => (idxK kvs ks).map fun j => [j]) ρ1) (γ := List Nat) (rel' := relP σ i) pp fun y d ρ1 F1 G1 H1 e1 s1 sl1 r h1 => ?_
    obtain ⟨π, q1, h2⟩ := h1.retO
    obtain ⟨kvs, q2, q3⟩ := Option.bind_eq_some_iff.mp q1
    obtain ⟨ks, q4, q5⟩ := Option.bind_eq_some_iff.mp q3
    obtain ⟨j, q6, rfl⟩ := Option.map_eq_some_iff.mp q5
    obtain ⟨v1, Fv1, hv1, o1, _, _⟩ := sl1.own (ownDt_eq q2)
    rw [hv0] at hv1
    cases hv1
    obtain ⟨a, fs, rfl, ha, hk⟩ := o1.dts
    obtain ⟨b', rfl, hb'⟩ := keysD_rep r q4
    obtain ⟨x', w, h3, h4⟩ := idxK_ok hk q6
    exact ⟨a, w, rfl, .inr ⟨fs, ks, b', .inl ha, rfl, e1 _ _ hb', h4.symm⟩, h2 w F1 G1 H1 (.refl e1) sl1 ⟨_, hv0, ⟨w, ⟨a, rfl, .inr (.inr (.inr ⟨fs, x', ha, h3⟩))⟩, rfl⟩⟩⟩
/-! rows at places -/
def mRowM (i : Nat) (mq : M (List Nat)) : M (List D) := fun ρ => bnd (mq ρ) fun π ρ1 => retO (rowP ρ1 i π) ρ1
theorem Li.pm (h : Pm X W e te i mq) : Li X W e te (mRowM i mq) := by
  refine ⟨h.pe, fun F G H σ ρ Q e sl p => ?_⟩
  refine h.bind e sl p fun v π ρ1 F1 G1 H1 e1 s1 sl1 r h1 => ?_
  obtain ⟨ds, q, h2⟩ := h1.retO
  obtain ⟨p, vs, rfl, hp, _, rr, _⟩ := sl1.rowP e1 q r
  exact h2 _ F1 G1 H1 (.refl e1) sl1 ⟨p, vs, rfl, SqL.of hp, rr⟩
/-- place.append(e), e read without any new object -/
def mAppM (i : Nat) (mq : M (List Nat)) (ml : Env → Option D) : M D := fun ρ => bnd (mq ρ) fun π ρ1 => match rowP ρ1 i π, ml ρ1 with
  | some ds, some d => if ds.length < 1000000 then ret .non (tPut ρ1 i π (.lst ((ds ++ [d]).map .im))) else none
  | _, _ => none
theorem Ex.appM {apos cpos : Pos} (h : Pm X W o to i mq) (ha : At X e te ml)
    (hbase : attributeBase o "append" X.env (eval o X.env) = eval o X.env := by rfl)
    (hfew : ((backTo cpos (starEach (e :: []) X.env)).all (fun x => !x.1) && (backToKw cpos (keywordEach [] X.env)).all (fun x => x.1.isSome) && decide ((e :: ([] : List Expr)).length + ([] : List Keyword).length + (if ([] : List Keyword).isEmpty then 0 else 1) < 30)) = true := by rfl)
    (hline : (apos.endLine == cpos.line) = true := by rfl) (hs : starEach (e :: []) X.env = (false, eval e X.env) :: starEach [] X.env := by rfl) (hpl : (backTo cpos (starEach [] X.env)).any (·.1) = false := by rfl) :
    Ex X W (.Call (.Attribute o "append" apos) [e] [] cpos) (tBM X.K "list" rAppend to (tCons te tNil)) (mAppM i mq ml) := by
  refine ⟨pe_bm PySem.F.plainAttrs_list PySem.F.slot_list_append PySem.F.type_list_append mt_append h.pe (pa_cons ha.pe pa_nil hs) hbase hfew hline hs hpl, fun F G H σ ρ Q e sl p => ?_⟩
  refine h.bind e sl p fun v π ρ1 F1 G1 H1 e1 s1 sl1 r h1 => ?_
  cases q1 : rowP ρ1 i π with
  | none => rw [q1] at h1; exact h1.elim
  | some ds =>
    cases q2 : ml ρ1 with
    | none => rw [q1, q2] at h1; exact h1.elim
    | some d =>
      rw [q1, q2] at h1
      obtain ⟨l, vs, rfl, hl, n, rr, go⟩ := sl1.rowP e1 q1 r
      have h2 : Post X.K W σ (relD X.K) (fun b _ _ _ _ H' => Q b H') F1 G1 H1 (if ds.length < 1000000 then MX.ret .non (tPut ρ1 i π (.lst ((ds ++ [d]).map .im))) else none) := h1
      split at h2
      · rename_i hz
        refine ⟨.inl ⟨rfl, _, SqL.of hl⟩, ha.sim F1 G1 H1 σ ρ1 _ d e1 sl1 q2 fun y ry => ?_⟩
        obtain ⟨F', st, sl'⟩ := go (vs ++ [y]) (ds ++ [d]) (rr.append (.cons ry .nil))
        exact ⟨_, vs, y, rfl, rfl, hl, line_lt (by rw [rr.1]; exact hz), h2 .non F' G1 _ st sl' .non⟩
      · exact h2.elim
/-- place.pop(e) -/
def mPopM (i : Nat) (mq : M (List Nat)) (ml : Env → Option D) : M D := fun ρ => bnd (mq ρ) fun π ρ1 => match rowP ρ1 i π, ml ρ1 with
  | some ds, some (.int z) => (match (if ds.length ≤ 1000000 then ixN ds.length z else none) with
    | some j => bnd (retO ds[j]? ρ1) fun x ρ3 => ret x (tPut ρ3 i π (.lst ((ds.eraseIdx j).map .im)))
    | none => none)
  | _, _ => none
theorem Ex.popM {apos cpos : Pos} (h : Pm X W o to i mq) (ha : At X e te ml)
    (hbase : attributeBase o "pop" X.env (eval o X.env) = eval o X.env := by rfl)
    (hfew : ((backTo cpos (starEach (e :: []) X.env)).all (fun x => !x.1) && (backToKw cpos (keywordEach [] X.env)).all (fun x => x.1.isSome) && decide ((e :: ([] : List Expr)).length + ([] : List Keyword).length + (if ([] : List Keyword).isEmpty then 0 else 1) < 30)) = true := by rfl)
    (hline : (apos.endLine == cpos.line) = true := by rfl) (hs : starEach (e :: []) X.env = (false, eval e X.env) :: starEach [] X.env := by rfl) (hpl : (backTo cpos (starEach [] X.env)).any (·.1) = false := by rfl) :
    Ex X W (.Call (.Attribute o "pop" apos) [e] [] cpos) (tBM X.K "list" rPopAt to (tCons te tNil)) (mPopM i mq ml) := by
  refine ⟨pe_bm PySem.F.plainAttrs_list PySem.F.slot_list_pop PySem.F.type_list_pop mt_popAt h.pe (pa_cons ha.pe pa_nil hs) hbase hfew hline hs hpl, fun F G H σ ρ Q e sl p => ?_⟩
  refine h.bind e sl p fun v π ρ1 F1 G1 H1 e1 s1 sl1 r h1 => ?_
  cases q1 : rowP ρ1 i π with
  | none => rw [q1] at h1; exact h1.elim
  | some ds =>
    cases q2 : ml ρ1 with
    | none => rw [q1, q2] at h1; exact h1.elim
    | some d =>
      rw [q1, q2] at h1
      obtain ⟨l, vs, rfl, hl, n, rr, go⟩ := sl1.rowP e1 q1 r
      cases d with
      | int z =>
        have h2 : Post X.K W σ (relD X.K) (fun b _ _ _ _ H' => Q b H') F1 G1 H1 (match (if ds.length ≤ 1000000 then ixN ds.length z else none) with
          | some j => bnd (MX.retO ds[j]? ρ1) fun x ρ3 => MX.ret x (tPut ρ3 i π (.lst ((ds.eraseIdx j).map .im)))
          | none => none) := h1
        by_cases hz : ds.length ≤ 1000000
        · rw [if_pos hz] at h2
          cases q3 : ixN ds.length z with
          | none => rw [q3] at h2; exact h2.elim
          | some j =>
            rw [q3] at h2
            have hj := ixN_lt q3
            have h3 : Post X.K W σ (relD X.K) (fun b _ _ _ _ H' => Q b H') F1 G1 H1 (bnd (MX.retO ds[j]? ρ1) fun x ρ3 => MX.ret x (tPut ρ3 i π (.lst ((ds.eraseIdx j).map .im)))) := h2
            rw [List.getElem?_eq_getElem hj] at h3
            obtain ⟨b1, b2, b3⟩ := ixN_popR (line_big hz) q3
            refine ⟨.inl ⟨rfl, _, SqL.of hl⟩, ha.sim F1 G1 H1 σ ρ1 _ _ e1 sl1 q2 fun y ry => ?_⟩
            cases ry
            obtain ⟨w, hw, rw'⟩ := rr.get (List.getElem?_eq_getElem hj)
            obtain ⟨F', st, sl'⟩ := go (vs.eraseIdx j) (ds.eraseIdx j) (rr.eraseIdx j)
            exact ⟨l, vs, z, j, w, rfl, rfl, hl, b1, b2, by rw [rr.1]; exact b3, hw, (show Post X.K W σ (relD X.K) (fun b _ _ _ _ H' => Q b H') F1 G1 H1 (MX.ret ds[j] (tPut ρ1 i π (.lst ((ds.eraseIdx j).map .im)))) from h3) w F' G1 _ st sl' (Rep.mono st.gg rw')⟩
        · rw [if_neg hz] at h2; exact h2.elim
      | _ => exact h1.elim
end
end MX

namespace MX
open PySem PySem.Spec PyProof.Rows L2
/-! ### sorted(t), t a tuple of ints -/
section
variable {prog : Program} {w : World} {A : Around} {E : Value → Shared → Prop} {s : Shared}
theorem sorted_tup {t : Addr} {vs : List Value} {ltv : Value → Value → Bool} {Q : Value → Shared → Prop} (O : SrtO.Swo ltv) (ht : s.heap.IsTuple t vs.toArray) (hz : vs.length ≤ sizeLine)
    (hS : 2 ≤ vs.length → ∀ (h₁ : Heap) (a : Addr), SrtO.SortableO prog w A.in1.in1 { s with heap := h₁ } a vs ltv)
    (h : ∀ (out : List Value) (p : Addr) (hp : Heap) (c : Nat), SrtO.Srtd ltv out → SrtO.Stb ltv out vs → s.heap.get? p = none → (∀ b o, s.heap.get? b = some o → hp.get? b = some o) → hp.get? p = some (seqObj "list" out.toArray c) → Q (.ref p) { s with heap := hp }) :
    wpAny (model prog w) A (call (.builtin "sorted") [.ref t]) Q E s := by
  obtain ⟨o, ho, hc, n, hd⟩ := ht
  refine Calls.call_function_entry kind_sorted plain_sorted entry_sorted (args_sorted1 _) ?_
  unfold Builtin.«sorted»
  refine wpAny_bind (m := checkCount "sorted" 1 1 _) (wpAny_pure ?_)
  refine wpAny_bind (wpAny_collect_seq t (.inr rfl) ho hc hd (fun h1 k1 => ?_) (by simpa using hz))
  rw [show vs.toArray.toList = vs by simp]
  refine wpAny_bind (wpAny_newList ?_ hz)
  have gone : s.heap.get? h1.objs.size = none := by
    cases q : s.heap.get? h1.objs.size with
    | none => rfl
    | some u => exact absurd (Heap.lt_size (k1 _ _ q)) (Nat.lt_irrefl _)
  have hoL : (h1.push (seqObj "list" vs.toArray 0)).get? h1.objs.size = some (seqObj "list" vs.toArray 0) := Heap.get?_push_size _ rfl
  refine wpAny_bind (wpAny_holding (wpAny_call_entry slot_list_sort ⟨_, hoL, rfl⟩ entry_list_sort (SrtO.list_sort_ord O hoL hz (fun h2 => hS h2 _ _) fun out hs hb => ⟨_, rfl, ?_⟩) (args_list_sort _)))
  obtain ⟨c, hat⟩ := sortedHeap_at (vs := vs) (out := out.toArray) hoL
  refine wpAny_pure ⟨_, rfl, h out _ _ c hs hb gone (fun b u hu => ?_) hat⟩
  have hb' := Heap.lt_size (k1 b u hu)
  rw [sortedHeap_old (Nat.ne_of_lt hb') (by rw [size_push']; exact Nat.lt_succ_of_lt hb')]
  exact Heap.get?_push_of_some _ (k1 b u hu)
end
def rSortedTI (K : Frg) : List V → Hp → VK → Prop := fun vs H Q => ∃ (a : Addr) (ns : List Int), vs = [V.ref a] ∧ SqT K H a (ns.map V.int) ∧ ∀ (ns' : List Int) (p : Addr), ns'.Perm ns → ns'.Pairwise (· ≤ ·) → H p = none → Q (.ref p) (upd H p (.lst (ns'.map V.int)))
theorem cr_sortedTI {X : Cx} : CallR X (.builtin "sorted") (rSortedTI X.K) := by
  intro pins s σ H vs us Q I r h
  obtain ⟨a, ns, rfl, hs, q⟩ := h
  obtain ⟨its, rv, hl, hz⟩ := I.tuple hs
  rw [Vals.ref1 r]
  have hi := rv.ints
  refine sorted_tup SrtO.swo_int (show s.heap.IsTuple a its.toArray from hl) (by rw [← rv.length]; exact hz) (fun h2 h₁ a' => SrtO.ints_sortable hi h2) fun out p hp c h1 h2 hle hk hat => ?_
  obtain ⟨k1, k2, k3⟩ := SrtO.ints_out hi h1 h2
  have hlen : ((out.map SrtO.iv).map V.int).length ≤ sizeLine := by
    rw [List.length_map, k2.length_eq]
    rw [List.length_map] at hz
    exact hz
  exact ⟨.ref p, upd H p (.lst ((out.map SrtO.iv).map V.int)), I.laidN (t' := s.toks) hk hle (I.hok.gone hle) ⟨hlen, out, c, vals_of_ints k1, hat⟩, rfl, q _ _ k2 k3 (I.hok.gone hle)⟩
/-! sorted(x), x a list or a tuple of ints, or a list of pairs -/
def rSortedAny (K : Frg) : List V → Hp → VK → Prop := fun xs H Q => rSortedIP K xs H Q ∨ rSortedTI K xs H Q
theorem cr_sortedAny {X : Cx} : CallR X (.builtin "sorted") (rSortedAny X.K) := CallR.or cr_sortedIP cr_sortedTI
def sortedTI (ds : List D) : Option D := (intsD ds).map fun ns => .lst ((sortI ns).map .int)
def sortedAnyD : D → Option D
  | .lst ds => sortedIP ds
  | .scr ns => sortedIP (ns.map .int)
  | .tup ds => sortedTI ds
  | .tupx ds => sortedTI ds
  | _ => none
def mSorted (m : M D) : M D := fun ρ => bnd (m ρ) fun d ρ1 => retO (sortedAnyD d) ρ1
section
variable {X : Cx} {W : WX} {a e : Expr} {te : TE} {me : M D} {ms : M (List D)} {pos : Pos}
theorem Ex.sortedAny {p : Pos} (hm : X.mg "sorted" = none) (h : Ex X W a te me) (hg : Gl X "sorted" := by rfl)
    (na : starEach [a] X.env = (false, eval a X.env) :: starEach [] X.env := by rfl) (hp : (backTo pos (starEach [] X.env)).any (·.1) = false := by rfl) :
    Ex X W (.Call (.Name "sorted" p) [a] [] pos) (tCB (rSortedAny X.K) (tCons te tNil)) (mSorted me) := by
  refine ⟨pe_callB cr_sortedAny hg hm PyProof.Rows.boot_sorted (pa_cons h.pe pa_nil na) (by decide) (by decide) na hp, fun F G H σ ρ Q e sl pp => ?_⟩
  refine h.sim.bind e sl pp fun v d ρ1 F1 G1 H1 e1 s1 sl1 r h1 => ?_
  obtain ⟨x, hd, h2⟩ := h1.retO
  have tupk : ∀ {ds : List D} {b : Addr} {vs : List V}, v = .ref b → SqT X.K H1 b vs → RepAll X.K G1 vs ds → sortedTI ds = some x → rSortedAny X.K [v] H1 Q := by
    intro ds b vs hv hq rr hx
    obtain ⟨ns, q1, q2⟩ := Option.map_eq_some_iff.mp hx
    subst q2
    subst hv
    rw [intsD_eq q1] at rr
    have ev := repAll_ints rr
    subst ev
    refine .inr ⟨b, ns, rfl, hq, fun ns' p pm ps np => ?_⟩
    have st := Stp.new e1 np (.lst (ns'.map V.int))
    have e2 : ns' = sortI ns := sorted_uniq ps (sortI_sorted ns) (pm.trans (sortI_perm ns).symm)
    subst e2
    exact h2 _ F1 _ _ st.pure (sl1.pure st) (.newLst (none_of e1 np) (ints_repAll _))
  cases d with
  | lst ds =>
    obtain ⟨b, vs, rfl, s, rr⟩ := repAll_of_lst r
    exact .inl (cl_sortedIP G1 H1 b vs ds x Q e1 (SqL.of (e1 _ _ s)) rr hd fun v' G' H' st rv => h2 v' F1 G' H' st.pure (sl1.pure st) rv)
  | scr ns =>
    cases r with
    | scr s => exact .inl (cl_sortedIP G1 H1 _ _ (ns.map .int) x Q e1 (sqL_mono e1 s) (ints_repAll ns) hd fun v' G' H' st rv => h2 v' F1 G' H' st.pure (sl1.pure st) rv)
  | tup ds =>
    obtain ⟨b, vs, rfl, s, rr⟩ := tup_of r
    exact tupk rfl (SqT.of (e1 _ _ s)) rr hd
  | tupx ds =>
    cases r with
    | tupx s c z l rr => exact tupk rfl (.inl (rd_mono e1 (.inr ⟨_, s⟩))) ⟨l, rr⟩ hd
  | _ => cases hd
end
end MX

namespace MX
open PySem PySem.Spec PyProof.Rows L2
/-! ### owned rows: list(x), remove, insert, two items exchanged -/
section
variable {X : Cx} {W : WX} {kp : List Nat} {e f a b c : Expr} {es rest : List Expr} {ta tb tc te tf : TE} {t tr : TA} {ma mb mc me mf : M D} {ms : M (List D)} {pos : Pos} {ml mk : Env → Option D}
theorem Nw.list {p : Pos} (hm : X.mg "list" = none) (h : Se X W a te ms) (hg : Gl X "list" := by rfl)
    (na : starEach [a] X.env = (false, eval a X.env) :: starEach [] X.env := by rfl) (hp : (backTo pos (starEach [] X.env)).any (·.1) = false := by rfl) :
    Nw X W (.Call (.Name "list" p) [a] [] pos) (tCB (fun xs H Q => ∃ p ys, xs = [.ref p] ∧ (SqL X.K H p ys ∨ SqT X.K H p ys) ∧ ∀ l, H l = none → Q (.ref l) (upd H l (.lst ys))) (tCons te tNil)) ms := by
  refine ⟨pe_callTy call_list_of hg hm PyProof.Rows.boot_list (pa_cons h.pe pa_nil na) (by decide) (by decide) na hp, fun F G H σ ρ Q e sl pp => ?_⟩
  refine h.sim.bindN (QN := Q) (f := fun ds ρ1 => MX.ret ds ρ1) e sl ?_ fun v ds ρ1 F1 G1 H1 e1 s1 sl1 r h1 => ?_
  · revert pp
    cases ms ρ with
    | none => exact fun p => p
    | some r =>
      obtain ⟨a, ρ'⟩ := r
      cases a <;> exact fun p => p
  · obtain ⟨l, vs, rfl, hq, rr⟩ := r
    refine ⟨l, vs, rfl, hq, fun p np => ?_⟩
    have st := Stp.heap e1 np (.lst vs)
    exact h1 p vs (fun a => F1 a ∧ H1 a ≠ none) G1 _ ⟨st.gg, st.gh, fun a o x _ => st.fr a o x fun z => z.elim, st.th, fun a x y => absurd x y, fun a x => .inl x.1⟩ (sl1.beside e1 np _) upd_same (none_of e1 np) (fun z => z.2 np) np rr
theorem Se.pm {to : TE} {o : Expr} {i : Nat} {mq : M (List Nat)} (h : Pm X W o to i mq) : Se X W o to (mRowM i mq) := by
  refine ⟨h.pe, fun F G H σ ρ Q e sl p => (Li.pm h).sim F G H σ ρ Q e sl ?_⟩
  revert p
  cases mRowM i mq ρ with
  | none => exact fun p => p
  | some r =>
    obtain ⟨a, ρ'⟩ := r
    cases a with
    | ok ds => exact fun p v F' G' H' st sl' ⟨a, vs, hv, hq, rr⟩ => p v F' G' H' st sl' ⟨a, vs, hv, .inl hq, rr⟩
    | exc C fs => exact fun p => p
theorem Te.din (hu : X.A.units + 64 < cLine) (ha : Ex X W a ta ma) (hb : Ex X W b tb mb) (hm : behindInMarks .In b = false := by rfl) : Te X W (.Compare a [.In] [b] pos) (tB (tDIn ta tb)) (mB (mBin dinD ma mb)) :=
  ⟨pt_cmp (pc_din (by omega) ha.pe hb.pe) hm, sim_test (sim_bin od_din ha.sim hb.sim)⟩
theorem Te.dnin (hu : X.A.units + 64 < cLine) (ha : Ex X W a ta ma) (hb : Ex X W b tb mb) (hm : behindInMarks .NotIn b = false := by rfl) : Te X W (.Compare a [.NotIn] [b] pos) (tB (tDNotIn ta tb)) (mB (mBin dninD ma mb)) :=
  ⟨pt_cmp (pc_dnotin (by omega) ha.pe hb.pe) hm, sim_test (sim_bin od_dnin ha.sim hb.sim)⟩
def remD (d : D) (ds : List D) : Option (List D) := match d with
  | .int z => (intsD ds).bind fun ns => (firstAt z ns 0).map fun j => (ns.eraseIdx j).map .int
  | _ => none
def mRem (i : Nat) (m : M D) : M D := fun ρ => bnd (retO (ownL ρ i) ρ) fun _ ρ0 => bnd (m ρ0) fun d ρ1 => bnd (retO (ownL ρ1 i) ρ1) fun ds ρ2 => bnd (retO (remD d ds) ρ2) fun es ρ3 => ret .non (ρ3.set i (some (.lst (es.map .im))))
theorem eraseIdx_mapV {α β : Type} (g : α → β) : ∀ (l : List α) (j : Nat), (l.map g).eraseIdx j = (l.eraseIdx j).map g
  | [], _ => rfl
  | a :: r, 0 => rfl
  | a :: r, j + 1 => by
    show g a :: (r.map g).eraseIdx j = g a :: (r.eraseIdx j).map g
    rw [eraseIdx_mapV g r j]
theorem Ex.rem {y : Str} {yp apos cpos : Pos} (i : Nat) (h : Ex X W e te me) (hN : X.N[i]? = some y := by rfl) (hv : Vis X.env.scope y := by first | exact Or.inl rfl | exact Or.inr (Or.inl rfl) | exact Or.inr (Or.inr rfl)) (hd : (y == ("__debug__" : Str)) = false := by decide) (hcd : (y == ("__classdict__" : Str)) = false := by decide)
    (hbase : attributeBase (.Name y yp) "remove" X.env (eval (.Name y yp) X.env) = eval (.Name y yp) X.env := by rfl)
    (hfew : ((backTo cpos (starEach (e :: []) X.env)).all (fun x => !x.1) && (backToKw cpos (keywordEach [] X.env)).all (fun x => x.1.isSome) && decide ((e :: ([] : List Expr)).length + ([] : List Keyword).length + (if ([] : List Keyword).isEmpty then 0 else 1) < 30)) = true := by rfl)
    (hline : (apos.endLine == cpos.line) = true := by rfl) (hs : starEach (e :: []) X.env = (false, eval e X.env) :: starEach [] X.env := by rfl) (hpl : (backTo cpos (starEach [] X.env)).any (·.1) = false := by rfl) :
    Ex X W (.Call (.Attribute (.Name y yp) "remove" apos) [e] [] cpos) (tBM X.K "list" rRemI (tVar i) (tCons te tNil)) (mRem i me) := by
  refine ⟨pe_bm PySem.F.plainAttrs_list PySem.F.slot_list_remove PySem.F.type_list_remove mt_remove (pe_var hN hv hd hcd) (pa_cons h.pe pa_nil hs) hbase hfew hline hs hpl, fun F G H σ ρ Q e sl p => ?_⟩
  unfold mRem at p
  cases q0 : ownL ρ i with
  | none => rw [q0] at p; exact p.elim
  | some ds0 =>
    rw [q0] at p
    obtain ⟨l, vs0, hv, hl0, _, _, _⟩ := sl.row e q0
    refine ⟨_, hv, .inl ⟨rfl, _, SqL.of hl0⟩, ?_⟩
    refine h.sim.bind e sl p fun y d ρ1 F1 G1 H1 e1 s1 sl1 r h1 => ?_
    cases q1 : ownL ρ1 i with
    | none => rw [q1] at h1; exact h1.elim
    | some ds =>
      rw [q1] at h1
      obtain ⟨l', vs, hv', hl, n, rr, go⟩ := sl1.row e1 q1
      rw [hv] at hv'
      cases hv'
      cases d with
      | int z =>
        cases r
        have h2 : Post X.K W σ (relD X.K) (fun b _ _ _ _ H' => Q b H') F1 G1 H1 (bnd (MX.retO (remD (.int z) ds) ρ1) fun es ρ3 => MX.ret .non (ρ3.set i (some (.lst (es.map .im))))) := h1
        cases q4 : remD (.int z) ds with
        | none => rw [q4] at h2; exact h2.elim
        | some es =>
          rw [q4] at h2
          obtain ⟨ns, q2, q5⟩ := Option.bind_eq_some_iff.mp (show (intsD ds).bind (fun ns => (firstAt z ns 0).map fun j => (ns.eraseIdx j).map D.int) = some es from q4)
          obtain ⟨j, q3, q6⟩ := Option.map_eq_some_iff.mp q5
          subst q6
          have := intsD_eq q2
          subst this
          have ev := repAll_ints rr
          subst ev
          obtain ⟨k, h4, h5, h6⟩ := firstAt_ok q3
          rw [Nat.zero_add] at h4
          subst h4
          obtain ⟨F', st, sl'⟩ := go ((ns.eraseIdx j).map V.int) ((ns.eraseIdx j).map D.int) (ints_repAll _)
          exact ⟨l, ns, z, j, rfl, rfl, hl, h5, h6, (show Post X.K W σ (relD X.K) (fun b _ _ _ _ H' => Q b H') F1 G1 H1 (MX.ret .non (ρ1.set i (some (.lst (((ns.eraseIdx j).map D.int).map .im))))) from h2) .non F' G1 _ st sl' .non⟩
      | _ => cases h1
def mIns (i : Nat) (m n : M D) : M D := fun ρ => bnd (retO (ownL ρ i) ρ) fun _ ρ0 => bnd (m ρ0) fun k ρ1 => bnd (n ρ1) fun d ρ2 => bnd (retO (ownL ρ2 i) ρ2) fun ds ρ3 => match k with
  | .int z => if 0 ≤ z ∧ z < 1000000 ∧ ds.length < 1000000 then ret .non (ρ3.set i (some (.lst ((ds.take z.toNat ++ [d] ++ ds.drop z.toNat).map .im)))) else none
  | _ => none
theorem Ex.ins {y : Str} {yp apos cpos : Pos} (i : Nat) (h : Ex X W e te me) (h' : Ex X W f tf mf) (hN : X.N[i]? = some y := by rfl) (hv : Vis X.env.scope y := by first | exact Or.inl rfl | exact Or.inr (Or.inl rfl) | exact Or.inr (Or.inr rfl)) (hd : (y == ("__debug__" : Str)) = false := by decide) (hcd : (y == ("__classdict__" : Str)) = false := by decide)
    (hbase : attributeBase (.Name y yp) "insert" X.env (eval (.Name y yp) X.env) = eval (.Name y yp) X.env := by rfl)
    (hfew : ((backTo cpos (starEach (e :: [f]) X.env)).all (fun x => !x.1) && (backToKw cpos (keywordEach [] X.env)).all (fun x => x.1.isSome) && decide ((e :: ([f] : List Expr)).length + ([] : List Keyword).length + (if ([] : List Keyword).isEmpty then 0 else 1) < 30)) = true := by rfl)
    (hline : (apos.endLine == cpos.line) = true := by rfl) (hs : starEach (e :: [f]) X.env = (false, eval e X.env) :: starEach [f] X.env := by rfl) (hs2 : starEach [f] X.env = (false, eval f X.env) :: starEach [] X.env := by rfl) (hpl : (backTo cpos (starEach [f] X.env)).any (·.1) = false := by rfl) :
    Ex X W (.Call (.Attribute (.Name y yp) "insert" apos) [e, f] [] cpos) (tBM X.K "list" (fun x vs H Q => ∃ (l : Addr) (xs : List V) (i : Int) (y : V), x = .ref l ∧ vs = [.int i, y] ∧ H l = some (.lst xs) ∧ xs.length < sizeLine ∧ 0 ≤ i ∧ i < 2 ^ 63 ∧ Q .non (upd H l (.lst (xs.take i.toNat ++ [y] ++ xs.drop i.toNat)))) (tVar i) (tCons te (tCons tf tNil))) (mIns i me mf) := by
  refine ⟨pe_bm PySem.F.plainAttrs_list PySem.F.slot_list_insert PySem.F.type_list_insert mt_insert (pe_var hN hv hd hcd) (pa_cons h.pe (pa_cons h'.pe pa_nil hs2) hs) hbase hfew hline hs hpl, fun F G H σ ρ Q e sl p => ?_⟩
  unfold mIns at p
  cases q0 : ownL ρ i with
  | none => rw [q0] at p; exact p.elim
  | some ds0 =>
    rw [q0] at p
    obtain ⟨l, vs0, hv, hl0, _, _, _⟩ := sl.row e q0
    refine ⟨_, hv, .inl ⟨rfl, _, SqL.of hl0⟩, ?_⟩
    refine h.sim.bind e sl p fun y k ρ1 F1 G1 H1 e1 s1 sl1 r h1 => ?_
    refine h'.sim.bind e1 sl1 h1 fun y2 d ρ2 F2 G2 H2 e2 s2 sl2 r2 h2 => ?_
    cases q1 : ownL ρ2 i with
    | none => rw [q1] at h2; exact h2.elim
    | some ds =>
      rw [q1] at h2
      obtain ⟨l', vs, hv', hl, n, rr, go⟩ := sl2.row e2 q1
      rw [hv] at hv'
      cases hv'
      cases k with
      | int z =>
        cases r
        have h3 : Post X.K W σ (relD X.K) (fun b _ _ _ _ H' => Q b H') F2 G2 H2 (if 0 ≤ z ∧ z < 1000000 ∧ ds.length < 1000000 then MX.ret .non (ρ2.set i (some (.lst ((ds.take z.toNat ++ [d] ++ ds.drop z.toNat).map .im)))) else none) := h2
        split at h3
        · rename_i hz
          obtain ⟨F', st, sl'⟩ := go (vs.take z.toNat ++ [y2] ++ vs.drop z.toNat) (ds.take z.toNat ++ [d] ++ ds.drop z.toNat) (((rr.take _).append (.cons r2 .nil)).append (rr.drop _))
          exact ⟨l, vs, z, y2, rfl, rfl, hl, line_lt (by rw [rr.1]; exact hz.2.2), hz.1, by have := hz.2.1; omega, h3 .non F' G2 _ st sl' .non⟩
        · exact h3.elim
      | _ => exact h2.elim
def nSwap (i : Nat) (me : M D) (ml mk : Env → Option D) : N := fun ρ => bndS (me ρ) fun d ρ1 => match d, ownL ρ1 i, ml ρ1 with
  | .tup [d1, d2], some ds, some (.int z) => (match ixN ds.length z with
    | some j => (match mk (ρ1.set i (some (.lst ((ds.set j d1).map .im)))) with
      | some (.int u) => (match ixN ds.length u with
        | some m => some (.nx, (ρ1.set i (some (.lst ((ds.set j d1).map .im)))).set i (some (.lst (((ds.set j d1).set m d2).map .im))))
        | none => none)
      | _ => none)
    | none => none)
  | _, _, _ => none
theorem ownL_set {ρ : Env} {i : Nat} {ds : List D} (h : i < ρ.length) : ownL (ρ.set i (some (.lst (ds.map .im)))) i = some ds := by
  unfold ownL
  rw [List.getElem?_set_self h]
  show imAll (ds.map .im) = some ds
  induction ds with
  | nil => rfl
  | cons d r ih => show (imAll (r.map .im)).map (d :: ·) = _; rw [ih]; rfl
theorem Sm.swap {y : Str} {yp zp s1 s2 tp : Pos} {kt : Nat} (i : Nat) (hc : X.calm = true) (he : Ex X W e te me) (hk : At X a ta ml) (hk2 : At X b tb mk) (hN : X.N[i]? = some y := by rfl) (hv : Vis X.env.scope y := by first | exact Or.inl rfl | exact Or.inr (Or.inl rfl) | exact Or.inr (Or.inr rfl)) (hd : (y == ("__debug__" : Str)) = false := by decide) (hcd : (y == ("__classdict__" : Str)) = false := by decide)
    (h1 : ∀ v, assign (.Subscript (.Name y yp) a s1) X.env v = (do
      let ov ← holding [v] (eval (.Name y yp) X.env)
      let iv ← holding [v, ov] (eval a X.env)
      standAt s1
      holding [v, ov, iv] (setItem ov iv v)
      release [v, ov, iv] []) := by intro _; rfl)
    (h2 : ∀ v, assign (.Subscript (.Name y zp) b s2) X.env v = (do
      let ov ← holding [v] (eval (.Name y zp) X.env)
      let iv ← holding [v, ov] (eval b X.env)
      standAt s2
      holding [v, ov, iv] (setItem ov iv v)
      release [v, ov, iv] []) := by intro _; rfl)
    (hp1 : (assignEach [.Subscript (.Name y yp) a s1, .Subscript (.Name y zp) b s2] X.env).map (·.2) = assign (.Subscript (.Name y yp) a s1) X.env :: (assignEach [.Subscript (.Name y zp) b s2] X.env).map (·.2) := by rfl)
    (hp2 : (assignEach [.Subscript (.Name y zp) b s2] X.env).map (·.2) = assign (.Subscript (.Name y zp) b s2) X.env :: (assignEach [] X.env).map (·.2) := by rfl)
    (hn : (assignEach [.Subscript (.Name y yp) a s1, .Subscript (.Name y zp) b s2] X.env).length = 2 := by rfl) (hst : (assignEach [.Subscript (.Name y yp) a s1, .Subscript (.Name y zp) b s2] X.env).findIdx? (·.1) = none := by rfl)
    (hs : swapsWithSole [.Tuple [.Subscript (.Name y yp) a s1, .Subscript (.Name y zp) b s2] kt tp] e pos.line X.env = pure false := by rfl)
    (hw : swappedStores [.Tuple [.Subscript (.Name y yp) a s1, .Subscript (.Name y zp) b s2] kt tp] e X.env = pure none := by rfl)
    (hq : (assignEach [.Tuple [.Subscript (.Name y yp) a s1, .Subscript (.Name y zp) b s2] kt tp] X.env).map (·.2) = [assign (.Tuple [.Subscript (.Name y yp) a s1, .Subscript (.Name y zp) b s2] kt tp) X.env] := by rfl) :
    Sm X W kp (.Assign [.Tuple [.Subscript (.Name y yp) a s1, .Subscript (.Name y zp) b s2] kt tp] e pos) (tAsg te (gTup X.K 2 (gCons (gSub (tVar i) ta rSetL) (gCons (gSub (tVar i) tb rSetL) gNil)))) (nSwap i me ml mk) := by
  refine ⟨ps_asg he.pe (pg_tup hc (pgs_cons (pg_sub (pe_var hN hv hd hcd) hk.pe set_list h1) (pgs_cons (pg_sub (pe_var hN hv hd hcd) hk2.pe set_list h2) pgs_nil hp2) hp1) hn hst) hs hw hq, fun F G H σ ρ D e sl p => ?_⟩
  refine he.sim.bindS e sl p fun v d ρ1 F1 G1 H1 e1 s1 sl1 r h1 => ?_
  revert h1
  split
  · rename_i d1 d2 ds z q1 q2
    intro h1
    cases q3 : ixN ds.length z with
    | none => rw [q3] at h1; exact h1.elim
    | some j =>
      rw [q3] at h1
      have h2 : PostS X.K W kp σ D F1 G1 H1 (match mk (ρ1.set i (some (.lst ((ds.set j d1).map .im)))) with
        | some (.int u) => (match ixN ds.length u with
          | some m => some (.nx, (ρ1.set i (some (.lst ((ds.set j d1).map .im)))).set i (some (.lst (((ds.set j d1).set m d2).map .im))))
          | none => none)
        | _ => none) := h1
      revert h2
      split
      · rename_i u q4
        intro h2
        cases q5 : ixN ds.length u with
        | none => rw [q5] at h2; exact h2.elim
        | some m =>
          rw [q5] at h2
          obtain ⟨at_, us, rfl, sa, rt⟩ := tup_of r
          match us, rt, sa with
          | [v1, v2], rt, sa =>
            have r1 := rt.head
            have r2 := rt.tail.head
            refine ⟨at_, [v1, v2], rfl, SqT.of (e1 _ _ sa), rfl, v1, [v2], rfl, ?_⟩
            obtain ⟨l, vs, hv1, hl, n, rr, go⟩ := sl1.row e1 q1
            refine ⟨_, hv1, hk.sim F1 G1 H1 σ ρ1 _ _ e1 sl1 q2 fun w rw' => ?_⟩
            cases rw'
            obtain ⟨F', st, sl'⟩ := go (vs.set j v1) (ds.set j d1) (rr.set r1 j)
            refine ⟨l, vs, z, j, rfl, rfl, hl, by rw [rr.1]; exact q3, v2, [], rfl, ?_⟩
            have hi : i < ρ1.length := (List.getElem?_eq_some_iff.mp (ownL_eq q1)).1
            obtain ⟨l', vs', hv2, hl', n', rr', go'⟩ := sl'.row st.gh (ownL_set (ds := ds.set j d1) hi)
            rw [hv1] at hv2
            cases hv2
            refine ⟨_, hv1, hk2.sim F' G1 _ σ _ _ _ st.gh sl' q4 fun w rw' => ?_⟩
            cases rw'
            rw [upd_same] at hl'
            cases hl'
            obtain ⟨F'', st2, sl2⟩ := go' ((vs.set j v1).set m v2) ((ds.set j d1).set m d2) (rr'.set r2 m)
            exact ⟨l, _, u, m, rfl, rfl, upd_same, by rw [List.length_set, rr.1]; exact q5, rfl, h2 σ F'' G1 _ (st.trans st2) sl2 (.refl _ _)⟩
          | [], rt, sa => exact absurd rt.1 (by simp)
          | [_], rt, sa => exact absurd rt.1 (by simp)
          | _ :: _ :: _ :: _, rt, sa => exact absurd rt.1 (by simp)
      · exact fun h => h.elim
  · exact fun h => h.elim
end
end MX

namespace MX
open PySem PySem.Spec PyProof.Rows L2
/-! ### [.. for x in own], own a row of one's own, which the body doesn't touch -/
def JOkF (J : It) (K : Frg) (F1 : Fp) (G1 H1 : Hp) (ds : List D) : Prop := ds.length ≤ sizeLine ∧ ∀ (F : Fp) (G H : Hp) (i : Nat), Stp F1 G1 H1 F G H →
  (∀ d, ds[i]? = some d → J.go i H ∧ ∀ x H', J.yld i H x H' → ∃ G', Stp F0 G H F0 G' H' ∧ Rep K G' x d) ∧ (ds.length ≤ i → J.stop i H)
section
variable {X : Cx} {W : WX} {tg iter e a b c : Expr} {es rest ifs : List Expr} {g : TG} {ta tb tc te : TE} {t tr : TA} {tt tu : TT} {ma mb mc me : M D} {mt mu : M Bool} {ms : M (List D)} {pos : Pos} {wi : TI}
theorem lc_ownCore {K : Frg} {js vs : List Nat} {bd : D → Env → Option Env} (hg : SimG K js g bd) (ht : Sim K WF relB tt mt) (he : Sim K WF (relD K) te me) (hj : ∀ j ∈ js, j ∈ vs) {σ : L2.St} {J : It} {ds fin : List MX.D} {F1 : Fp} {G1 H1 : Hp} {ρ1 ρf : Env} {Q : VK}
    (e1 : Same G1 H1) (sl1 : Slots K G1 H1 σ ρ1 F1) (jk : JOkF J K F1 G1 H1 ds) (q : lcM vs bd mt me ds ρ1 = some (fin, ρf))
    (h1 : ∀ p us F' G' H', Stp F1 G1 H1 F' G' H' → Slots K G' H' σ (restE ρ1 vs ρf) F' → H' p = some (.lst us) → G' p = none → ¬ F' p → H1 p = none → RepAll K G' us fin → Q (.ref p) H') :
    ∀ D, H1 D = none → ∃ W : Nat → Nat → Hp → Prop, (∃ m, W 0 m (upd H1 D (.lst []))) ∧ ∀ i m H, W i m H →
      (J.stop i H ∧ Q (.ref D) H) ∨ (J.go i H ∧ ∃ Nx : Hp → Prop, (∀ H', Nx H' → ∃ m', m' < m ∧ W (i + 1) m' H') ∧ ∀ x H', J.yld i H x H' → g x (L2.wipe σ vs) H' fun σ2 H2 => L2.wipe σ2 vs = L2.wipe σ vs ∧ tt σ2 H2 fun b H3 =>
        if b = true then te σ2 H3 fun y H4 => ∃ acc, H4 D = some (.lst acc) ∧ acc.length < sizeLine ∧ Nx (upd H4 D (.lst (acc ++ [y]))) else Nx H3) := by
  intro D nD
  have nG : G1 D = none := none_of e1 nD
  have hlen : ds.length ≤ sizeLine := jk.1
  refine ⟨fun i m H => i + m = ds.length ∧ LcI K σ vs bd mt me ds F1 G1 H1 fin ρf D i H, ⟨ds.length, by omega, ?_⟩, ?_⟩
  · have nF : Slots K G1 H1 σ ρ1 (fun a => F1 a ∧ H1 a ≠ none) := by
      obtain ⟨l, f, g1, g2, g3⟩ := sl1
      refine ⟨l, fun i a => f i a ∧ H1 a ≠ none, fun i t q => ?_, fun i j a n x y => g2 i j a n x.1 y.1, fun i a x => ⟨g3 i a x.1, x.2⟩⟩
      obtain ⟨v, e2, o⟩ := g1 i t q
      exact ⟨v, e2, o.live⟩
    have st := Stp.heap e1 nD (.lst [])
    refine ⟨fun a => F1 a ∧ H1 a ≠ none, G1, ρ1, [], [], fin, ⟨st.gg, st.gh, fun a o x _ => st.fr a o x fun z => z.elim, st.th, fun a x y => absurd x y, fun a x => .inl x.1⟩, (nF.touch (fun z => z.2 nD) nG (.lst [])).wipe vs, upd_same, nG, fun z => z.2 nD, .nil, Nat.le_refl _, q, rfl⟩
  · rintro i m H ⟨him, ⟨F', G', ρ', acc, accd, rest, st, sl', hD, nG', nF', ra, hl, hq, hf⟩⟩
    cases m with
    | zero =>
      refine .inl ⟨(jk.2 F' G' H i st).2 (by omega), ?_⟩
      rw [List.drop_eq_nil_of_le (by omega)] at hq
      cases hq
      rw [List.append_nil] at hf
      subst hf
      exact h1 D acc F' G' H st (sl'.back sl1 st.gg) hD nG' nF' nD ra
    | succ m =>
      have hi : i < ds.length := by omega
      refine .inr ⟨((jk.2 F' G' H i st).1 _ (List.getElem?_eq_getElem hi)).1, fun H' => (i + 1) + m = ds.length ∧ LcI K σ vs bd mt me ds F1 G1 H1 fin ρf D (i + 1) H', fun H' w => ⟨m, Nat.lt_succ_self m, w⟩, fun x H' hy => ?_⟩
      obtain ⟨G2, st2, rx⟩ := ((jk.2 F' G' H i st).1 _ (List.getElem?_eq_getElem hi)).2 x H' hy
      rw [List.drop_eq_getElem_cons hi] at hq
      have hq' : (bd ds[i] (wipeE ρ' vs)).bind (fun ρ1 => (okO (mt ρ1)).bind fun b => if b.1 = true then (okO (me b.2)).bind fun y => (lcM vs bd mt me (ds.drop (i + 1)) y.2).map fun r => (y.1 :: r.1, r.2) else lcM vs bd mt me (ds.drop (i + 1)) b.2) = some (rest, ρf) := hq
      cases q1 : bd ds[i] (wipeE ρ' vs) with
      | none => rw [q1] at hq'; cases hq'
      | some ρ2 =>
        rw [q1] at hq'
        refine hg F' G2 H' (L2.wipe σ vs) _ ρ2 x _ _ st2.gh (sl'.pure st2) rx q1 fun σ2 sl2 l2 u2 => ?_
        have hw : L2.wipe σ2 vs = L2.wipe σ vs := by
          rw [← wipe_wipe (σ := σ)]
          exact wipe_same l2 u2 hj
        refine ⟨hw, ?_⟩
        cases q2 : okO (mt ρ2) with
        | none => rw [show (some ρ2).bind (fun ρ1 => (okO (mt ρ1)).bind fun b => if b.1 = true then (okO (me b.2)).bind fun y => (lcM vs bd mt me (ds.drop (i + 1)) y.2).map fun r => (y.1 :: r.1, r.2) else lcM vs bd mt me (ds.drop (i + 1)) b.2) = (okO (mt ρ2)).bind fun b => if b.1 = true then (okO (me b.2)).bind fun y => (lcM vs bd mt me (ds.drop (i + 1)) y.2).map fun r => (y.1 :: r.1, r.2) else lcM vs bd mt me (ds.drop (i + 1)) b.2 from rfl, q2] at hq'; cases hq'
        | some bb =>
          obtain ⟨b, ρ3⟩ := bb
          have hq2 : (if b = true then (okO (me ρ3)).bind fun y => (lcM vs bd mt me (ds.drop (i + 1)) y.2).map fun r => (y.1 :: r.1, r.2) else lcM vs bd mt me (ds.drop (i + 1)) ρ3) = some (rest, ρf) := by
            have z : (okO (mt ρ2)).bind (fun b => if b.1 = true then (okO (me b.2)).bind fun y => (lcM vs bd mt me (ds.drop (i + 1)) y.2).map fun r => (y.1 :: r.1, r.2) else lcM vs bd mt me (ds.drop (i + 1)) b.2) = some (rest, ρf) := hq'
            rw [q2] at z
            exact z
          refine ht F' G2 H' σ2 ρ2 _ st2.gh sl2 (post_ok q2 fun b' F3 G3 H3 st3 sl3 rb => ?_)
          cases (show b' = b from rb)
          have stA : Stp F1 G1 H1 F' G2 H' := st.trans st2.pure
          have dA : H' D = some (.lst acc) := st2.fr D _ hD fun z => z.elim
          have gA : G2 D = none := by
            cases z : G2 D with
            | none => rfl
            | some u =>
              rcases st2.gn D nG' (by rw [z]; exact fun y => nomatch y) with y | y
              · rw [hD] at y; cases y
              · exact y.elim
          have dB : H3 D = some (.lst acc) := st3.fr D _ dA nF'
          have gB : G3 D = none := by
            cases z : G3 D with
            | none => rfl
            | some u =>
              rcases st3.gn D gA (by rw [z]; exact fun y => nomatch y) with y | y
              · rw [dA] at y; cases y
              · exact (nF' y).elim
          have fB : ¬ F3 D := fun z => by
            rcases st3.fn D z with y | y
            · exact nF' y
            · rw [dA] at y; cases y
          have stB : Stp F1 G1 H1 F3 G3 H3 := stA.trans st3
          cases b with
          | false =>
            rw [if_neg Bool.false_ne_true] at hq2 ⊢
            refine ⟨by omega, ⟨F3, G3, ρ3, acc, accd, rest, stB, ?_, dB, gB, fB, ra.mono (st2.gg.trans st3.gg), by omega, hq2, hf⟩⟩
            rw [← hw]
            exact sl3.wipe vs
          | true =>
            rw [if_pos rfl] at hq2 ⊢
            cases q3 : okO (me ρ3) with
            | none => rw [q3] at hq2; cases hq2
            | some yy =>
              obtain ⟨y, ρ4⟩ := yy
              rw [q3] at hq2
              have hq3 : (lcM vs bd mt me (ds.drop (i + 1)) ρ4).map (fun r => (y :: r.1, r.2)) = some (rest, ρf) := hq2
              cases q4 : lcM vs bd mt me (ds.drop (i + 1)) ρ4 with
              | none => rw [q4] at hq3; cases hq3
              | some rr =>
                obtain ⟨rest', ρg⟩ := rr
                rw [q4] at hq3
                cases hq3
                refine he F3 G3 H3 σ2 ρ3 _ stB.gh sl3 (post_ok q3 fun v F4 G4 H4 st4 sl4 rv => ?_)
                have dC : H4 D = some (.lst acc) := st4.fr D _ dB fB
                have gC : G4 D = none := by
                  cases z : G4 D with
                  | none => rfl
                  | some u =>
                    rcases st4.gn D gB (by rw [z]; exact fun y => nomatch y) with y | y
                    · rw [dB] at y; cases y
                    · exact (fB y).elim
                have fC : ¬ F4 D := fun z => by
                  rcases st4.fn D z with y | y
                  · exact fB y
                  · rw [dB] at y; cases y
                refine ⟨acc, dC, by omega, by omega, ⟨F4, G4, ρ4, acc ++ [v], accd ++ [y], rest', (stB.trans st4).touch nD gC, ?_, upd_same, gC, fC, (ra.mono (st2.gg.trans (st3.gg.trans st4.gg))).append (.cons rv .nil), by rw [List.length_append]; simp only [List.length_cons, List.length_nil]; omega, q4, by rw [hf]; simp⟩⟩
                rw [← hw]
                exact (sl4.wipe vs).touch fC gC _

def mLcO (i : Nat) (vs : List Nat) (bd : D → Env → Option Env) (mt : M Bool) (me : M D) : M (List D) := fun ρ => match ownL ρ i with
  | some ds => (match lcM vs bd mt me ds (ρ.set i none) with
    | some r => if ds.length ≤ 1000000 then ret r.1 ((restE (ρ.set i none) vs r.2).set i (some (.lst (ds.map .im)))) else none
    | none => none)
  | none => none
theorem sim_lcO {K : Frg} {js vs : List Nat} {bd : D → Env → Option Env} {i : Nat} (hg : SimG K js g bd) (ht : Sim K WF relB tt mt) (he : Sim K WF (relD K) te me) (hj : ∀ j ∈ js, j ∈ vs) : SimN K W (tLc (iSeq K (tVar i)) g tt te vs) (mLcO i vs bd mt me) := by
  intro F G H σ ρ Q e sl p
  unfold mLcO at p
  cases q0 : ownL ρ i with
  | none => rw [q0] at p; exact p.elim
  | some ds =>
    rw [q0] at p
    have p1 : PostN K W σ Q F G H (match lcM vs bd mt me ds (ρ.set i none) with
      | some r => if ds.length ≤ 1000000 then MX.ret r.1 ((restE (ρ.set i none) vs r.2).set i (some (.lst (ds.map .im)))) else none
      | none => none) := p
    cases q : lcM vs bd mt me ds (ρ.set i none) with
    | none => rw [q] at p1; exact p1.elim
    | some r =>
      obtain ⟨fin, ρf⟩ := r
      rw [q] at p1
      have p2 : PostN K W σ Q F G H (if ds.length ≤ 1000000 then MX.ret fin ((restE (ρ.set i none) vs ρf).set i (some (.lst (ds.map .im)))) else none) := p1
      split at p2
      · rename_i hz
        obtain ⟨l, f, g1, g2, g3⟩ := sl
        obtain ⟨v, hv, o⟩ := g1 i _ (ownL_eq q0)
        have ol := o.live
        obtain ⟨a, us, rfl, ha, nGa, fa, rr⟩ := ol.flat
        -- what the other names own
        have hi : i < ρ.length := (List.getElem?_eq_some_iff.mp (ownL_eq q0)).1
        have sl1 : Slots K G H σ (ρ.set i none) (fun a => ∃ j, j ≠ i ∧ f j a) := by
          refine ⟨by simpa using l, fun j a => j ≠ i ∧ f j a, fun j t ej => ?_, fun j k a n x y => g2 j k a n x.2 y.2, fun j a x => ⟨j, x⟩⟩
          have c : j ≠ i := fun z => by
            subst z
            rw [List.getElem?_set_self hi] at ej
            cases ej
          rw [List.getElem?_set_ne (fun z => c z.symm)] at ej
          obtain ⟨w, e3, ow⟩ := g1 j t ej
          exact ⟨w, e3, ow.wide fun a x => ⟨c, x⟩⟩
        have na : ¬ ∃ j, j ≠ i ∧ f j a := fun ⟨j, c, x⟩ => g2 j i a c x fa.1
        refine ⟨_, hv, a, rfl, .inl ⟨us, SqL.of ha, fun hlen => ?_⟩⟩
        have jk : JOkF (Itl K a) K (fun a => ∃ j, j ≠ i ∧ f j a) G H ds := by
          refine ⟨by rw [← rr.1]; exact hlen, fun F' G' H' k st => ?_⟩
          have ha' : H' a = some (.lst us) := st.fr a _ ha na
          refine ⟨fun d hd => ?_, fun hk => ⟨us, SqL.of ha', by rw [rr.1]; exact hk⟩⟩
          obtain ⟨v, hv', rv⟩ := (rr.mono st.gg).get hd
          refine ⟨⟨us, v, SqL.of ha', hv'⟩, fun x H'' ⟨e', qq⟩ => ?_⟩
          subst e'
          have := qq us (SqL.of ha')
          rw [hv'] at this
          cases this
          exact ⟨G', .refl st.gh, rv⟩
        refine lc_ownCore hg ht he hj e sl1 jk q fun D acc F' G' H' st sl' hD nD nF' nH ra => ?_
        have of : Own K G' H' (.ref a) (.lst (ds.map .im)) (fun a => f i a ∧ H a ≠ none) := ol.step st fun b x y => by
          obtain ⟨j, c, z⟩ := y
          exact g2 j i b c z x.1
        have dj : ∀ b, f i b ∧ H b ≠ none → ¬ F' b := fun b x y => by
          rcases st.fn b y with ⟨j, c, z⟩ | z
          · exact g2 j i b c z x.1
          · exact x.2 z
        have sl2 := sl'.set of dj i
        have es : σ.set i (some (.ref a)) = σ := by
          apply List.ext_getElem?
          intro j
          by_cases c : j = i
          · subst c
            rw [List.getElem?_set_self (by rw [l]; exact hi), hv]
          · rw [List.getElem?_set_ne (fun z => c z.symm)]
        rw [es] at sl2
        refine p2 D acc _ G' H' ⟨st.gg, st.gh, fun b o x n => st.fr b o x fun ⟨j, c, z⟩ => n (g3 j b z), st.th, fun b x y => (st.gn b x y).imp id fun ⟨j, c, z⟩ => g3 j b z, fun b x => ?_⟩ sl2 hD nD (fun z => ?_) nH ra
        · rcases x with x | x
          · exact (st.fn b x).imp (fun ⟨j, c, z⟩ => g3 j b z) id
          · exact .inl (g3 i b x.1)
        · rcases z with z | z
          · exact nF' z
          · exact z.2 nH
      · exact p2.elim
theorem Nw.lcO {js : List Nat} {bd : D → Env → Option Env} {scope : Scope} {own : List (Str × Nat)} {x : Str} {xp : Pos} (i : Nat) (hc : X.calm = true) (hN : X.N.Nodup) (ok : BlkOk X.N X.env.scope scope own)
    (hg : ∀ (s : Shared) (H : Hp) (C : Addr) (cl : List (Str × Addr)) (fp : List Addr), ∃ g, Tg (X.blk s H scope (compEnvC scope cl C X.env) fp) tg js g bd)
    (ht : ∀ (s : Shared) (H : Hp) (C : Addr) (cl : List (Str × Addr)) (fp : List Addr), ∃ tt, Ts (X.blk s H scope (compEnvC scope cl C X.env) fp) WF ifs tt mt)
    (he : ∀ (s : Shared) (H : Hp) (C : Addr) (cl : List (Str × Addr)) (fp : List Addr), ∃ te, Ex (X.blk s H scope (compEnvC scope cl C X.env) fp) WF e te me)
    (hj : ∀ j ∈ js, j ∈ own.map (·.2)) (hx : X.N[i]? = some x := by rfl) (hv : Vis X.env.scope x := by first | exact Or.inl rfl | exact Or.inr (Or.inl rfl) | exact Or.inr (Or.inr rfl)) (hd : (x == ("__debug__" : Str)) = false := by decide) (hcd : (x == ("__classdict__" : Str)) = false := by decide)
    (hs : ∀ z, foldedSetIterable (.Name x xp) X.env z = pure z := by intro _; rfl) :
    Nw X W (.ListComp e [⟨tg, .Name x xp, ifs, 0⟩] scope pos) (tLc (iSeq X.K (tVar i)) (gMir X.K js bd) (tMirB X.K mt) (tMir X.K me) (own.map (·.2))) (mLcO i (own.map (·.2)) bd mt me) :=
  ⟨pe_lc hc hN (pi_seq (pe_var hx hv hd hcd)) ok (fun s H C cl fp => (Tg.mir (hg s H C cl fp)).pg) (fun s H C cl fp => (Ts.mir (ht s H C cl fp)).pt) (fun s H C cl fp => (Ex.mir (he s H C cl fp)).pe) hs,
    sim_lcO (Tg.mir (hg X.s_0 X.H_0 0 [] [])).sim (Ts.mir (ht X.s_0 X.H_0 0 [] [])).sim (Ex.mir (he X.s_0 X.H_0 0 [] [])).sim hj⟩
theorem Sm.setLcX {kp js : List Nat} {bd : D → Env → Option Env} {scope : Scope} {own : List (Str × Nat)} {x y : Str} {xp py spos : Pos} (k i : Nat) (hc : X.calm = true) (hN : X.N.Nodup) (ok : BlkOk X.N X.env.scope scope own)
    (hg : ∀ (s : Shared) (H : Hp) (C : Addr) (cl : List (Str × Addr)) (fp : List Addr), ∃ g, Tg (X.blk s H scope (compEnvC scope cl C X.env) fp) tg js g bd)
    (ht : ∀ (s : Shared) (H : Hp) (C : Addr) (cl : List (Str × Addr)) (fp : List Addr), ∃ tt, Ts (X.blk s H scope (compEnvC scope cl C X.env) fp) WF ifs tt mt)
    (he : ∀ (s : Shared) (H : Hp) (C : Addr) (cl : List (Str × Addr)) (fp : List Addr), ∃ te, Ex (X.blk s H scope (compEnvC scope cl C X.env) fp) WF e te me)
    (hj : ∀ j ∈ js, j ∈ own.map (·.2)) (hx : X.N[i]? = some x := by rfl) (hv : Vis X.env.scope x := by first | exact Or.inl rfl | exact Or.inr (Or.inl rfl) | exact Or.inr (Or.inr rfl)) (hd : (x == ("__debug__" : Str)) = false := by decide) (hcd : (x == ("__classdict__" : Str)) = false := by decide)
    (hy : X.N[k]? = some y := by rfl) (hyl : X.env.scope.names.lookup y = some .local := by rfl) (hk : k ∉ kp := by decide)
    (hsw : swapsWith (.ListComp e [⟨tg, .Name x xp, ifs, 0⟩] scope pos) (some (.Name y py)) spos.line X.env = pure true := by exact sw_true rfl rfl rfl (by decide +kernel)) (hs : ∀ z, foldedSetIterable (.Name x xp) X.env z = pure z := by intro _; rfl) :
    Sm X W kp (.Assign [.Name y py] (.ListComp e [⟨tg, .Name x xp, ifs, 0⟩] scope pos) spos) (tAsg (tLc (iSeq X.K (tVar i)) (gMir X.K js bd) (tMirB X.K mt) (tMir X.K me) (own.map (·.2))) (gName k)) (nSet k (mFz (mLcO i (own.map (·.2)) bd mt me))) :=
  ⟨ps_setLc hc hN hy hyl hsw (pi_seq (pe_var hx hv hd hcd)) ok (fun s H C cl fp => (Tg.mir (hg s H C cl fp)).pg) (fun s H C cl fp => (Ts.mir (ht s H C cl fp)).pt) (fun s H C cl fp => (Ex.mir (he s H C cl fp)).pe) hs,
    sim_set hk (sim_fz (sim_lcO (Tg.mir (hg X.s_0 X.H_0 0 [] [])).sim (Ts.mir (ht X.s_0 X.H_0 0 [] [])).sim (Ex.mir (he X.s_0 X.H_0 0 [] [])).sim hj))⟩
end
end MX

namespace PySem.SeqAt
open AutoSeq1 (wpAny_loadPart')
open MeetsSeq PySem.SeqRoads2
section
variable {prog : Program} {w : World} {A : Around} {E : Value → Shared → Prop} {s : Shared}
theorem mx_dict_no {l : Addr} {b : Value} {T : String} {Q : Value → Shared → Prop} (ha : s.TypeIs (.ref l) "dict") (hb : s.TypeIs b T) (sub : isSubtype (.type T) (.type "dict") = pure false) (h : Q .notImplemented s) :
    wpAny (model prog w) A (call (.builtin "dict.__eq__") [.ref l, b]) Q E s := by
  refine wpAny_call_entry PySem.F.slot_dict_eq ha PySem.F.entry_dict_eq ?_ (PySem.F.args_dict_eq_2 _ _)
  show wpAny _ _ (Builtin.Dict.dictSlotArgs "__eq__" ⟨[.ref l, b], []⟩ >>= _) _ _ s
  refine wpAny_bind ?_
  unfold Builtin.Dict.dictSlotArgs
  refine wpAny_bind (wpAny_notOrdered_dict ha ?_)
  show wpAny _ _ (pure (Value.ref l, b)) _ _ s
  refine wpAny_pure ?_
  refine wpAny_bind (wpAny_isInstance (T := T) hb sub ?_)
  simp only [Bool.not_false, if_true]
  refine wpAny_bind (wpAny_rule (wpAny_pure ?_))
  exact ⟨_, rfl, h⟩
theorem mx_int_dict (b : Int) (u : Tok) (l : Addr) (c : Value) (es : Array DictEntry) (ep : Nat) (dd : Option Addr) (sl : Array (Option Value)) :
    Meets (Builtin.«int.__eq__» ⟨[.int b u, .ref l], []⟩) (fun _ R s => s.heap.get? l = some { cls := c, dict := dd, data := .dict es ep, slots := sl } ∧ R (.ok (.ret .notImplemented)) s) :=
  .of_wp fun prog w A R s h => by obtain ⟨hp, g, d, tk, os⟩ := s; obtain ⟨hl, h⟩ := h; wp_walk using wpAny_loadPart' hl, wpAny_load hl; exact ⟨_, rfl, h⟩
theorem mx_tup_dict (l b : Addr) (items : Array Value) (n : Nat) (es : Array DictEntry) (ep : Nat) (dd dd2 : Option Addr) (sl sl2 : Array (Option Value)) :
    Meets (Builtin.«tuple.__eq__» ⟨[.ref l, .ref b], []⟩) (fun _ R s => s.heap.get? l = some { cls := .type "tuple", dict := dd, data := .seq items n, slots := sl } ∧ s.heap.get? b = some { cls := .type "dict", dict := dd2, data := .dict es ep, slots := sl2 } ∧ R (.ok (.ret .notImplemented)) s) :=
  .of_wp fun prog w A R s h => by obtain ⟨hp, g, d, tk, os⟩ := s; obtain ⟨hl, hb, h⟩ := h; have f1 := F.sub_dict_tuple; wp_walk using wpAny_loadPart' hl, wpAny_loadPart' hb; exact ⟨_, rfl, h⟩
theorem mx_tup_loop {R : Result → Shared → Prop} (p q : Addr) (us vs : Array Value) (n m : Nat) (dp dq : Option Addr) (sp sq : Array (Option Value)) (I : Nat → Shared → Prop)
    (turn : ∀ k (hu : k < us.size) (hv : k < vs.size) z, I k z → wpAny (model prog w) A.in1 (eqBool us[k] vs[k]) (fun r z' => (r = true → I (k + 1) z') ∧ (r = false → R (.ok (.ret (.bool false))) z')) (fun er z' => R (.error er) z') z)
    (fin : ∀ z, I (min us.size vs.size) z → R (.ok (.ret (.bool (us.size == vs.size)))) z) {z : Shared} (hp : z.heap.get? p = some { cls := .type "tuple", dict := dp, data := .seq us n, slots := sp }) (hq : z.heap.get? q = some { cls := .type "tuple", dict := dq, data := .seq vs m, slots := sq }) (h0 : I 0 z) :
    wpAny (model prog w) A.in1 (Builtin.«tuple.__eq__» ⟨[.ref p, .ref q], []⟩) (GQ.FinOf prog w A R) (fun er z' => R (.error er) z') z := by
  have fs := AutoSeq1.sub_tuple_tuple
  have zl : (us.toList.zip vs.toList).length = min us.size vs.size := by simp
  have start := h0
  obtain ⟨hh, gg, dd, tt, oo⟩ := z
  wp_walk using wpAny_loadPart' hp, wpAny_loadPart' hq, wpAny_forIn_list _ (fun more acc z' => acc.1 = none ∧ ∃ k, more = (us.toList.zip vs.toList).drop k ∧ k ≤ min us.size vs.size ∧ I k z') _
  case turn =>
    rintro ⟨y, x⟩ more acc z' ⟨ha, k, hm, hk, hI⟩
    have lt : k < (us.toList.zip vs.toList).length := by
      rcases Nat.lt_or_ge k (us.toList.zip vs.toList).length with c | c
      · exact c
      · rw [List.drop_of_length_le c] at hm; cases hm
    have lm : k < min us.size vs.size := zl ▸ lt
    have k1 : k < us.size := Nat.lt_of_lt_of_le lm (Nat.min_le_left _ _)
    have k2 : k < vs.size := Nat.lt_of_lt_of_le lm (Nat.min_le_right _ _)
    rw [List.drop_eq_getElem_cons lt] at hm
    injection hm with eyx em
    have ey : y = us[k] := by have := congrArg Prod.fst eyx; simpa using this
    have ex : x = vs[k] := by have := congrArg Prod.snd eyx; simpa using this
    subst ey ex
    refine wpAny_bind (wpAny_mono (turn k k1 k2 z' hI) (fun r z2 w2 => ?_) fun _ _ w => w)
    obtain ⟨w3, w4⟩ := w2
    cases r with
    | true =>
      have w5 := w3 rfl
      wp_walk
      exact ⟨rfl, k + 1, em, lm, w5⟩
    | false =>
      have w5 := w4 rfl
      wp_walk
      exact w5
  case fin =>
    rintro ⟨b1, b2⟩ z' ⟨ha, k, hm, hk, hI⟩
    simp only at ha
    subst ha
    have ge : min us.size vs.size ≤ k := by
      rcases Nat.lt_or_ge k (us.toList.zip vs.toList).length with c | c
      · rw [List.drop_eq_getElem_cons c] at hm; cases hm
      · exact zl ▸ c
    have ek : k = min us.size vs.size := Nat.le_antisymm hk ge
    have hR := fin z' (ek ▸ hI)
    wp_walk
    simpa [Builtin.Tuple.tupleCompareSizes] using hR
  case h =>
    exact ⟨rfl, 0, rfl, Nat.zero_le _, start⟩
theorem mx_rc_tup {p q : Addr} {us vs : Array Value} {Q : Value → Shared → Prop} (hu : A.units < cLine) (I : Nat → Shared → Prop) (hp : s.heap.IsTuple p us) (hq : s.heap.IsTuple q vs)
    (turn : ∀ k (h1 : k < us.size) (h2 : k < vs.size) z, I k z → wpAny (model prog w) A.in1 (eqBool us[k] vs[k]) (fun r z' => (r = true → I (k + 1) z') ∧ (r = false → Q (.bool false) z')) E z)
    (fin : ∀ z, I (min us.size vs.size) z → Q (.bool (us.size == vs.size)) z) (h : I 0 s) : wpAny (model prog w) A (richCompare .Eq (.ref p) (.ref q)) Q E s := by
  obtain ⟨⟨c1, d1, t1, l1⟩, o1, e1, n1, f1⟩ := id hp
  obtain ⟨⟨c2, d2, t2, l2⟩, o2, e2, n2, f2⟩ := id hq
  simp only at e1 f1 e2 f2
  subst e1 f1 e2 f2
  refine wpAny_richCompare_same_room (op := .Eq) ⟨_, o1, rfl⟩ ⟨_, o2, rfl⟩ F.slot_tuple_eq (GQ.call_here F.slot_tuple_eq ⟨_, o1, rfl⟩ F.entry_tuple_eq (F.args_tuple_eq_2 _ _) ?_) hu
  exact mx_tup_loop (R := wants (fun v z' => v ≠ .notImplemented ∧ Q v z') E) p q us vs n1 n2 d1 d2 l1 l2 I
    (fun k k1 k2 z hz => wpAny_mono (turn k k1 k2 z hz) (fun r z' w => ⟨w.1, fun c => ⟨(fun x => nomatch x), w.2 c⟩⟩) fun _ _ w => w) (fun z hz => ⟨(fun x => nomatch x), fin z hz⟩) o1 o2 h
end
end PySem.SeqAt
namespace MX
open PySem PySem.Spec PyProof.Rows L2
/-! ### == where a thing on the left may be anything, the right one numbers and tuples of them -/
mutual
def isI : D → Bool
  | .int _ => true
  | .tup ds => isIs ds
  | _ => false
def isIs : List D → Bool
  | [] => true
  | d :: ds => isI d && isIs ds
end
mutual
def okD : D → Bool
  | .non => true
  | .bl _ => true
  | .int _ => true
  | .str _ => true
  | .lst ds => okDs ds
  | .tup ds => okDs ds
  | .dk _ => true
  | .obj _ _ => true
  | _ => false
def okDs : List D → Bool
  | [] => true
  | d :: ds => okD d && okDs ds
end
def eqL (f : D → D → Option Bool) : List D → List D → Option Bool
  | [], [] => some true
  | [], _ :: _ => some false
  | _ :: _, [] => some false
  | a :: as, b :: bs => match f a b with
    | some true => eqL f as bs
    | r => r
def eqS (cs : List Nat) (feq : Fn) (f : D → D → Option Bool) (a b : D) : Option Bool := if (okD a && isI b && !isI a) = true then (match a, b with
  | .tup as, .tup bs => eqL f as bs
  | .tup _, .int _ => some false
  | .lst _, .tup _ => some false
  | .lst _, .int _ => some false
  | .dk _, .tup _ => some false
  | .dk _, .int _ => some false
  | .obj c _, _ => if c ∈ cs then (match feq [.im a, .im b] with
    | some (.ok (.im (.bl r)), _) => some r
    | _ => none) else none
  | _, _ => none) else none
def eqX (cs : List Nat) (feq : Fn) : Nat → D → D → Option Bool
  | 0, _, _ => none
  | n + 1, a, b => match eqB a b with
    | some r => some r
    | none => eqS cs feq (eqX cs feq n) a b
theorem okDs_mem : ∀ {ds : List D} {d : D} {i : Nat}, okDs ds = true → ds[i]? = some d → okD d = true
  | e :: ds, d, 0, h, q => by
    cases q
    exact (He.ba (show (okD e && okDs ds) = true by rw [← h]; rfl)).1
  | e :: ds, d, i + 1, h, q => okDs_mem (He.ba (show (okD e && okDs ds) = true by rw [← h]; rfl)).2 (by simpa using q)
theorem isIs_mem : ∀ {ds : List D} {d : D} {i : Nat}, isIs ds = true → ds[i]? = some d → isI d = true
  | e :: ds, d, 0, h, q => by
    cases q
    exact (He.ba (show (isI e && isIs ds) = true by rw [← h]; rfl)).1
  | e :: ds, d, i + 1, h, q => isIs_mem (He.ba (show (isI e && isIs ds) = true by rw [← h]; rfl)).2 (by simpa using q)
theorem isIs_of : ∀ {ds : List D}, (∀ (i : Nat) (d : D), ds[i]? = some d → isI d = true) → isIs ds = true
  | [], _ => rfl
  | d :: ds, h => by
    show (isI d && isIs ds) = true
    rw [h 0 d rfl, isIs_of fun i e q => h (i + 1) e (by simpa using q)]; rfl
/-- one thing seen as both: then both are plain -/
theorem both_I {K : Frg} {G : Hp} {v : V} {b : D} (rb : Rep K G v b) : isI b = true → ∀ a : D, okD a = true → Rep K G v a → isI a = true := by
  induction rb with
  | int i => intro _ a ok ra; cases ra; rfl
  | @tup p vs ds s l h ih =>
    intro hb a ok ra
    cases ra with
    | tup s2 l2 h2 =>
      rw [s] at s2
      cases s2
      refine isIs_of fun i d q => ?_
      have hi : i < _ := (List.getElem?_eq_some_iff.mp q).1
      have hv : i < vs.length := by rw [l2]; exact hi
      have he : i < ds.length := by rw [← l]; exact hv
      exact ih i vs[i] ds[i] (List.getElem?_eq_getElem hv) (List.getElem?_eq_getElem he) (isIs_mem hb (List.getElem?_eq_getElem he)) d (okDs_mem ok q) (h2 i vs[i] d (List.getElem?_eq_getElem hv) q)
    | lst s2 _ _ => rw [s] at s2; cases s2
    | obj s2 _ _ => rw [s] at s2; cases s2
    | dk s2 _ _ => rw [s] at s2; cases s2
    | tupx s2 _ _ _ _ => cases ok
    | dt s2 _ _ => cases ok
    | scr s2 => cases ok
    | cls c => cases ok
    | xo0 s2 => cases ok
    | xo s2 _ _ _ => cases ok
  | _ => intro hb; cases hb
end MX
namespace MX
open PySem PySem.Spec PyProof.Rows L2
/-- class c's own == has the mirror feq, on the level m -/
def EqOkM (X : Cx) (feq : Fn) (m : Nat) (c : Nat) : Prop := ∃ (f : Addr) (fd : FuncData) (ps : List Str), FnOk X.prog X.w X.K X.mg X.base (L2.CX X.prog X.w) m f fd ps (spM X.K 2 feq) ∧ Meth X.K (cadr X.K c) "__eq__" f ∧ Binds X.K fd ps []
section
variable {X : Cx} {cs : List Nat} {feq : Fn} {m : Nat}
def EndX (X : Cx) (pins : List (Addr × Obj)) (σ : L2.St) (G H : Hp) (s' : Shared) : Prop := ∃ G' H', L2.Inv X pins σ H' s' ∧ Stp F0 G H F0 G' H'
theorem subT_own {K : Frg} {C : Addr} (T : String) (h : T = "int" ∨ T = "tuple") : PySem.W.subIn K (.type T) (.ref C) = some false := by
  rcases h with rfl | rfl
  · show (fastBuiltinMro "int").map (fun l => l.contains (.ref C)) = some false
    rfl
  · show (fastBuiltinMro "tuple").map (fun l => l.contains (.ref C)) = some false
    rfl
/-- what stands on the right, as a value -/
theorem typ_I {pins : List (Addr × Obj)} {σ : L2.St} {H G : Hp} {s : Shared} (I : L2.Inv X pins σ H s) (e : Same G H) {b : D} (hb : isI b = true) {y : V} {v : Value} (rb : Rep X.K G y b) (ry : RelV y v) :
    (∃ i t, v = .int i t ∧ y = .int i) ∨ ∃ q ys bs its, b = .tup bs ∧ y = .ref q ∧ v = .ref q ∧ G q = some (.tup ys) ∧ RepAll X.K G ys bs ∧ Vals ys its ∧ s.heap.IsTuple q its.toArray := by
  cases b with
  | int i =>
    cases rb
    obtain ⟨t, rfl⟩ := ry
    exact .inl ⟨i, t, rfl, rfl⟩
  | tup bs =>
    obtain ⟨q, ys, rfl, hq, r⟩ := tup_of rb
    obtain ⟨its, hv, ht, _⟩ := I.tuple (SqT.of (e _ _ hq))
    exact .inr ⟨q, ys, bs, its, rfl, rfl, ry, hq, r, hv, ht⟩
  | _ => cases hb
theorem run_eqV {A : Around} {f : Addr} {fd : FuncData} {ps : List Str} {n : Nat} {sp : Sp} (F : FnOk X.prog X.w X.K X.mg X.base (L2.CX X.prog X.w) n f fd ps sp) (hb : Binds X.K fd ps []) {pins : List (Addr × Obj)} {σ : L2.St} {H : Hp} {s : Shared} (I : L2.Inv X pins σ H s) (hr : Room n A) (hfr : A.frames = X.A.frames) {x y : V} {u v : Value} (rx : RelV x u) (ry : RelV y v) {Q : VK}
    (hsp : sp [x, y] H (fun w H' => ∃ r, w = .bl r ∧ Q (.bl r) H') fun _ _ _ => False) : wpAny (model X.prog X.w) A (call (.ref f) [u, v]) (fun w s' => ∃ r, w = .bool r ∧ ∃ H', L2.Inv X pins σ H' s' ∧ Q (.bl r) H') X.xe s := by
  have env : Env0 X.prog X.w X.K X.mg X.base A X.stack s H := by
    have en := I.env0
    exact ⟨by rw [hfr]; exact en.frames, en.mod, en.bs, en.bsz, en.funs, en.frf, en.hok, en.bare⟩
  have ln := F.len _ _ _ _ hsp
  have two : Vals [x, y] [u, v] := .cons rx (.cons ry .nil)
  refine wpAny_call (codeAny_mono (F.run A X.stack s H ⟨[u, v], []⟩ [u, v] [x, y] _ _ hr env (by
    have bb := hb s [u, v] I.kIn (by simpa using ln)
    simpa using bb) two hsp) fun r s' hq => ?_)
  cases r with
  | error z => exact (show False from let ⟨_, _, _, _, _, _, _, _, _, _, _, _, w⟩ := hq; w).elim
  | ok fl =>
    cases fl with
    | ret w =>
      obtain ⟨z, H', I', rz, r, ez, q⟩ := I.after hq
      subst ez
      cases rz
      exact ⟨r, rfl, H', I', q⟩
    | _ => exact False.elim hq
theorem Room.units' {n : Nat} {A : Around} (h : Room n A) : A.units + 64 < cLine := h.units
/-- the rich comparison of what is no plain data -/
theorem rcS_run (ok : ∀ c ∈ cs, EqOkM X feq m c) {n : Nat} {f : D → D → Option Bool}
    (ih : ∀ (A : Around) (pins : List (Addr × Obj)) (s : Shared) (σ : L2.St) (G H : Hp) (x y : V) (u v : Value) (a b : D) (r : Bool), Sub X (n + m) A → L2.Inv X pins σ H s → Same G H → Rep X.K G x a → Rep X.K G y b → RelV x u → RelV y v → f a b = some r →
      wpAny (model X.prog X.w) A (eqBool u v) (fun z s' => z = r ∧ EndX X pins σ G H s') X.xe s)
    (A : Around) (pins : List (Addr × Obj)) (s : Shared) (σ : L2.St) (G H : Hp) (x y : V) (u v : Value) (a b : D) (r : Bool) (sb : Sub X (n + m + 1) A) (I : L2.Inv X pins σ H s) (e : Same G H) (ra : Rep X.K G x a) (rb : Rep X.K G y b) (rx : RelV x u) (ry : RelV y v)
    (h : eqS cs feq f a b = some r) : wpAny (model X.prog X.w) A (richCompare .Eq u v) (fun z s' => z = .bool r ∧ EndX X pins σ G H s') X.xe s := by
  have hu : A.units < cLine := sb.room.units0
  unfold eqS at h
  split at h
  · rename_i hc
    obtain ⟨hc1, hc2⟩ := He.ba hc
    obtain ⟨oka, ib⟩ := He.ba hc1
    have here : EndX X pins σ G H s := ⟨G, H, I, .refl e⟩
    rcases typ_I I e ib rb ry with ⟨i, t, rfl, rfl⟩ | ⟨q, ys, bs, its2, rfl, rfl, rfl, hq, rys, hv2, ht2⟩
    · cases rb
      cases a with
      | tup as =>
        cases h
        obtain ⟨p, xs, rfl, hp, rxs⟩ := tup_of ra
        obtain rfl : u = Value.ref p := rx
        obtain ⟨its, _, ht, _⟩ := I.tuple (SqT.of (e _ _ hp))
        exact SeqAt.RcAt.tuple_int i t ht hu _ _ _ _ ⟨rfl, here⟩
      | lst as =>
        cases h
        obtain ⟨p, xs, rfl, hp, rxs⟩ := repAll_of_lst ra
        obtain rfl : u = Value.ref p := rx
        obtain ⟨_, its, k, _, ho⟩ := I.hok p _ (e _ _ hp)
        exact SeqAt.RcAt.list_int i t ⟨_, ho, rfl, k, rfl⟩ hu _ _ _ _ ⟨rfl, here⟩
      | dk gs =>
        cases h
        cases ra with
        | @dk p kvs _ hp l _ =>
          obtain rfl : u = Value.ref p := rx
          obtain ⟨_, _, vs, _, o, es, ep, ho, hx, hd, _⟩ := I.hok p _ (e _ _ hp)
          have tp : s.TypeIs (.ref p) "dict" := ⟨_, ho, hx.1⟩
          obtain ⟨oc, od, oda, osl⟩ := o
          obtain ⟨x1, x2, x3⟩ := hx
          dsimp only at x1 x2 x3 hd
          subst x1 x2 x3 hd
          exact SeqAt.rc_eq_decline_or (k := false) tp (typeIs_int s i t) (by decide) F.sub_int_dict F.slot_dict_eq F.slot_int_eq_refl
            (fun _ z => SeqAt.mx_dict_no tp (typeIs_int s i t) F.sub_int_dict z)
            (fun _ z => call_meets F.slot_int_eq_refl (typeIs_int s i t) F.entry_int_eq (F.args_int_eq_2 _ _) (SeqAt.mx_int_dict i t p _ _ _ _ _) ⟨ho, z⟩)
            (fun _ z => wpAny_of_eq (rfl : isSame (.ref p) (.int i t) = pure false) z) (.inr hu) ⟨rfl, here⟩
      | obj c fs =>
        have h' : (if c ∈ cs then (match feq [.im (.obj c fs), .im (.int i)] with
          | some (.ok (.im (.bl r)), _) => some r
          | _ => none) else none) = some r := h
        split at h'
        · rename_i hcc
          obtain ⟨f1, fd, ps, FF, hm, hbd⟩ := ok c hcc
          obtain ⟨m1, m2, m3⟩ := hm
          have ra0 := ra
          cases ra with
          | @obj p dx _ fsV _ hp l rr =>
            obtain rfl : u = Value.ref p := rx
            obtain ⟨mA, J, _⟩ := ins_get I.hok (e _ _ hp)
            obtain ⟨od, J, _⟩ := J.look
            refine rich_left hu I.kIn J (PySem.W.Looks.of_pure (by rfl)) (.inr (subT_own "int" (.inl rfl))) (try_eq I.kIn J m1 m2 (wpAny_mono (run_eqV (x := .ref p) (y := .int i) (u := .ref p) (v := .int i t) (Q := fun w H' => w = .bl r ∧ ∃ G', Stp F0 G H F0 G' H') FF hbd I (sb.room.mono (by omega)) sb.fr rfl ry ?_) (fun w s' ⟨r', e1, H', I', e2, G', st⟩ => ⟨r', e1, _, rfl, by cases e2; exact e1 ▸ rfl, G', H', I', st⟩) fun _ _ z => z))
            refine ⟨F0, G, [.im (.obj c fs), .im (.int i)], rfl, e, owns_im (ds := [.obj c fs, .int i]) (.cons ra0 (.cons (.int i) .nil)), ?_⟩
            split at h'
            · rename_i r' ts' q2
              cases h'
              rw [q2]
              intro w Fa Fv G' H' st os ow dj
              cases ow with
              | im rv => cases rv; exact ⟨r, rfl, rfl, G', st.shut⟩
            · cases h'
        · cases h'
      | _ => first | cases h | cases oka
    · cases a with
      | tup as =>
        have h' : eqL f as bs = some r := h
        obtain ⟨p, xs, rfl, hp, rxs⟩ := tup_of ra
        obtain rfl : u = Value.ref p := rx
        obtain ⟨its, hv, ht, _⟩ := I.tuple (SqT.of (e _ _ hp))
        have la : its.toArray.size = as.length := by rw [List.size_toArray, ← hv.length, rxs.1]
        have lb : its2.toArray.size = bs.length := by rw [List.size_toArray, ← hv2.length, rys.1]
        refine SeqAt.mx_rc_tup hu (fun k z => EndX X pins σ G H z ∧ eqL f (as.drop k) (bs.drop k) = some r) ht ht2 (fun k k1 k2 z hz => ?_) (fun z hz => ?_) ⟨here, by simpa using h'⟩
        · obtain ⟨⟨G1, H1, I1, st⟩, hr⟩ := hz
          have a1 : k < as.length := by rw [← la]; exact k1
          have b1 : k < bs.length := by rw [← lb]; exact k2
          rw [List.drop_eq_getElem_cons a1, List.drop_eq_getElem_cons b1] at hr
          have x1 : k < xs.length := by rw [rxs.1]; exact a1
          have y1 : k < ys.length := by rw [rys.1]; exact b1
          obtain ⟨w1, g1, r1⟩ := hv.get (List.getElem?_eq_getElem x1)
          obtain ⟨w2, g2, r2⟩ := hv2.get (List.getElem?_eq_getElem y1)
          have t1 : its.toArray[k] = w1 := by
            have := (List.getElem?_eq_some_iff.mp g1).2
            simpa using this
          have t2 : its2.toArray[k] = w2 := by
            have := (List.getElem?_eq_some_iff.mp g2).2
            simpa using this
          rw [t1, t2]
          have hr' : (match f as[k] bs[k] with
            | some true => eqL f (as.drop (k + 1)) (bs.drop (k + 1))
            | q => q) = some r := hr
          cases q : f as[k] bs[k] with
          | none => rw [q] at hr'; cases hr'
          | some c =>
            rw [q] at hr'
            refine wpAny_mono (ih A.in1 pins z σ G1 H1 xs[k] ys[k] w1 w2 as[k] bs[k] c sb.in1 I1 st.gh ((rxs.2 k _ _ (List.getElem?_eq_getElem x1) (List.getElem?_eq_getElem a1)).mono st.gg) ((rys.2 k _ _ (List.getElem?_eq_getElem y1) (List.getElem?_eq_getElem b1)).mono st.gg) r1 r2 q) (fun c' z' w => ?_) fun _ _ w => w
            obtain ⟨rfl, G2, H2, I2, st2⟩ := w
            cases c' with
            | true => exact ⟨fun _ => ⟨⟨G2, H2, I2, st.trans st2⟩, hr'⟩, fun w => (nomatch w)⟩
            | false => exact ⟨fun w => (nomatch w), fun _ => ⟨by cases hr'; rfl, G2, H2, I2, st.trans st2⟩⟩
        · obtain ⟨hz, hr⟩ := hz
          refine ⟨?_, hz⟩
          rw [la, lb] at hr ⊢
          rcases Nat.lt_trichotomy as.length bs.length with c | c | c
          · rw [Nat.min_eq_left (Nat.le_of_lt c), List.drop_length, List.drop_eq_getElem_cons c] at hr
            cases hr
            simp [Nat.ne_of_lt c]
          · rw [c, Nat.min_self] at hr
            rw [List.drop_of_length_le (Nat.le_of_eq c), List.drop_length] at hr
            cases hr
            simp [c]
          · rw [Nat.min_eq_right (Nat.le_of_lt c), List.drop_length, List.drop_eq_getElem_cons c] at hr
            cases hr
            simp [Nat.ne_of_gt c]
      | lst as =>
        cases h
        obtain ⟨p, xs, rfl, hp, rxs⟩ := repAll_of_lst ra
        obtain rfl : u = Value.ref p := rx
        obtain ⟨_, its, k, _, ho⟩ := I.hok p _ (e _ _ hp)
        exact SeqAt.RcAt.list_tuple ⟨_, ho, rfl, k, rfl⟩ ht2 hu _ _ _ _ ⟨rfl, here⟩
      | dk gs =>
        cases h
        cases ra with
        | @dk p kvs _ hp l _ =>
          obtain rfl : u = Value.ref p := rx
          obtain ⟨_, _, vs, _, o, es, ep, ho, hx, hd, _⟩ := I.hok p _ (e _ _ hp)
          obtain ⟨⟨c2, d2, t2, l2⟩, o2, e2, n2, f2⟩ := id ht2
          simp only at e2 f2
          subst e2 f2
          have tp : s.TypeIs (.ref p) "dict" := ⟨_, ho, hx.1⟩
          have tq : s.TypeIs (.ref q) "tuple" := ⟨_, o2, rfl⟩
          obtain ⟨oc, od, oda, osl⟩ := o
          obtain ⟨x1, x2, x3⟩ := hx
          dsimp only at x1 x2 x3 hd
          subst x1 x2 x3 hd
          have ne : p ≠ q := fun z => by
            subst z
            have w := congrArg Obj.cls (Option.some.inj (ho.symm.trans o2))
            simp at w
          exact SeqAt.rc_eq_decline_or (k := false) tp tq (by decide) F.sub_tuple_dict F.slot_dict_eq F.slot_tuple_eq_refl
            (fun _ z => SeqAt.mx_dict_no tp tq F.sub_tuple_dict z)
            (fun _ z => call_meets F.slot_tuple_eq_refl tq F.entry_tuple_eq (F.args_tuple_eq_2 _ _) (SeqAt.mx_tup_dict q p _ _ _ _ _ _ _ _) ⟨o2, ho, z⟩)
            (fun _ z => wpAny_isSame_ref_other ne ho o2 (by simp) z) (.inr hu) ⟨rfl, here⟩
      | obj c fs =>
        have h' : (if c ∈ cs then (match feq [.im (.obj c fs), .im (.tup bs)] with
          | some (.ok (.im (.bl r)), _) => some r
          | _ => none) else none) = some r := h
        split at h'
        · rename_i hcc
          obtain ⟨f1, fd, ps, FF, hm, hbd⟩ := ok c hcc
          obtain ⟨m1, m2, m3⟩ := hm
          have ra0 := ra
          cases ra with
          | @obj p dx _ fsV _ hp l rr =>
            obtain rfl : u = Value.ref p := rx
            obtain ⟨mA, J, _⟩ := ins_get I.hok (e _ _ hp)
            obtain ⟨od, J, _⟩ := J.look
            obtain ⟨o2, g2, c2, _⟩ := id ht2
            refine rich_left hu I.kIn J (tb := .type "tuple") (fun A Q E s k w => wpAny_typeOf_ref (k _ _ g2) (by rw [c2]; exact w)) (.inr (subT_own "tuple" (.inr rfl))) (try_eq I.kIn J m1 m2 (wpAny_mono (run_eqV (x := .ref p) (y := .ref q) (u := .ref p) (v := .ref q) (Q := fun w H' => w = .bl r ∧ ∃ G', Stp F0 G H F0 G' H') FF hbd I (sb.room.mono (by omega)) sb.fr rfl ry ?_) (fun w s' ⟨r', e1, H', I', e2, G', st⟩ => ⟨r', e1, _, rfl, by cases e2; exact e1 ▸ rfl, G', H', I', st⟩) fun _ _ z => z))
            refine ⟨F0, G, [.im (.obj c fs), .im (.tup bs)], rfl, e, owns_im (ds := [.obj c fs, .tup bs]) (.cons ra0 (.cons rb .nil)), ?_⟩
            split at h'
            · rename_i r' ts' q2
              cases h'
              rw [q2]
              intro w Fa Fv G' H' st os ow dj
              cases ow with
              | im rv => cases rv; exact ⟨r, rfl, rfl, G', st.shut⟩
            · cases h'
        · cases h'
      | _ => first | cases h | cases oka
  · cases h
theorem eqBool_apart {M : Model} {A : Around} {E : Value → Shared → Prop} {s : Shared} {p : Addr} {v : Value} {Q : Bool → Shared → Prop} (ne : Value.ref p ≠ v) (h : wpAny M A (richCompare .Eq (.ref p) v) (fun w s' => ∃ r, w = .bool r ∧ Q r s') E s) : wpAny M A (eqBool (.ref p) v) Q E s := by
  unfold eqBool
  refine wpAny_holding (wpAny_ite_split (fun same => absurd (eq_of_beq same) ne) fun _ => wpAny_bind (wpAny_mono h (fun w s' hw => ?_) fun _ _ z => z))
  obtain ⟨r, rfl, q⟩ := hw
  exact wpAny_truthy_bool q
theorem eqS_ref {f : D → D → Option Bool} {a b : D} {r : Bool} (h : eqS cs feq f a b = some r) {K : Frg} {G : Hp} {x : V} {u : Value} (ra : Rep K G x a) (rx : RelV x u) : ∃ p, x = .ref p ∧ u = .ref p := by
  unfold eqS at h
  split at h
  · split at h
    all_goals first | (cases ra; exact ⟨_, rfl, rx⟩) | cases h
  · cases h
theorem eqX_run (ok : ∀ c ∈ cs, EqOkM X feq m c) : ∀ (n : Nat) (A : Around) (pins : List (Addr × Obj)) (s : Shared) (σ : L2.St) (G H : Hp) (x y : V) (u v : Value) (a b : D) (r : Bool), Sub X (n + m) A → L2.Inv X pins σ H s → Same G H → Rep X.K G x a → Rep X.K G y b → RelV x u → RelV y v → eqX cs feq n a b = some r →
      wpAny (model X.prog X.w) A (eqBool u v) (fun z s' => z = r ∧ EndX X pins σ G H s') X.xe s
  | 0, A, pins, s, σ, G, H, x, y, u, v, a, b, r, sb, I, e, ra, rb, rx, ry, h => by cases h
  | n + 1, A, pins, s, σ, G, H, x, y, u, v, a, b, r, sb, I, e, ra, rb, rx, ry, h => by
    unfold eqX at h
    split at h
    · rename_i r' hq
      cases h
      obtain ⟨p, q, h1, h2, h3, h4, rfl⟩ := eqB_inv hq
      obtain ⟨ls, z1⟩ := Dp.reads I p x u (dp_of e a p x h1 ra) rx
      obtain ⟨ms, z2⟩ := Dp.reads I q y v (dp_of e b q y h2 rb) ry
      exact SeqAt.eqAt_reads p q A s u v ls ms z1 z2 (SeqAt.canLay_of_shaped h3) (SeqAt.canLay_of_shaped h4) (SeqAt.room_of_shaped h3 sb.room.units) _ _ _ _ ⟨rfl, G, H, I, .refl e⟩
    · rename_i hq
      have hc := h
      unfold eqS at hc
      split at hc
      · rename_i hcc
        obtain ⟨hc1, hc2⟩ := He.ba hcc
        obtain ⟨oka, ib⟩ := He.ba hc1
        have nia : isI a ≠ true := fun z => by rw [z] at hc2; cases hc2
        obtain ⟨p, rfl, rfl⟩ := eqS_ref h ra rx
        have ne : Value.ref p ≠ v := by
          rintro rfl
          rcases typ_I I e ib rb ry with ⟨i, t, z, _⟩ | ⟨q, ys, bs, its2, rfl, rfl, z, _⟩
          · cases z
          · cases z
            exact nia (both_I rb ib a oka ra)
        exact eqBool_apart ne (wpAny_mono (rcS_run ok (fun A pins s σ G H x y u v a b r => eqX_run ok n A pins s σ G H x y u v a b r) A pins s σ G H (.ref p) y (.ref p) v a b r (show Sub X (n + m + 1) A by rw [show n + m + 1 = n + 1 + m by omega]; exact sb) I e ra rb rx ry h) (fun w s' q => ⟨r, q.1, rfl, q.2⟩) fun _ _ z => z)
      · cases hc
/-- a == b -/
def rEqX (X : Cx) (cs : List Nat) (feq : Fn) (n : Nat) (g : Bool → Bool) : R2 := fun x y H Q => ∃ G a b r, Same G H ∧ Rep X.K G x a ∧ Rep X.K G y b ∧ eqX cs feq (n + 1) a b = some r ∧ ∀ G' H', Stp F0 G H F0 G' H' → Q (.bl (g r)) H'
theorem op_eqX {n : Nat} (ok : ∀ c ∈ cs, EqOkM X feq m c) (hr : Room (n + m + 1) X.A) : OpR X (compareOp .Eq) (rEqX X cs feq n id) := by
  rintro pins s σ H x y v u Q I rx ry ⟨G, a, b, r, e, ra, rb, h, k⟩
  unfold eqX at h
  split at h
  · rename_i r' hq
    cases h
    obtain ⟨p, q, h1, h2, h3, h4, rfl⟩ := eqB_inv hq
    exact op_eqD hr.units pins s σ H x y v u Q I rx ry ⟨p, q, dp_of e a p x h1 ra, dp_of e b q y h2 rb, h3, h4, k G H (.refl e)⟩
  · show wpAny (model X.prog X.w) X.A (richCompare .Eq v u) (EP X pins σ Q) X.xe s
    refine wpAny_mono (rcS_run ok (fun A pins s σ G H x y u v a b r => eqX_run ok n A pins s σ G H x y u v a b r) X.A pins s σ G H x y v u a b r ⟨hr, rfl⟩ I e ra rb rx ry h) (fun w s' q => ?_) fun _ _ z => z
    obtain ⟨rfl, G', H', I', st⟩ := q
    exact ⟨.bl r, H', I', rfl, k G' H' st⟩
def eqXD (cs : List Nat) (feq : Fn) (n : Nat) (a b : D) : Option D := (eqX cs feq (n + 1) a b).map .bl
theorem od_eqX {n : Nat} : OpD X.K (rEqX X cs feq n id) (eqXD cs feq n) := by
  intro G H a b d x y Q e ra rb hf k
  obtain ⟨r, h1, rfl⟩ := Option.map_eq_some_iff.mp hf
  exact ⟨G, a, b, r, e, ra, rb, h1, fun G' H' st => k _ G' H' st (.bl _)⟩
end
end MX

namespace MX
open PySem PySem.Spec PyProof.Rows L2
/-! ### {} and {k: v} as data -/
section
variable {X : Cx} {W : WX} {a b : Expr} {ta tb : TE} {ma mb : M D} {pos : Pos}
theorem Ex.dict0 : Ex X W (.Dict [] [] pos) tDNewK (mC (.dk [])) := by
  refine ⟨pe_dnewK, fun F G H σ ρ Q e sl q p np => ?_⟩
  have st := Stp.new e np (.dK [])
  exact q (.ref p) F _ _ st.pure (sl.pure st) (.dk (kvs := []) upd_same rfl fun i _ _ z _ => by cases z)
def mDict1 (mk mv : M D) : M D := fun ρ => bnd (mk ρ) fun k ρ1 => bnd (mv ρ1) fun d ρ2 => retO ((keyD k).map fun z => .dk [(z, d)]) ρ2
/-- a new object that is written once more behind a step -/
theorem Stp.hole {F F' : Fp} {G H G' H' : Hp} {p : Addr} {o1 o2 : HO} (e : Same G H) (np : H p = none) (st : Stp (fun a => F a ∧ H a ≠ none) G (upd H p o1) F' G' H') : G' p = none ∧ ¬ F' p ∧ H' p = some o1 ∧ Stp F G H F' (upd G' p o2) (upd H' p o2) := by
  have gp := none_of e np
  have nG : G' p = none := by
    cases q : G' p with
    | none => rfl
    | some u =>
      rcases st.gn p gp (by rw [q]; exact fun z => nomatch z) with z | z
      · rw [upd_same] at z; cases z
      · exact absurd np z.2
  have nF : ¬ F' p := fun f => by
    rcases st.fn p f with z | z
    · exact absurd np z.2
    · rw [upd_same] at z; cases z
  have hp : H' p = some o1 := st.fr p o1 upd_same fun f => f.2 np
  refine ⟨nG, nF, hp, ⟨fun b u q => ?_, fun b u q => ?_, fun b u q nf => ?_, fun b q => ?_, fun b q q' => ?_, fun b f => ?_⟩⟩
  · rw [upd_ne (ne_of_none q gp)]; exact st.gg _ _ q
  · by_cases c : b = p
    · subst c; rw [upd_same] at q; cases q; exact upd_same
    · rw [upd_ne c] at q ⊢; exact st.gh _ _ q
  · rw [upd_ne (ne_of_none q np)]
    exact st.fr b u (by rw [upd_ne (ne_of_none q np)]; exact q) fun f => nf f.1
  · by_cases c : b = p
    · rw [c]; exact np
    · rw [upd_ne c] at q
      have z := st.th b q
      rw [upd_ne c] at z; exact z
  · by_cases c : b = p
    · rw [c]; exact .inl np
    · rw [upd_ne c] at q'
      rcases st.gn b q q' with z | z
      · rw [upd_ne c] at z; exact .inl z
      · exact .inr z.1
  · rcases st.fn b f with z | z
    · exact .inl z.1
    · by_cases c : b = p
      · rw [c]; exact .inr np
      · rw [upd_ne c] at z; exact .inr z
theorem Slots.put {K : Frg} {G H : Hp} {σ : L2.St} {ρ : Env} {F : Fp} (sl : Slots K G H σ ρ F) {p : Addr} {o : HO} (ng : G p = none) (nf : ¬ F p) : Slots K (upd G p o) (upd H p o) σ ρ F := by
  obtain ⟨l, f, h1, h2, h3⟩ := sl
  refine ⟨l, f, fun i t q => ?_, h2, h3⟩
  obtain ⟨v, e1, ow⟩ := h1 i t q
  have away : ∀ c, f i c → c ≠ p := fun c fc z => nf (by rw [← z]; exact h3 i c fc)
  exact ⟨v, e1, ow.stay (same_upd ng) (fun c u fc q => by rw [upd_ne (away c fc)]; exact q) fun c u fc _ n => by rw [upd_ne (away c fc)]; exact n⟩
theorem Ex.dict1 (ha : Ex X W a ta ma) (hb : Ex X W b tb mb) : Ex X W (.Dict [some a] [b] pos) (tDisp [(ta, tb)]) (mDict1 ma mb) := by
  refine ⟨pe_disp (pps_cons ha.pe hb.pe pps_nil) rfl rfl (fun z => nomatch z) (by show 1 ≤ 15; decide), fun F G H σ ρ Q e sl q p np => ?_⟩
  have st0 : Stp (fun c => F c ∧ H c ≠ none) G H (fun c => F c ∧ H c ≠ none) G (upd H p (.dK [])) := (Stp.heap e np (.dK [])).pure
  have sl0 : Slots X.K G (upd H p (.dK [])) σ ρ (fun c => F c ∧ H c ≠ none) := by
    obtain ⟨l, f, g1, g2, g3⟩ := sl
    have lv : Slots X.K G H σ ρ (fun c => F c ∧ H c ≠ none) := ⟨l, fun i c => f i c ∧ H c ≠ none, fun i t q => by
      obtain ⟨v, e2, o⟩ := g1 i t q
      exact ⟨v, e2, o.live⟩, fun i j c n x y => g2 i j c n x.1 y.1, fun i c x => ⟨g3 i c x.1, x.2⟩⟩
    exact lv.pure (Stp.heap e np (.dK []))
  have e0 : Same G (upd H p (.dK [])) := st0.gh
  have back : ∀ {F' : Fp} {G' H' : Hp}, Stp (fun c => F c ∧ H c ≠ none) G (upd H p (.dK [])) F' G' H' → Stp F G H F' G' H' := fun st => by
    have z := st0.trans st
    exact ⟨z.gg, z.gh, fun c u x nf => z.fr c u x fun y => nf y.1, z.th, fun c x y => (z.gn c x y).imp id fun w => w.1, fun c x => (z.fn c x).imp (fun w => w.1) id⟩
  refine ha.sim _ G _ σ ρ _ e0 sl0 ?_
  revert q
  unfold mDict1
  cases ma ρ with
  | none => exact fun q => q
  | some r1 =>
    obtain ⟨r1, ρ1⟩ := r1
    cases r1 with
    | exc C fs => exact fun q x F' G' H' st sl' ex => q x F' G' H' (back st) sl' ex
    | ok k =>
      intro q x F1 G1 H1 st1 sl1 rx
      refine hb.sim F1 G1 H1 σ ρ1 _ st1.gh sl1 ?_
      have q1 : Post X.K W σ (relD X.K) (fun b _ _ _ _ H' => Q b H') F G H (bnd (mb ρ1) fun d ρ2 => retO ((keyD k).map fun z => D.dk [(z, d)]) ρ2) := q
      revert q1
      cases mb ρ1 with
      | none => exact fun q => q
      | some r2 =>
        obtain ⟨r2, ρ2⟩ := r2
        cases r2 with
        | exc C fs => exact fun q x F' G' H' st sl' ex => q x F' G' H' (back (st1.trans st)) sl' ex
        | ok d =>
          intro q y F2 G2 H2 st2 sl2 ry
          have q2 : Post X.K W σ (relD X.K) (fun b _ _ _ _ H' => Q b H') F G H (retO ((keyD k).map fun z => D.dk [(z, d)]) ρ2) := q
          obtain ⟨w, hw, q3⟩ := q2.retO
          obtain ⟨z, hz, rfl⟩ := Option.map_eq_some_iff.mp hw
          obtain ⟨n1, n2, n3, n4⟩ := Stp.hole (o2 := .dK [(z, y)]) e np (st1.trans st2)
          have xe := keyD_rep rx hz
          subst xe
          refine ⟨n3, [(z, y)], rfl, by show 1 ≤ 15; decide, ?_⟩
          show Q (.ref p) (upd H2 p (.dK [(z, y)]))
          refine q3 (.ref p) F2 _ _ n4 (sl2.put n1 n2) (.dk (kvs := [(z, y)]) upd_same rfl fun i u g a b => ?_)
          cases i with
          | zero => cases a; cases b; exact ry.mono (same_upd n1)
          | succ i => cases a
end
end MX

namespace MX
open PySem PySem.Spec PyProof.Rows L2
/-! -e -/
def negD : D → Option D
  | .int i => some (.int (-i))
  | _ => none
def mNeg (m : M D) : M D := fun ρ => bnd (m ρ) fun d ρ1 => retO (negD d) ρ1
theorem Ex.neg {X : Cx} {W : WX} {a : Expr} {ta : TE} {ma : M D} {pos : Pos} (ha : Ex X W a ta ma) : Ex X W (.UnaryOp .USub a pos) (tUn (rU fun i => .int (-i)) ta) (mNeg ma) := by
  refine ⟨pe_un un_neg ha.pe, fun F G H σ ρ Q e sl p => ?_⟩
  refine ha.sim.bind e sl p fun v d ρ1 F1 G1 H1 e1 s1 sl1 r h1 => ?_
  obtain ⟨w, hw, h2⟩ := h1.retO
  cases d with
  | int i =>
    cases hw
    cases r
    exact ⟨i, rfl, h2 _ F1 G1 H1 (.refl e1) sl1 (.int _)⟩
  | _ => cases hw
/-! ### >= of tuples of ints -/
def lexGe (xs ys : List Int) : Bool := Ob.lexAt (fun k => decide (xs.getD k 0 = ys.getD k 0)) (fun k => decide (ys.getD k 0 ≤ xs.getD k 0)) (decide (ys.length ≤ xs.length)) 0 (min xs.length ys.length)
def rGeT (K : Frg) : R2 := fun x y H Q => ∃ (p q : Addr) (xs ys : List Int), x = .ref p ∧ y = .ref q ∧ SqT K H p (xs.map V.int) ∧ SqT K H q (ys.map V.int) ∧ Q (.bl (lexGe xs ys)) H
theorem op_geT {X : Cx} (hu : X.A.units < cLine) : OpR X (compareOp .GtE) (rGeT X.K) := by
  rintro pn sa σ H x y v u Q J rx ry ⟨p, q, xs, ys, rfl, rfl, hp, hq, w⟩
  cases rx
  cases ry
  obtain ⟨us, w1, t1, _⟩ := J.tuple hp
  obtain ⟨vs, w2, t2, _⟩ := J.tuple hq
  have m1 : IntsAre us xs := Vals.ints w1
  have m2 : IntsAre vs ys := Vals.ints w2
  have z1 : us.toArray.size = xs.length := by rw [List.size_toArray]; exact m1.length
  have z2 : vs.toArray.size = ys.length := by rw [List.size_toArray]; exact m2.length
  have g1 : ∀ k (hk : k < us.toArray.size), ∃ t, us.toArray[k] = .int (xs.getD k 0) t := fun k hk => PyProof.Rows.IntsAre.int_at m1 _ _ (by simp at hk; simp [hk])
  have g2 : ∀ k (hk : k < vs.toArray.size), ∃ t, vs.toArray[k] = .int (ys.getD k 0) t := fun k hk => PyProof.Rows.IntsAre.int_at m2 _ _ (by simp at hk; simp [hk])
  have R := Ob.RcOp.tuples_ge (A := X.A) (s := sa) (e := fun k => decide (xs.getD k 0 = ys.getD k 0)) (r := fun k => decide (ys.getD k 0 ≤ xs.getD k 0)) t1 t2 hu (fun k k1 k2 => by
    obtain ⟨t, e1⟩ := g1 k k1
    obtain ⟨t', e2⟩ := g2 k k2
    rw [e1, e2]
    have b : (xs.getD k 0 == ys.getD k 0) = decide (xs.getD k 0 = ys.getD k 0) := by
      by_cases c : xs.getD k 0 = ys.getD k 0
      · rw [decide_eq_true c]; exact beq_iff_eq.mpr c
      · rw [decide_eq_false c]; exact beq_eq_false_iff_ne.mpr c
    rw [← b]
    exact SeqAt.EqAt.int_int _ _ _ _) (fun k k1 k2 _ => by
    obtain ⟨t, e1⟩ := g1 k k1
    obtain ⟨t', e2⟩ := g2 k k2
    rw [e1, e2]
    exact Ob.RcOp.ge_int _ _ _ _)
  rw [z1, z2] at R
  have done : wpAny (model X.prog X.w) X.A (compareOp .GtE (.ref p) (.ref q)) (EP X pn σ Q) X.xe sa := R X.prog X.w X.xe (EP X pn σ Q) ⟨.bl _, H, J, rfl, w⟩
  exact done
def geTD : D → D → Option D
  | .int i, .int j => some (.bl (decide (j ≤ i)))
  | .tup a, .tup b => match intsD a, intsD b with
    | some x, some y => some (.bl (lexGe x y))
    | _, _ => none
  | _, _ => none
def rGeA (K : Frg) : R2 := fun x y H Q => (rI0 fun i j => .bl (decide (j ≤ i))) x y H Q ∨ rGeT K x y H Q
theorem op_geA {X : Cx} (hu : X.A.units + 64 < cLine) : OpR X (compareOp .GtE) (rGeA X.K) := OpR.or op_ge (op_geT (by omega))
theorem od_geA {K : Frg} : OpD K (rGeA K) geTD := by
  intro G H a b d x y Q e ra rb hf k
  unfold geTD at hf
  split at hf
  · cases hf; cases ra; cases rb
    exact .inl ⟨_, _, rfl, rfl, k _ G H (.refl e) (.bl _)⟩
  · split at hf
    · rename_i q1 q2
      cases hf
      obtain ⟨p, vs, rfl, h1, r1⟩ := tup_of ra
      obtain ⟨q, ws, rfl, h2, r2⟩ := tup_of rb
      rw [intsD_eq q1] at r1
      rw [intsD_eq q2] at r2
      have e1 := repAll_ints r1
      have e2 := repAll_ints r2
      subst e1
      subst e2
      exact .inr ⟨p, q, _, _, rfl, rfl, SqT.of (e _ _ h1), SqT.of (e _ _ h2), k _ G H (.refl e) (.bl _)⟩
    · cases hf
  · cases hf
/-- of pairs: not below -/
theorem lexGe_pair (a b c d : Int) : lexGe [a, b] [c, d] = !(HT.lexLt [a, b] [c, d]) := by
  rw [Bool.eq_iff_iff]
  by_cases h1 : a = c
  · by_cases h2 : b = d
    · simp [lexGe, Ob.lexAt, HT.lexLt, h1, h2]
    · simp [lexGe, Ob.lexAt, HT.lexLt, h1, h2]
  · simp [lexGe, Ob.lexAt, HT.lexLt, h1]
end MX

namespace MX
open PySem PySem.Spec PyProof.Rows L2
/-! ### t[::-1] of a tuple -/
theorem fm_congr {α β : Type} {f g : α → Option β} : ∀ {l : List α}, (∀ a ∈ l, f a = g a) → l.filterMap f = l.filterMap g
  | [], _ => rfl
  | a :: r, h => by
    rw [List.filterMap_cons, List.filterMap_cons, h a List.mem_cons_self, fm_congr fun b hb => h b (List.mem_cons_of_mem _ hb)]
theorem rev_pick (xs : Array Value) : ((List.range xs.size).filterMap fun (k : Nat) => xs[(((xs.size : Int) - 1) + (k : Int) * (-1)).toNat]?).toArray = xs.toList.reverse.toArray := by
  congr 1
  have key : ∀ k ∈ List.range xs.size, xs[(((xs.size : Int) - 1) + (k : Int) * (-1)).toNat]? = xs.toList.reverse[k]? := by
    intro k hk
    have hk' := List.mem_range.mp hk
    have e : (((xs.size : Int) - 1) + (k : Int) * (-1)).toNat = xs.size - 1 - k := by omega
    rw [e, List.getElem?_reverse (by simpa using hk')]
    simp
  have e2 := fm_congr key
  rw [e2]
  generalize hm : xs.toList.reverse = m
  have hl : xs.size = m.length := by rw [← hm]; simp
  rw [hl]
  clear e2 key hm hl
  induction m with
  | nil => rfl
  | cons a r ih =>
    rw [List.length_cons, List.range_succ_eq_map, List.filterMap_cons]
    show a :: _ = _
    rw [List.filterMap_map]
    congr 1
section
variable {prog : Program} {w : World} {A : Around} {E : Value → Shared → Prop} {s : Shared}
theorem getItem_tup_rev {t sl : Addr} {xs : Array Value} {vl vu vs : Value} {Q : Value → Shared → Prop} (ht : IsTup s.heap t xs) (hs : s.heap.IsSliceOf sl vl vu vs) (pl : IsPart vl none) (pu : IsPart vu none) (ps : IsPart vs (some (-1)))
    (h : Q (.ref s.heap.objs.size) { s with heap := s.heap.push { cls := .type "tuple", data := .seq xs.toList.reverse.toArray } }) (hsz : xs.size ≤ sizeLine) : wpAny (model prog w) A (getItem (.ref t) (.ref sl)) Q E s := by
  have fits : sizeOk (.seq xs.toList.reverse.toArray) := by
    show xs.toList.reverse.toArray.size ≤ sizeLine
    rw [List.size_toArray, List.length_reverse, Array.length_toList]
    exact hsz
  obtain ⟨so, g1, g2, g3⟩ := id hs
  have tsl : s.TypeIs (.ref sl) "slice" := ⟨so, g1, g2⟩
  unfold getItem
  try with_reducible refine wpAny_holding ?_
  first | refine wpAny_bind (wpAny_pure ?_) | skip
  refine wpAny_bind (wpAny_sequenceKey ht.typeIs (by decide) ?_)
  refine wpAny_bind (wpAny_callSpecial?_slot (name := Str.ofString "__getitem__") ht.typeIs PyProof.Rows.slot_tuple_getitem
    (wpAny_call_entry PyProof.Rows.slot_tuple_getitem ht.typeIs PyProof.Rows.entry_tuple_getitem ?_ (PyProof.Rows.args_tuple_getitem _ _)))
  show wpAny _ _ (Builtin.Tuple.tupleItemsOf (.ref t) >>= _) _ _ s
  refine wpAny_bind (PyProof.Rows.tupleItemsOf_ ht ?_)
  refine wpAny_bind (wpAny_typeOf tsl ?_)
  rw [if_pos (by decide)]
  have app : ∀ {Q : Int × Int × Nat → Shared → Prop} {E : Value → Shared → Prop} {A : Around}, Q ((xs.size : Int) - 1, -1, xs.size) s → wpAny (model prog w) A (Builtin.Slice.sliceApplied (.ref sl) (pure (xs.size : Int))) Q E s := by
    intro Q E A hq
    unfold Builtin.Slice.sliceApplied Builtin.Slice.sliceFields
    refine wpAny_bind (wpAny_bind (wpAny_field g1 g3 (x := vl) rfl (wpAny_bind (wpAny_field g1 g3 (x := vu) rfl (wpAny_bind (wpAny_field g1 g3 (x := vs) rfl (wpAny_pure ?_)))))))
    refine wpAny_bind (HT.slicePart_ ps ?_)
    show wpAny _ _ (if ((-1 : Int) == 0) = true then _ else _) _ _ s
    rw [if_neg (by decide)]
    refine wpAny_bind (HT.slicePart_ pl (wpAny_bind (HT.slicePart_ pu (wpAny_bind (wpAny_pure ?_)))))
    have pc : Builtin.Slice.slicePlaces ((xs.size : Int) - 1) (-1) (-1) = xs.size := by
      unfold Builtin.Slice.slicePlaces
      rw [if_neg (by decide)]
      by_cases c : (xs.size : Int) - 1 > -1
      · rw [if_pos c]
        have : ((xs.size : Int) - 1 - -1 - 1) / (- -1) + 1 = (xs.size : Int) := by
          rw [show (- -1 : Int) = 1 from rfl, Int.ediv_one]; omega
        rw [this]; exact Int.toNat_natCast _
      · rw [if_neg c]
        show (0 : Int).toNat = xs.size
        have : xs.size = 0 := by omega
        rw [this]; rfl
    show wpAny _ _ (pure ((xs.size : Int) - 1, (-1 : Int), Builtin.Slice.slicePlaces ((xs.size : Int) - 1) (-1) (-1))) _ _ s
    rw [pc]
    exact wpAny_pure hq
  refine wpAny_bind (app ?_)
  show wpAny _ _ (if (((xs.size : Int) - 1) == 0 && (-1 : Int) == 1 && xs.size == xs.size) = true then _ else _) _ _ s
  rw [if_neg (by simp), rev_pick]
  first
    | exact wpAny_bind (m := Builtin.Tuple.tupleExact _) (wpAny_newObj_type (wpAny_pure ⟨_, rfl, wpAny_pure h⟩) fits)
    | exact wpAny_bind (wpAny_bind (m := Builtin.Tuple.tupleExact _) (wpAny_newObj_type (wpAny_pure ⟨_, rfl, wpAny_pure h⟩) fits))
    | exact wpAny_bind (m := Builtin.Tuple.tupleExact _) (wpAny_newObj_type (wpAny_bind (wpAny_pure (wpAny_pure ⟨_, rfl, wpAny_pure h⟩))) fits)
end
def tRevT (K : Frg) (te : TE) : TE := fun σ H Q => te σ H fun x H1 => ∃ a xs, x = .ref a ∧ SqT K H1 a xs ∧ ∀ p, H1 p = none → Q (.ref p) (upd H1 p (.tup xs.reverse))
theorem pe_revT {X : Cx} {e : Expr} {te : TE} {k : Nat} {p1 p2 p3 pos : Pos} (he : PE X e te) : PE X (.Subscript e (.Slice none none (some (.UnaryOp .USub (.Constant (.int 1) k p1) p2)) p3) pos) (tRevT X.K te) := by
  refine ⟨fun pn sa σ H Q J hw => Subscript_ (thn (he.run pn sa σ H _ J hw) ?_)⟩
  rintro v sb ⟨x, H1, J1, rv, a, xs, rfl, hx, q⟩
  cases rv
  have neg : PO X (some (.UnaryOp .USub (.Constant (.int 1) k p1) p2)) (tPart (tUn (rU fun i => .int (-i)) (tC (.int 1)))) := po_some (pe_un un_neg pe_int)
  refine wpAny_Slice (thn (po_none.run pn sb σ H1 (fun o H2 => o = none ∧ H2 = H1) J1 ⟨rfl, rfl⟩) ?_)
  rintro vl sc ⟨l, H2, J2, pl, rfl, rfl⟩
  refine thn (po_none.run pn sc σ H2 (fun o H3 => o = none ∧ H3 = H2) J2 ⟨rfl, rfl⟩) ?_
  rintro vu sd ⟨u, H3, J3, pu, rfl, rfl⟩
  refine thn (neg.run pn sd σ H3 (fun o H4 => o = some (-1) ∧ H4 = H3) J3 ⟨1, rfl, -1, rfl, rfl, rfl⟩) ?_
  rintro vs se ⟨o, H4, J4, ps, rfl, rfl⟩
  have J5 : L2.Inv X pn σ H4 { se with heap := se.heap.push { cls := .type "slice", data := .fields #[vl, vu, vs] } } := J4.kept (t' := se.toks) fun b ob w => Heap.get?_push_of_some _ w
  obtain ⟨its, r, ht, hz⟩ := J5.tuple hx
  have ln := r.length
  show wpAny (model X.prog X.w) X.A (subscriptTail e (.Slice none none (some (.UnaryOp .USub (.Constant (.int 1) k p1) p2)) p3) (.ref a) (.ref se.heap.objs.size)) (EP X pn σ Q) X.xe { se with heap := se.heap.push { cls := .type "slice", data := .fields #[vl, vu, vs] } }
  refine tail_any (ops := [.ref a, .ref se.heap.objs.size]) ht.typeIs PyProof.Rows.slot_tuple_getitem.lookup ?_ (by with_unfolding_all rfl)
  refine getItem_tup_rev ht (Heap.IsSliceOf.new _ vl vu vs) pl pu ps ?_ (by rw [List.size_toArray]; omega)
  refine ⟨.ref _, _, J5.laid (t' := se.toks) (o := .tup xs.reverse) (fun b ob w => Heap.get?_push_of_some _ w) (Nat.le_refl _) ?_, rfl, q _ (J5.hok.fresh (Nat.le_refl _))⟩
  exact ⟨by rw [List.length_reverse]; exact hz, _, r.reverse, IsTup.new _ _⟩
def revTD : D → Option D
  | .tup ds => some (.tup ds.reverse)
  | _ => none
def mRevT (m : M D) : M D := fun ρ => bnd (m ρ) fun d ρ1 => retO (revTD d) ρ1
section
variable {X : Cx} {W : WX} {e a b : Expr} {ta tb te : TE} {ma mb me : M D} {pos : Pos}
theorem Ex.revT {k : Nat} {p1 p2 p3 : Pos} (h : Ex X W e te me) : Ex X W (.Subscript e (.Slice none none (some (.UnaryOp .USub (.Constant (.int 1) k p1) p2)) p3) pos) (tRevT X.K te) (mRevT me) := by
  refine ⟨pe_revT h.pe, fun F G H σ ρ Q e0 sl q => ?_⟩
  refine h.sim.bind e0 sl q fun v d ρ1 F1 G1 H1 e1 s1 sl1 r h1 => ?_
  obtain ⟨w, hw, h2⟩ := h1.retO
  cases d with
  | tup ds =>
    cases hw
    obtain ⟨p, vs, rfl, hp, rr⟩ := tup_of r
    exact ⟨p, vs, rfl, SqT.of (e1 _ _ hp), fun z nz => h2 _ F1 _ _ (Stp.new e1 nz _).pure (sl1.pure (.new e1 nz _)) (.newTup (none_of e1 nz) rr.reverse)⟩
  | _ => cases hw
/-! ### t * k of a tuple -/
def mulTD : D → D → Option D
  | .tup ds, .int k => if ds.isEmpty = false ∧ (2 ≤ k ∧ k ≤ 1000) ∧ ds.length ≤ 1000 then some (.tup (List.replicate k.toNat ds).flatten) else none
  | _, _ => none
theorem repAll_flat {K : Frg} {G : Hp} {vs : List V} {ds : List D} (h : RepAll K G vs ds) : ∀ n : Nat, RepAll K G (List.replicate n vs).flatten (List.replicate n ds).flatten
  | 0 => .nil
  | n + 1 => by
    rw [List.replicate_succ, List.replicate_succ, List.flatten_cons, List.flatten_cons]
    exact h.append (repAll_flat h n)
theorem od_mulT {K : Frg} : OpD K (rRepT K) mulTD := by
  intro G H a b d x y Q e ra rb hf k
  cases a with
  | tup ds =>
    cases b with
    | int i =>
      have hf' : (if ds.isEmpty = false ∧ (2 ≤ i ∧ i ≤ 1000) ∧ ds.length ≤ 1000 then some (D.tup (List.replicate i.toNat ds).flatten) else none) = some d := hf
      split at hf'
      · rename_i hc
        cases hf'
        cases rb
        obtain ⟨p, vs, rfl, hp, rr⟩ := tup_of ra
        refine ⟨p, i, vs, rfl, rfl, SqT.of (e _ _ hp), fun z => ?_, hc.2.1.1, hc.2.1.2, by rw [rr.1]; exact hc.2.2, fun q nq => ?_⟩
        · subst z
          have z2 : ds = [] := List.length_eq_zero_iff.mp (by simpa using rr.1.symm)
          rw [z2] at hc
          cases hc.1
        · exact k _ _ _ (.new e nq _) (.newTup (none_of e nq) (repAll_flat rr _))
      · cases hf'
    | _ => cases hf
  | _ => cases b <;> cases hf
end
end MX

namespace MX
open PySem PySem.Spec PyProof.Rows L2
/-! ### an error as a value: C(e, ..), C() -/
def tXmkE (C : Addr) (sp : Sp) (ta : TA) : TE := fun σ H Q => ta σ H fun vs H1 => vs.length ≤ 1000 ∧ ∀ a, H1 a = none → sp (.ref a :: vs) (upd H1 a (exo a C none))
  (fun v H2 => v = .non ∧ ∃ (d : Addr) (fs : List (Str × V)), H2 a = some (exo a C (some d)) ∧ H2 d = some (exd d fs) ∧ d ≠ a ∧ Q (.ref a) (upd (upd H2 a (xob a C (some d))) d (.xd fs))) (fun _ _ _ => False)
theorem Inv.xoDone {X : Cx} {pins : List (Addr × Obj)} {σ : L2.St} {H2 : Hp} {s : Shared} {a d C : Addr} {fs : List (Str × V)} (I : Inv X pins σ H2 s) (ea : H2 a = some (exo a C (some d))) (ed : H2 d = some (exd d fs)) (ne : d ≠ a) :
    Inv X pins σ (upd (upd H2 a (xob a C (some d))) d (.xd fs)) s := by
  obtain ⟨t1, hoe⟩ := exo_at I.hok ea
  obtain ⟨mA, hns, rel⟩ := exd_at I.hok ed
  have J : Inv X pins σ (upd H2 a (xob a C (some d))) s := Inv.write (t' := s.toks) (h' := s.heap) (x := a) (e := a) (o := xob a C (some d)) I (by rw [ea]; exact True.intro) (.inl rfl) (fun b u _ q => q) ⟨_, hoe⟩
    ⟨⟨_, _, hoe, rfl, rfl, rfl⟩, ⟨_, hoe⟩, fun _ _ ⟨o', vs', e', k'⟩ m => ⟨o', vs', m _ e', k'⟩⟩
  have ed2 : (upd H2 a (xob a C (some d))) d = some (exd d fs) := by rw [upd_ne ne]; exact ed
  have hd : ∃ o, s.heap.get? d = some o := by
    obtain ⟨o, _, _, e', _⟩ := hns
    exact ⟨o, e'⟩
  exact Inv.write (t' := s.toks) (h' := s.heap) (x := d) (e := d) (o := .xd fs) J (by rw [ed2]; exact True.intro) (.inl rfl) (fun b u _ q => q) hd ⟨mA, hns, rel⟩
section
variable {X : Cx} {W : WX} {e : Expr} {es : List Expr} {t ta : TA} {ms : M (List D)} {pos : Pos}
theorem pe_xmk {x : Str} {p : Pos} {C fI : Addr} {k : Nat} {fd : FuncData} {ps : List Str} {sp : Sp} (T : OexC X.K C) (iC : PySem.W.findIn X.K (.ref C) "__init__" = some (some (.ref fI))) (tI : PySem.W.typeIn X.K (.ref fI) = some (.type "function"))
    (F1 : FnOk X.prog X.w X.K X.mg X.base (L2.CX X.prog X.w) k fI fd ps sp) (hr : Room (k + 1) X.A) (hb : Binds X.K fd ps []) (hx : Passes (L2.CX X.prog X.w) X (fun _ _ _ => False)) (hg : Gl X x) (hm : X.mg x = some (.ref C)) (ha : PA X (e :: es) ta)
    (hdb : (x == ("__debug__" : Str)) = false := by decide) (he : starEach (e :: es) X.env = (false, eval e X.env) :: starEach es X.env := by rfl) (hpl : (backTo pos (starEach es X.env)).any (·.1) = false := by rfl) :
    PE X (.Call (.Name x p) (e :: es) [] pos) (tXmkE C sp ta) := by
  refine ⟨fun pins s σ H Q I h => ?_⟩
  obtain ⟨nm, q, N, bs, bm, sn, sub, ab, col, dd, k0, k1, k2, k3, k5, hC, hbm⟩ := T.cls
  refine wpAny_Call_Name_kw (ld_glob I hg hm ?_ hdb)
  refine PySem.W.callWith_K (h₀ := X.base) I.ok.mod.kin T.kC (thn (ha.run pos pins s σ H _ I h) fun us s1 ⟨vs, H1, I1, r1, hz, q1⟩ => ⟨I1.kIn, ?_⟩) he hpl
  show wpAny _ _ (call (.ref C) us) _ _ _
  obtain ⟨hp, g, dr, tk, os⟩ := s1
  have hsz : hp.objs.size ≤ hp.objs.size + 1 := Nat.le_succ _
  have hn : H1 (hp.objs.size + 1) = none := I1.hok.fresh hsz
  have hq := q1 (hp.objs.size + 1) hn
  have kk : ∀ b o, hp.get? b = some o → ((hp.push (PySem.W.kdv_tup us)).push (PySem.HandSPX.excO C hp.objs.size)).get? b = some o := fun b o e => Heap.get?_push_of_some _ (Heap.get?_push_of_some _ e)
  have hget : ((hp.push (PySem.W.kdv_tup us)).push (PySem.HandSPX.excO C hp.objs.size)).get? (hp.objs.size + 1) = some (PySem.HandSPX.excO C hp.objs.size) := by heap_get
  have I2 : Inv X pins σ (upd H1 (hp.objs.size + 1) (exo (hp.objs.size + 1) C none)) ⟨(hp.push (PySem.W.kdv_tup us)).push (PySem.HandSPX.excO C hp.objs.size), g, dr, tk, os⟩ :=
    I1.laid (t' := tk) (a := hp.objs.size + 1) (o := exo (hp.objs.size + 1) C none) (h' := (hp.push (PySem.W.kdv_tup us)).push (PySem.HandSPX.excO C hp.objs.size)) kk hsz (exo_ok hget)
  have r2 : Vals (V.ref (hp.objs.size + 1) :: vs) (Value.ref (hp.objs.size + 1) :: us) := .cons rfl r1
  have hl : (Value.ref (hp.objs.size + 1) :: us).length = ps.length := by
    have e := r2.length
    rw [F1.len _ _ _ _ hq] at e
    exact e.symm
  have hus : us.length ≤ sizeLine := by
    rw [← Paired.length r1, sizeLine_eq]
    omega
  refine wpAny_call (PySem.HandSPX.call_own F.excBase_ValueError (fun Y => PySem.HandSPX.refsVE_contains Y bm hbm) (I1.kIn _ _ hC) (PySem.W.looks_findIn I1.kIn iC) (fun self => PySem.W.bind_fn I1.kIn self tI) hus
    (codeAny_mono (F1.run _ X.stack _ _ ⟨Value.ref (hp.objs.size + 1) :: us, []⟩ (Value.ref (hp.objs.size + 1) :: us) _ _ (fun _ _ _ => False) (hr.make C us []) (I2.env0.make C us []) (by
      have := hb _ (Value.ref (hp.objs.size + 1) :: us) I2.kIn (by simpa using hl)
      simpa using this) r2 hq) fun r s' hq' => ?_))
  cases r with
  | error er => exact hx pins σ _ _ er s' I2 hq'
  | ok fl =>
    cases fl with
    | ret u =>
      obtain ⟨v, H2, I', rv, ev, d, fs, ea, ed, ne, q2⟩ := I2.after hq'
      subst ev
      exact ⟨rv, .ref (hp.objs.size + 1), _, Inv.xoDone I' ea ed ne, rfl, q2⟩
    | next => exact False.elim hq'
    | brk => exact False.elim hq'
    | cont => exact False.elim hq'
def mXmk (c : Nat) (ks : List Nat) (ms : M (List D)) : M D := fun ρ => bnd (ms ρ) fun ds ρ1 => if ds.length = ks.length then ret (.xo c (ks.zip ds).reverse) ρ1 else none
theorem Ex.xmk {x : Str} {p : Pos} {k : Nat} {f : Addr} {fd : FuncData} {ps : List Str} (c0 : Nat) (ks : List Nat) (T : OexC X.K (cadr X.K c0)) (hM : Meth X.K (cadr X.K c0) "__init__" f)
    (F : FnOk X.prog X.w X.K X.mg X.base (L2.CX X.prog X.w) k f fd ps (spXi (cadr X.K c0) (ks.map fname))) (tk : Takes X W) (hr : Room (k + 1) X.A) (hm : X.mg x = some (.ref (cadr X.K c0))) (hb : Binds X.K fd ps []) (ha : As X W (e :: es) t ms)
    (hl : (e :: es).length ≤ 1000 := by decide) (hg : Gl X x := by rfl) (hdb : (x == ("__debug__" : Str)) = false := by decide) (he : starEach (e :: es) X.env = (false, eval e X.env) :: starEach es X.env := by rfl) (hpl : (backTo pos (starEach es X.env)).any (·.1) = false := by rfl) :
    Ex X W (.Call (.Name x p) (e :: es) [] pos) (tXmkE (cadr X.K c0) (spXi (cadr X.K c0) (ks.map fname)) t) (mXmk c0 ks ms) := by
  obtain ⟨m1, m2, m3⟩ := hM
  refine ⟨pe_xmk T m1 (beq_iff_eq.mp m2) F hr hb (passes_call tk fun _ _ _ _ z => z.elim) hg hm ha.pa hdb he hpl, fun F G H σ ρ Q e sl p => ?_⟩
  refine ha.sim.bind e sl p fun vs ds ρ1 F1 G1 H1 e1 s1 sl1 r h1 => ?_
  refine ⟨by rw [r.2]; exact hl, fun y ny => ?_⟩
  split at h1
  · rename_i hlen
    refine ⟨y, vs, rfl, by rw [List.length_map, ← hlen, r.1.1], upd_same, fun d H2 hd hdy hH ha hd2 => ⟨rfl, d, _, ha, hd2, hdy, ?_⟩⟩
    rw [upd_ne hdy] at hd
    have eH : upd (upd H2 y (xob y (cadr X.K c0) (some d))) d (.xd ((ks.map fname).zip vs).reverse) = upd (upd H1 y (xob y (cadr X.K c0) (some d))) d (.xd ((ks.map fname).zip vs).reverse) := by
      funext b
      by_cases c : b = d
      · rw [c, upd_same, upd_same]
      · rw [upd_ne c, upd_ne c]
        by_cases c2 : b = y
        · rw [c2, upd_same, upd_same]
        · rw [upd_ne c2, upd_ne c2, hH b c2 c, upd_ne c2]
    rw [eH]
    have st := Stp.new e1 ny (xob y (cadr X.K c0) (some d))
    have nd : (upd H1 y (xob y (cadr X.K c0) (some d))) d = none := by rw [upd_ne hdy]; exact hd
    have st2 := Stp.new st.gh nd (.xd ((ks.map fname).zip vs).reverse)
    obtain ⟨z1, z2⟩ := zip_rep ks r.1
    obtain ⟨z3, z4⟩ := rev_rep z1 z2
    have s12 := st.trans st2
    refine h1 (.ref y) F1 _ _ s12.pure (sl1.pure s12) ?_
    refine .xo (by rw [upd_ne (Ne.symm hdy), upd_same]) upd_same z3 fun i p q a b => (z4 i p q a b).mono s12.gg
  · exact h1.elim
/-- C() of a class without own __init__ -/
theorem pe_xb {x : Str} {C : Addr} {bmB : List Value} {B newId initId : String} {p : Pos} (F : ExcBaseFacts B newId initId bmB) (q : PySem.W.excIn X.K C bmB newId = true) (gC : X.mg x = some (.ref C)) (kC : PySem.W.keepIn X.K (.ref C) = true) (hg : Gl X x)
    (hdb : (x == ("__debug__" : Str)) = false := by decide) : PE X (.Call (.Name x p) [] [] pos) (fun σ H Q => ∀ a, H a = none → Q (.ref a) (upd H a (xob a C none))) := by
  refine ⟨fun pins s σ H Q I h => ?_⟩
  refine wpAny_Call_Name_kw (ld_glob I hg gC ?_ hdb)
  refine PySem.W.callWith_K0 I.kIn kC ?_
  obtain ⟨bm, N, nm, qn, bs, hdct, sn, sub, ab, col, dd, k0, k1, k2, k3, k5, mN, hC, hN, hni, T⟩ := exc_obj I.kIn q
  show wpAny _ _ (call (.ref C) []) _ _ _
  refine wpAny_call_exc_subT F T hC hN hni (fun h' a hm => ?_) (Nat.zero_le _)
  have hn : H a = none := I.hok.gone hm.new
  obtain ⟨t, ht, _, _⟩ := hm.there
  exact ⟨.ref a, upd H a (xob a C none), I.laidN hm.keeps hm.new hn ⟨⟨_, _, ht, rfl, rfl, rfl⟩, ⟨_, ht⟩, fun _ _ ⟨o', vs', e', k'⟩ m => ⟨o', vs', m _ e', k'⟩⟩, rfl, h a hn⟩
theorem Ex.xb {x : Str} {p : Pos} (c0 : Nat) (q : PySem.W.excIn X.K (cadr X.K c0) He.veBase "ValueError.__new__" = true) (h2 : PySem.W.keepIn X.K (.ref (cadr X.K c0)) = true) (hm : X.mg x = some (.ref (cadr X.K c0))) (hg : Gl X x := by rfl) (hdb : (x == ("__debug__" : Str)) = false := by decide) :
    Ex X W (.Call (.Name x p) [] [] pos) (fun σ H Q => ∀ a, H a = none → Q (.ref a) (upd H a (xob a (cadr X.K c0) none))) (mC (.xo c0 [])) := by
  refine ⟨pe_xb PySem.F.excBase_ValueError q hm h2 hg hdb, fun F G H σ ρ Q e sl h a na => ?_⟩
  have st := Stp.new e na (xob a (cadr X.K c0) none)
  exact h (.ref a) F _ _ st.pure (sl.pure st) (.xo0 upd_same)
end
/-! ### xs.count(y), xs.index(y): flat things -/
def flatD : D → Bool
  | .non => true
  | .bl _ => true
  | .int _ => true
  | .str _ => true
  | _ => false
def flV : D → V
  | .bl b => .bl b
  | .int i => .int i
  | .str x => .str x
  | _ => .non
def eqF : D → D → Bool
  | .non, .non => true
  | .bl a, .bl b => a == b
  | .bl a, .int b => (if a then 1 else 0) == b
  | .int a, .bl b => a == (if b then 1 else 0)
  | .int a, .int b => a == b
  | .str a, .str b => a == b
  | _, _ => false
theorem flV_of {K : Frg} {G : Hp} {v : V} {d : D} (r : Rep K G v d) (f : flatD d = true) : v = flV d ∧ flatV v = true := by
  cases r <;> first | exact ⟨rfl, rfl⟩ | (cases f; done)
theorem eqF_of {a b : D} (fa : flatD a = true) (fb : flatD b = true) : eqV (flV a) (flV b) = eqF a b := by
  cases a <;> first | (cases fa; done) | (cases b <;> first | (cases fb; done) | rfl)
theorem flV_all {K : Frg} {G : Hp} : ∀ {vs : List V} {ds : List D}, RepAll K G vs ds → ds.all flatD = true → vs = ds.map flV ∧ vs.all flatV = true
  | [], ds, r, f => by
    cases ds with
    | nil => exact ⟨rfl, rfl⟩
    | cons d ds => exact absurd r.1 (by simp)
  | v :: vs, ds, r, f => by
    cases ds with
    | nil => exact absurd r.1 (by simp)
    | cons d ds =>
      rw [List.all_cons, Bool.and_eq_true] at f
      obtain ⟨h1, h2⟩ := flV_of r.head f.1
      obtain ⟨h3, h4⟩ := flV_all r.tail f.2
      refine ⟨by rw [List.map_cons, ← h1, ← h3], by rw [List.all_cons, h2, h4]; rfl⟩
def rCntF (K : Frg) : V → List V → Hp → VK → Prop := fun x xs H Q => ∃ (p : Addr) (ys : List V) (y : V), x = .ref p ∧ xs = [y] ∧ SqL K H p ys ∧ flatV y = true ∧ ys.all flatV = true ∧ Q (.int (ys.countP fun z => eqV z y : Nat)) H
theorem cntF_vals {y : V} : ∀ {ys : List V} {us : List Value}, Vals ys us → ys.all flatV = true → us.countP (eqU y) = ys.countP fun z => eqV z y
  | _, _, .nil, _ => rfl
  | z :: ys, u :: us, .cons r t, f => by
    rw [List.all_cons, Bool.and_eq_true] at f
    rw [List.countP_cons, List.countP_cons, cntF_vals t f.2, eqU_of r f.1]
theorem mt_lcountF {X : Cx} : MtR X "list.count" (rCntF X.K) := by
  intro pins s σ H x xs v us Q I rx rxs h
  obtain ⟨p, ys, y, rfl, rfl, hs, fy, fys, q⟩ := h
  cases rx
  cases rxs with
  | cons ry rt =>
    rename_i uy ut
    cases rt
    obtain ⟨its, rv, ⟨⟨cls, dd, data, sl⟩, n, ho, hc, hdn, hd⟩, hlen⟩ := I.list hs
    simp only at hc hd
    subst hc hd
    refine call_meets PySem.F.slot_list_count ⟨_, ho, rfl⟩ PySem.F.entry_list_count (PySem.F.args_list_count_2 _ _)
      (SeqAt.list_countAt p its.toArray n dd sl uy (eqU y)) ⟨ho, fun u' hu' => mem_eqAt ry fy rv fys u' (by simpa using hu'), ?_⟩
    have ec : its.toArray.toList.countP (eqU y) = ys.countP fun z => eqV z y := cntF_vals rv fys
    refine ⟨.int (ys.countP fun z => eqV z y : Nat), H, I.tok _, ⟨s.toks, ?_⟩, q⟩
    rw [ec]
def cntD (ds : List D) (y : D) : Option D := if flatD y = true ∧ ds.all flatD = true then some (.int (ds.countP fun z => eqF z y : Nat)) else none
def fidxD (ds : List D) (y : D) : Option D := if flatD y = true ∧ ds.all flatD = true then (ds.findIdx? fun z => eqF z y).map (fun j => .int (j : Nat)) else none
def mLM (f : List D → D → Option D) (mo me : M D) : M D := fun ρ => bnd (mo ρ) fun o ρ1 => match o with
  | .lst ds => bnd (me ρ1) fun y ρ2 => retO (f ds y) ρ2
  | _ => none
theorem countF_map {y : D} (fy : flatD y = true) : ∀ {ds : List D}, ds.all flatD = true → ((ds.map flV).countP fun z => eqV z (flV y)) = ds.countP fun z => eqF z y
  | [], _ => rfl
  | d :: ds, f => by
    rw [List.all_cons, Bool.and_eq_true] at f
    rw [List.map_cons, List.countP_cons, List.countP_cons, countF_map fy f.2, eqF_of f.1 fy]
section
variable {X : Cx} {W : WX} {o e : Expr} {to te : TE} {mo me : M D}
theorem sim_lm {f : List D → D → Option D} {T : String} {r : V → List V → Hp → VK → Prop} (hT : T = "list") (ho : Sim X.K W (relD X.K) to mo) (h : Sim X.K W (relD X.K) te me)
    (hf : ∀ (G H : Hp) (p : Addr) (vs : List V) (v : V) (ds : List D) (y w : D) (Q : VK), SqL X.K H p vs → RepAll X.K G vs ds → Rep X.K G v y → f ds y = some w → (∀ u, Rep X.K G u w → Q u H) → r (.ref p) [v] H Q) :
    Sim X.K W (relD X.K) (tBM X.K T r to (tCons te tNil)) (mLM f mo me) := by
  intro F G H σ ρ Q e sl p
  refine ho.bind e sl p fun v d ρ1 F1 G1 H1 e1 s1 sl1 r1 h1 => ?_
  cases d with
  | lst ds =>
    obtain ⟨a, vs, rfl, s, rr⟩ := repAll_of_lst r1
    refine ⟨.inl ⟨hT, vs, SqL.of (e1 _ _ s)⟩, ?_⟩
    refine h.bind e1 sl1 h1 fun u y ρ2 F2 G2 H2 e2 s2 sl2 r2 h2 => ?_
    obtain ⟨w, hw, h3⟩ := h2.retO
    exact hf G2 H2 a vs u ds y w Q (SqL.of (e2 _ _ (s2.gg _ _ s))) (rr.mono s2.gg) r2 hw fun u2 ru => h3 u2 F2 G2 H2 (.refl e2) sl2 ru
  | _ => exact h1.elim
theorem Ex.lcnt {apos cpos : Pos} (ho : Ex X W o to mo) (h : Ex X W e te me)
    (hbase : attributeBase o "count" X.env (eval o X.env) = eval o X.env := by rfl)
    (hfew : ((backTo cpos (starEach (e :: []) X.env)).all (fun x => !x.1) && (backToKw cpos (keywordEach [] X.env)).all (fun x => x.1.isSome) && decide ((e :: ([] : List Expr)).length + ([] : List Keyword).length + (if ([] : List Keyword).isEmpty then 0 else 1) < 30)) = true := by rfl)
    (hline : (apos.endLine == cpos.line) = true := by rfl) (hs : starEach (e :: []) X.env = (false, eval e X.env) :: starEach [] X.env := by rfl) (hpl : (backTo cpos (starEach [] X.env)).any (·.1) = false := by rfl) :
    Ex X W (.Call (.Attribute o "count" apos) [e] [] cpos) (tBM X.K "list" (rCntF X.K) to (tCons te tNil)) (mLM cntD mo me) := by
  refine ⟨pe_bm PySem.F.plainAttrs_list PySem.F.slot_list_count PySem.F.type_list_count mt_lcountF ho.pe (pa_cons h.pe pa_nil hs) hbase hfew hline hs hpl, sim_lm rfl ho.sim h.sim fun G H p vs v ds y w Q s rr ry hw k => ?_⟩
  unfold cntD at hw
  split at hw
  · rename_i hc
    cases hw
    obtain ⟨z1, z2⟩ := flV_of ry hc.1
    obtain ⟨z3, z4⟩ := flV_all rr hc.2
    refine ⟨p, vs, v, rfl, rfl, s, z2, z4, ?_⟩
    rw [z1, z3, countF_map hc.1 hc.2]
    exact k _ (.int _)
  · cases hw
theorem Ex.lidx {apos cpos : Pos} (ho : Ex X W o to mo) (h : Ex X W e te me)
    (hbase : attributeBase o "index" X.env (eval o X.env) = eval o X.env := by rfl)
    (hfew : ((backTo cpos (starEach (e :: []) X.env)).all (fun x => !x.1) && (backToKw cpos (keywordEach [] X.env)).all (fun x => x.1.isSome) && decide ((e :: ([] : List Expr)).length + ([] : List Keyword).length + (if ([] : List Keyword).isEmpty then 0 else 1) < 30)) = true := by rfl)
    (hline : (apos.endLine == cpos.line) = true := by rfl) (hs : starEach (e :: []) X.env = (false, eval e X.env) :: starEach [] X.env := by rfl) (hpl : (backTo cpos (starEach [] X.env)).any (·.1) = false := by rfl) :
    Ex X W (.Call (.Attribute o "index" apos) [e] [] cpos) (tBM X.K "list" (rIndex X.K) to (tCons te tNil)) (mLM fidxD mo me) := by
  refine ⟨pe_bm PySem.F.plainAttrs_list PySem.F.slot_list_index PySem.F.type_list_index mt_index ho.pe (pa_cons h.pe pa_nil hs) hbase hfew hline hs hpl, sim_lm rfl ho.sim h.sim fun G H p vs v ds y w Q s rr ry hw k => ?_⟩
  unfold fidxD at hw
  split at hw
  · rename_i hc
    obtain ⟨j, hj, rfl⟩ := Option.map_eq_some_iff.mp hw
    obtain ⟨z1, z2⟩ := flV_of ry hc.1
    obtain ⟨z3, z4⟩ := flV_all rr hc.2
    obtain ⟨hlt, hit, hno⟩ := List.findIdx?_eq_some_iff_getElem.mp hj
    have mem : ∀ i (hi : i < ds.length), flatD ds[i] = true := fun i hi => List.all_eq_true.mp hc.2 _ (List.getElem_mem hi)
    subst z1 z3
    refine ⟨p, _, _, j, flV ds[j], rfl, rfl, s, z2, z4, by rw [List.getElem?_map, List.getElem?_eq_getElem hlt]; rfl, by rw [eqF_of (mem j hlt) hc.1]; exact hit, fun m z' hm hz => ?_, k _ (.int _)⟩
    rw [List.getElem?_map, List.getElem?_eq_getElem (by omega)] at hz
    cases hz
    rw [eqF_of (mem m (by omega)) hc.1]
    have := hno m hm
    simpa using this
  · cases hw
end
end MX

namespace PySem.SeqAt
open AutoSeq1 (wpAny_loadPart')
open MeetsSeq MeetsSeq2 MeetsSeq3 SeqRoads2
section
variable {prog : Program} {w : World}
theorem mx_ne_loop (l b : Addr) (items items2 : Array Value) (n n2 : Nat) (dd dd2 : Option Addr) (sl sl2 : Array (Option Value)) (hsz : items.size = items2.size) (k : Nat) :
    ∀ i : Nat, items.size - i = k → MeetsIn prog w (Builtin.«list.__eq__.loop» ⟨[.ref l, .ref b, rawInt i, rawInt 3], []⟩)
      (fun A R s => s.heap.get? l = some { cls := .type "list", dict := dd, data := .seq items n, slots := sl } ∧ s.heap.get? b = some { cls := .type "list", dict := dd2, data := .seq items2 n2, slots := sl2 } ∧
        (∀ j (h1 : j < items.size) (h2 : j < items2.size), EqIn prog w A.in1 s items[j] items2[j] true) ∧
        R (.ok (.ret (.bool false))) s) := by
  induction k with
  | zero =>
    intro i hk A R s h
    obtain ⟨hp, g, d, tk, os⟩ := s; obtain ⟨hl, hb, he, h⟩ := h
    wp_walk using wpAny_loadPart' hl, wpAny_loadPart' hb
    have hi1 : items[((i : Nat) : Int).toNat]? = none := by simp; omega
    have hi2 : items2[((i : Nat) : Int).toNat]? = none := by simp; omega
    rw [hi1, hi2]
    wp_walk using wpAny_loadPart' hl, wpAny_loadPart' hb
    show R (.ok (.ret (.bool (items.size != items2.size)))) _
    rw [hsz]
    simpa using h
  | succ k ih =>
    intro i hk A R s h
    obtain ⟨hp, g, d, tk, os⟩ := s; obtain ⟨hl, hb, he, h⟩ := h
    wp_walk using wpAny_loadPart' hl, wpAny_loadPart' hb
    have hlt : i < items.size := by omega
    have hlt2 : i < items2.size := by omega
    have hi1 : items[((i : Nat) : Int).toNat]? = some items[i] := by simp [hlt]
    have hi2 : items2[((i : Nat) : Int).toNat]? = some items2[i] := by simp [hlt2]
    have hc : ((i : Int) + 1) = ((i + 1 : Nat) : Int) := by push_cast; rfl
    rw [hi1, hi2]
    refine wpAny_bind (he i hlt hlt2 _ _ ?_)
    wp_walk
    rw [hc]
    exact ⟨plainId_quiet plain_eq_loop _, codeAny_builtin entry_eq_loop (by
      rw [Around.under_plainId plain_eq_loop _]
      exact ih (i + 1) (by omega) A R _ ⟨hl, hb, he, h⟩)⟩
theorem mx_list_ne (l b : Addr) (items items2 : Array Value) (n n2 : Nat) (dd dd2 : Option Addr) (sl sl2 : Array (Option Value)) (hsz : items.size = items2.size) :
    MeetsIn prog w (Builtin.«list.__ne__» ⟨[.ref l, .ref b], []⟩)
      (fun A R s => s.heap.get? l = some { cls := .type "list", dict := dd, data := .seq items n, slots := sl } ∧ s.heap.get? b = some { cls := .type "list", dict := dd2, data := .seq items2 n2, slots := sl2 } ∧
        (∀ j (h1 : j < items.size) (h2 : j < items2.size), EqIn prog w A.in1 s items[j] items2[j] true) ∧
        R (.ok (.ret (.bool false))) s) := by
  intro A R s h
  obtain ⟨hp, g, d, tk, os⟩ := s; obtain ⟨hl, hb, he, h⟩ := h
  have f3 := AutoSeq1.sub_list_list
  have hne : ¬ (items.size != items2.size) = true := by simp [hsz]
  wp_walk using wpAny_loadPart' hl, wpAny_loadPart' hb
  exact ⟨plainId_quiet plain_eq_loop _, codeAny_builtin entry_eq_loop (by
    rw [Around.under_plainId plain_eq_loop _]
    exact mx_ne_loop l b items items2 n n2 dd dd2 sl sl2 hsz _ 0 rfl A R _ ⟨hl, hb, he, by simpa using h⟩)⟩
theorem mx_tup_ne (l b : Addr) (items items2 : Array Value) (n n2 : Nat) (dd dd2 : Option Addr) (sl sl2 : Array (Option Value)) (hsz : items.size = items2.size) :
    MeetsIn prog w (Builtin.«tuple.__ne__» ⟨[.ref l, .ref b], []⟩)
      (fun A R s => s.heap.get? l = some { cls := .type "tuple", dict := dd, data := .seq items n, slots := sl } ∧ s.heap.get? b = some { cls := .type "tuple", dict := dd2, data := .seq items2 n2, slots := sl2 } ∧
        (∀ j (h1 : j < items.size) (h2 : j < items2.size), EqIn prog w A.in1 s items[j] items2[j] true) ∧
        R (.ok (.ret (.bool false))) s) :=
  .of_wp fun A R s h => by
    obtain ⟨hp, g, d, tk, os⟩ := s; obtain ⟨hl, hb, he, h⟩ := h
    have f2 := AutoSeq1.sub_tuple_tuple
    have hZ : (items.toList.zip items2.toList).length = min items.size items2.size := by simp
    wp_walk using wpAny_loadPart' hl, wpAny_loadPart' hb, wpAny_forIn_list _ (fun rest b s' => b.1 = none ∧ s' = ⟨hp, g, d, tk, os⟩ ∧ ∃ i, rest = (items.toList.zip items2.toList).drop i) _
    case turn =>
      rintro ⟨y, x⟩ rest b s' ⟨hb', rfl, i, hz⟩
      have hlt : i < (items.toList.zip items2.toList).length := by
        rcases Nat.lt_or_ge i (items.toList.zip items2.toList).length with h' | h'
        · exact h'
        · rw [List.drop_of_length_le h'] at hz; cases hz
      have hm : i < min items.size items2.size := hZ ▸ hlt
      have h1 : i < items.size := Nat.lt_of_lt_of_le hm (Nat.min_le_left _ _)
      have h2 : i < items2.size := Nat.lt_of_lt_of_le hm (Nat.min_le_right _ _)
      rw [List.drop_eq_getElem_cons hlt] at hz
      injection hz with hyx hrest
      have hy : y = items[i] := by have := congrArg Prod.fst hyx; simpa using this
      have hx : x = items2[i] := by have := congrArg Prod.snd hyx; simpa using this
      subst hy hx
      refine wpAny_bind (he i h1 h2 _ _ ?_)
      wp_walk
      exact ⟨rfl, rfl, i + 1, hrest⟩
    case fin =>
      rintro ⟨b1, b2⟩ s' ⟨hb', rfl, i, hz⟩
      simp only at hb'
      subst hb'
      wp_walk
      refine ⟨_, rfl, ?_⟩
      simpa [Builtin.Tuple.tupleCompareSizes, bne, hsz] using h
    case h =>
      exact ⟨rfl, rfl, 0, rfl⟩
end
section
variable {prog : Program} {w : World} {A : Around} {s : Shared} {E : Value → Shared → Prop} {l b : Addr} {Q : Value → Shared → Prop}
theorem mx_rcne_lists {items items2 : Array Value} (hl : s.heap.IsList l items) (hb : s.heap.IsList b items2) (hsz : items.size = items2.size) (hu : A.units < cLine)
    (he : ∀ j (h1 : j < items.size) (h2 : j < items2.size), EqIn prog w A.in1 s items[j] items2[j] true) (h : Q (.bool false) s) : wpAny (model prog w) A (richCompare .NotEq (.ref l) (.ref b)) Q E s := by
  obtain ⟨⟨cls, dd, data, sl⟩, ho, hc, n, hd⟩ := id hl
  obtain ⟨⟨cls2, dd2, data2, sl2⟩, ho2, hc2, n2, hd2⟩ := id hb
  simp only at hc hd hc2 hd2
  subst hc hd hc2 hd2
  exact wpAny_richCompare_same_room (T := "list") (op := .NotEq) ⟨_, ho, rfl⟩ ⟨_, ho2, rfl⟩ F.slot_list_ne (call_meetsIn F.slot_list_ne ⟨_, ho, rfl⟩ F.entry_list_ne (F.args_list_ne_2 _ _) (mx_list_ne l b items items2 n n2 dd dd2 sl sl2 hsz)
    ⟨ho, ho2, he, show Value.bool false ≠ Value.notImplemented ∧ Q (.bool false) s from ⟨(fun x => nomatch x), h⟩⟩) hu
theorem mx_rcne_tups {items items2 : Array Value} (hl : s.heap.IsTuple l items) (hb : s.heap.IsTuple b items2) (hsz : items.size = items2.size) (hu : A.units < cLine)
    (he : ∀ j (h1 : j < items.size) (h2 : j < items2.size), EqIn prog w A.in1 s items[j] items2[j] true) (h : Q (.bool false) s) : wpAny (model prog w) A (richCompare .NotEq (.ref l) (.ref b)) Q E s := by
  obtain ⟨⟨cls, dd, data, sl⟩, ho, hc, n, hd⟩ := id hl
  obtain ⟨⟨cls2, dd2, data2, sl2⟩, ho2, hc2, n2, hd2⟩ := id hb
  simp only at hc hd hc2 hd2
  subst hc hd hc2 hd2
  exact wpAny_richCompare_same_room (T := "tuple") (op := .NotEq) ⟨_, ho, rfl⟩ ⟨_, ho2, rfl⟩ F.slot_tuple_ne (call_meetsIn F.slot_tuple_ne ⟨_, ho, rfl⟩ F.entry_tuple_ne (F.args_tuple_ne_2 _ _) (mx_tup_ne l b items items2 n n2 dd dd2 sl sl2 hsz)
    ⟨ho, ho2, he, show Value.bool false ≠ Value.notImplemented ∧ Q (.bool false) s from ⟨(fun x => nomatch x), h⟩⟩) hu
theorem mx_rcne_dicts {K : Type} [DecidableEq K] {knd : KeyKind prog w K} {a b : Addr} {ka kb : List (K × Value)} (ha : (a == sysModules) = false) (hb : (b == sysModules) = false)
    (da : s.heap.DictOf knd a ka) (db : s.heap.DictOf knd b kb) (hu : A.units < cLine) (hl : ka.length = kb.length) (hits : W.KeqHitsIn prog w A.in1 s kb ka true) (h : Q (.bool false) s) :
    wpAny (model prog w) A (richCompare .NotEq (.ref a) (.ref b)) Q E s := by
  refine wpAny_richCompare_same_room (op := .NotEq) da.typeIs db.typeIs PySem.F.slot_dict_ne (wpAny_call_entry PySem.F.slot_dict_ne da.typeIs PySem.F.entry_dict_ne ?_ (PySem.F.args_dict_ne_2 _ _)) hu
  show wpAny _ _ (Builtin.Dict.dictSlotArgs "__ne__" ⟨[.ref a, .ref b], []⟩ >>= _) _ _ s
  refine wpAny_bind ?_
  unfold Builtin.Dict.dictSlotArgs
  refine wpAny_bind (wpAny_notOrdered_dict da.typeIs ?_)
  show wpAny _ _ (pure (Value.ref a, Value.ref b)) _ _ s
  refine wpAny_pure ?_
  refine wpAny_bind (wpAny_isInstance (T := "dict") db.typeIs PySem.F.sub_dict_dict ?_)
  simp only [Bool.not_true, Bool.false_eq_true, if_false]
  refine wpAny_bind (wpAny_pure (wpAny_bind (wpAny_pure ?_)))
  refine wpAny_bind (W.keq_samePairsIn ha hb da db (fun _ => hits) ?_)
  refine wpAny_pure ⟨_, rfl, ?_, ?_⟩
  · exact fun x => nomatch x
  · simpa [hl] using h
end
end PySem.SeqAt
namespace MX
open PySem PySem.Spec PyProof.Rows L2
/-! ### things that are alike -/
def allB2 {α : Type} (f : α → α → Bool) : List α → List α → Bool
  | [], [] => true
  | a :: as, b :: bs => f a b && allB2 f as bs
  | _, _ => false
theorem allB2_len {α : Type} {f : α → α → Bool} : ∀ {as bs : List α}, allB2 f as bs = true → as.length = bs.length
  | [], [], _ => rfl
  | [], _ :: _, h => by cases h
  | _ :: _, [], h => by cases h
  | a :: as, b :: bs, h => by
    obtain ⟨_, h2⟩ := He.ba (show (f a b && allB2 f as bs) = true from h)
    rw [List.length_cons, List.length_cons, allB2_len h2]
theorem allB2_get {α : Type} {f : α → α → Bool} : ∀ {as bs : List α}, allB2 f as bs = true → ∀ {i : Nat} {a b : α}, as[i]? = some a → bs[i]? = some b → f a b = true
  | a :: as, b :: bs, h, 0, _, _, p, q => by
    cases p; cases q
    exact (He.ba (show (f a b && allB2 f as bs) = true from h)).1
  | a :: as, b :: bs, h, i + 1, _, _, p, q => allB2_get (He.ba (show (f a b && allB2 f as bs) = true from h)).2 (i := i) (by simpa using p) (by simpa using q)
  | [], bs, h, i, _, _, p, q => by simp at p
  | _ :: _, [], h, i, _, _, p, q => by simp at q
theorem allB2_self {α : Type} {f : α → α → Bool} : ∀ {as : List α}, (∀ a ∈ as, f a a = true) → allB2 f as as = true
  | [], _ => rfl
  | a :: as, h => by
    show (f a a && allB2 f as as) = true
    rw [h a List.mem_cons_self, allB2_self fun b hb => h b (List.mem_cons_of_mem _ hb)]; rfl
def sameB : Nat → D → D → Bool
  | 0, _, _ => false
  | n + 1, a, b => match a, b with
    | .non, .non => true
    | .bl a, .bl b => decide (a = b)
    | .int a, .int b => decide (a = b)
    | .str a, .str b => decide (a = b)
    | .lst as, .lst bs => allB2 (sameB n) as bs
    | .tup as, .tup bs => allB2 (sameB n) as bs
    | .dk as, .dk bs => decide ((as.map (·.1)).Nodup) && decide (as.map (·.1) = bs.map (·.1)) && allB2 (sameB n) (as.map (·.2)) (bs.map (·.2))
    | _, _ => false
theorem vals_ix {K : Frg} {G : Hp} {vs : List V} {ds : List D} {its : List Value} (rr : RepAll K G vs ds) (hv : Vals vs its) {j : Nat} (h : j < its.toArray.size) : ∃ x d, vs[j]? = some x ∧ ds[j]? = some d ∧ Rep K G x d ∧ RelV x its.toArray[j] := by
  have h1 : j < its.length := by simpa using h
  have h2 : j < vs.length := by rw [hv.length]; exact h1
  have h3 : j < ds.length := by rw [← rr.1]; exact h2
  obtain ⟨w1, g1, r1⟩ := hv.get (List.getElem?_eq_getElem h2)
  have t1 : its.toArray[j] = w1 := by
    have := (List.getElem?_eq_some_iff.mp g1).2
    simpa using this
  exact ⟨vs[j], ds[j], List.getElem?_eq_getElem h2, List.getElem?_eq_getElem h3, rr.2 j _ _ (List.getElem?_eq_getElem h2) (List.getElem?_eq_getElem h3), by rw [t1]; exact r1⟩
theorem range_all (n : Nat) : ((List.range n).all fun _ => true) = true := by simp
section
variable {X : Cx} {pins : List (Addr × Obj)} {σ : L2.St} {H G : Hp} {s : Shared}
theorem dk_hits {P : Value → Value → Prop} {ka kb : List (Key × V)} {as bs : List (Key × D)} {va vb : List (Key × Value)} (ra : KV ka va) (rb : KV kb vb) (na : (as.map (·.1)).Nodup) (hk : as.map (·.1) = bs.map (·.1))
    (k1 : RepK X.K G ka as) (k2 : RepK X.K G kb bs) {f : D → D → Bool} (hs : allB2 f (as.map (·.2)) (bs.map (·.2)) = true) (hp : ∀ a b x y u v, f a b = true → Rep X.K G x a → Rep X.K G y b → RelV x u → RelV y v → P u v) :
    va.length = vb.length ∧ (∀ k v y, (k, v) ∈ va → valueAt vb k = some y → P v y) ∧ (va.all fun p => (valueAt vb p.1).isSome && true) = true := by
  have ea : va.map (·.1) = as.map (·.1) := by rw [← ra.keys, k1.1]
  have eb : vb.map (·.1) = as.map (·.1) := by rw [← rb.keys, k2.1, hk]
  have hl : va.length = vb.length := by
    have := congrArg List.length (ea.trans eb.symm)
    simpa using this
  have nb : (vb.map (·.1)).Nodup := by rw [eb]; exact na
  have at_ : ∀ k v, (k, v) ∈ va → ∃ y, valueAt vb k = some y ∧ P v y := by
    intro k v hm
    obtain ⟨i, hi, hg⟩ := List.getElem_of_mem hm
    have hi2 : i < vb.length := hl ▸ hi
    have hia : i < as.length := by
      have := congrArg List.length ea
      simp at this; omega
    have hib : i < bs.length := by
      have := congrArg List.length hk
      simp at this; omega
    have hka : i < ka.length := by
      have := ra.length; omega
    have hkb : i < kb.length := by
      have := rb.length; omega
    have gk : vb[i].1 = k := by
      have e1 : (va.map (·.1))[i]? = (vb.map (·.1))[i]? := by rw [ea, eb]
      rw [List.getElem?_map, List.getElem?_map, List.getElem?_eq_getElem hi, List.getElem?_eq_getElem hi2, hg] at e1
      simpa using e1.symm
    have g2 : vb[i]? = some (k, vb[i].2) := by
      rw [List.getElem?_eq_getElem hi2, ← gk]
    refine ⟨vb[i].2, valueAt_of_get nb g2, ?_⟩
    have relAt : ∀ {l : List (Key × V)} {m : List (Key × Value)}, Paired (fun (p : Key × V) (q : Key × Value) => p.1 = q.1 ∧ RelV p.2 q.2) l m → ∀ (j : Nat) (h1 : j < l.length) (h2 : j < m.length), RelV l[j].2 m[j].2 := by
      intro l m r
      induction r with
      | nil => intro j h1; exact absurd h1 (by simp)
      | cons h t ih =>
        intro j h1 h2
        cases j with
        | zero => exact h.2
        | succ j => exact ih j (by simpa using h1) (by simpa using h2)
    have r1 := relAt ra i hka hi
    have r2 := relAt rb i hkb hi2
    rw [hg] at r1
    refine hp as[i].2 bs[i].2 ka[i].2 kb[i].2 v vb[i].2 (allB2_get hs (i := i) (by simp [hia]) (by simp [hib])) (k1.2 i _ _ (List.getElem?_eq_getElem hka) (List.getElem?_eq_getElem hia)) (k2.2 i _ _ (List.getElem?_eq_getElem hkb) (List.getElem?_eq_getElem hib)) r1 r2
  refine ⟨hl, fun k v y hm hy => ?_, List.all_eq_true.mpr fun p hm => ?_⟩
  · obtain ⟨z, h1, h2⟩ := at_ k v hm
    rw [h1] at hy; cases hy; exact h2
  · obtain ⟨z, h1, _⟩ := at_ p.1 p.2 hm
    rw [h1]; rfl
theorem same_tree (I : Inv X pins σ H s) (e : Same G H) : ∀ (n : Nat) (a b : D) (x y : V) (u v : Value), sameB n a b = true → Rep X.K G x a → Rep X.K G y b → RelV x u → RelV y v → PySem.W.EqTree X.prog X.w s n u v true
  | 0, a, b, x, y, u, v, h, _, _, _, _ => by cases h
  | n + 1, a, b, x, y, u, v, h, ra, rb, rx, ry => by
    unfold sameB at h
    split at h
    · cases ra; cases rb; cases rx; cases ry; exact .same
    · cases ra; cases rb; cases rx; cases ry
      cases of_decide_eq_true h
      exact .same
    · cases ra; cases rb
      cases of_decide_eq_true h
      refine .leaf fun A _ => ?_
      have z := eqAt_V (A := A) (s := s) rx ry rfl rfl
      rw [show eqV (.int _) (.int _) = true from beq_self_eq_true _] at z
      exact z
    · cases ra; cases rb
      cases of_decide_eq_true h
      refine .leaf fun A _ => ?_
      have z := eqAt_V (A := A) (s := s) rx ry rfl rfl
      rw [show eqV (.str _) (.str _) = true from beq_self_eq_true _] at z
      exact z
    · rename_i as bs
      obtain ⟨p, xs, rfl, hp, r1⟩ := repAll_of_lst ra
      obtain ⟨q, ys, rfl, hq, r2⟩ := repAll_of_lst rb
      obtain rfl : u = Value.ref p := rx
      obtain rfl : v = Value.ref q := ry
      by_cases c : p = q
      · subst c; exact .same
      · obtain ⟨its, hv, pl, _⟩ := I.list (SqL.of (e _ _ hp))
        obtain ⟨its2, hv2, pl2, _⟩ := I.list (SqL.of (e _ _ hq))
        have z := PySem.W.EqTree.lists (prog := X.prog) (w := X.w) (n := n) (e := fun _ => true) c pl.isList pl2.isList (by rw [List.size_toArray, List.size_toArray, ← hv.length, ← hv2.length, r1.1, r2.1, allB2_len h]) fun j h1 h2 => by
          obtain ⟨x1, d1, g1, g2, g3, g4⟩ := vals_ix r1 hv h1
          obtain ⟨x2, d2, g5, g6, g7, g8⟩ := vals_ix r2 hv2 h2
          exact same_tree I e n d1 d2 x1 x2 _ _ (allB2_get h g2 g6) g3 g7 g4 g8
        rw [range_all] at z
        exact z
    · rename_i as bs
      obtain ⟨p, xs, rfl, hp, r1⟩ := tup_of ra
      obtain ⟨q, ys, rfl, hq, r2⟩ := tup_of rb
      obtain rfl : u = Value.ref p := rx
      obtain rfl : v = Value.ref q := ry
      by_cases c : p = q
      · subst c; exact .same
      · obtain ⟨its, hv, pl, _⟩ := I.tuple (SqT.of (e _ _ hp))
        obtain ⟨its2, hv2, pl2, _⟩ := I.tuple (SqT.of (e _ _ hq))
        have hsz : its.toArray.size = its2.toArray.size := by rw [List.size_toArray, List.size_toArray, ← hv.length, ← hv2.length, r1.1, r2.1, allB2_len h]
        have z := PySem.W.EqTree.tuples (prog := X.prog) (w := X.w) (n := n) (e := fun _ => true) c pl pl2 fun j h1 h2 => by
          obtain ⟨x1, d1, g1, g2, g3, g4⟩ := vals_ix r1 hv h1
          obtain ⟨x2, d2, g5, g6, g7, g8⟩ := vals_ix r2 hv2 h2
          exact same_tree I e n d1 d2 x1 x2 _ _ (allB2_get h g2 g6) g3 g7 g4 g8
        rw [range_all, hsz, beq_self_eq_true, Bool.and_true] at z
        exact z
    · rename_i as bs
      obtain ⟨h0, h3⟩ := He.ba h
      obtain ⟨h1, h2⟩ := He.ba h0
      cases ra with
      | @dk p kvs _ hp l1 k1 =>
        cases rb with
        | @dk q kws _ hq l2 k2 =>
          obtain rfl : u = Value.ref p := rx
          obtain rfl : v = Value.ref q := ry
          by_cases c : p = q
          · subst c; exact .same
          · obtain ⟨_, m1, va, rv, da⟩ := dk_of I.hok (e _ _ hp)
            obtain ⟨_, m2, vb, rw2, db⟩ := dk_of I.hok (e _ _ hq)
            obtain ⟨g1, g2, g3⟩ := dk_hits (X := X) (G := G) (P := fun u v => PySem.W.EqTree X.prog X.w s n u v true) rv rw2 (of_decide_eq_true h1) (of_decide_eq_true h2) ⟨l1, k1⟩ ⟨l2, k2⟩ h3 fun a b x y u v f => same_tree I e n a b x y u v f
            have z := PySem.W.EqTree.dicts (n := n) (e := fun _ => true) c m1 m2 da db g2
            rw [g3, g1, beq_self_eq_true] at z
            exact z
    · cases h
end
end MX
namespace MX
open PySem PySem.Spec PyProof.Rows L2
def isCo : D → Bool
  | .lst _ => true
  | .tup _ => true
  | .dk _ => true
  | _ => false
def rSame (K : Frg) (g : Bool → Bool) : R2 := fun x y H Q => ∃ G a b, Same G H ∧ Rep K G x a ∧ Rep K G y b ∧ isCo a = true ∧ sameB 40 a b = true ∧ Q (.bl (g true)) H
def sameD (g : Bool → Bool) (a b : D) : Option D := if (isCo a && sameB 40 a b) = true then some (.bl (g true)) else none
theorem od_same {K : Frg} {g : Bool → Bool} : OpD K (rSame K g) (sameD g) := by
  intro G H a b d x y Q e ra rb hf k
  unfold sameD at hf
  split at hf
  · rename_i hc
    cases hf
    obtain ⟨h1, h2⟩ := He.ba hc
    exact ⟨G, a, b, e, ra, rb, h1, h2, k _ G H (.refl e) (.bl _)⟩
  · cases hf
section
variable {X : Cx} {cs : List Nat} {feq : Fn}
theorem same_items {pins : List (Addr × Obj)} {σ : L2.St} {H G : Hp} {s : Shared} (I : Inv X pins σ H s) (e : Same G H) {as bs : List D} {xs ys : List V} {its its2 : List Value} (r1 : RepAll X.K G xs as) (r2 : RepAll X.K G ys bs) (hv : Vals xs its) (hv2 : Vals ys its2) (h : allB2 (sameB 39) as bs = true) :
    its.toArray.size = its2.toArray.size ∧ ∀ j (h1 : j < its.toArray.size) (h2 : j < its2.toArray.size), PySem.W.EqTree X.prog X.w s 39 its.toArray[j] its2.toArray[j] true := by
  refine ⟨by rw [List.size_toArray, List.size_toArray, ← hv.length, ← hv2.length, r1.1, r2.1, allB2_len h], fun j h1 h2 => ?_⟩
  obtain ⟨x1, d1, g1, g2, g3, g4⟩ := vals_ix r1 hv h1
  obtain ⟨x2, d2, g5, g6, g7, g8⟩ := vals_ix r2 hv2 h2
  exact same_tree I e 39 d1 d2 x1 x2 _ _ (allB2_get h g2 g6) g3 g7 g4 g8
theorem op_same_eq (hu : X.A.units + 64 < cLine) : OpR X (compareOp .Eq) (rSame X.K id) := by
  rintro pins s σ H x y v u Q I rx ry ⟨G, a, b, e, ra, rb, hc, h, q⟩
  show wpAny (model X.prog X.w) X.A (richCompare .Eq v u) (EP X pins σ Q) X.xe s
  have fin : EP X pins σ Q (.bool true) s := ⟨.bl true, H, I, rfl, q⟩
  have hu1 : X.A.units < cLine := by omega
  cases a with
  | lst as =>
    cases b with
    | lst bs =>
      have h' : allB2 (sameB 39) as bs = true := h
      obtain ⟨p, xs, rfl, hp, r1⟩ := repAll_of_lst ra
      obtain ⟨q, ys, rfl, hq, r2⟩ := repAll_of_lst rb
      obtain rfl : v = Value.ref p := rx
      obtain rfl : u = Value.ref q := ry
      obtain ⟨its, hv, pl, _⟩ := I.list (SqL.of (e _ _ hp))
      obtain ⟨its2, hv2, pl2, _⟩ := I.list (SqL.of (e _ _ hq))
      obtain ⟨z1, z2⟩ := same_items I e r1 r2 hv hv2 h'
      refine SeqAt.rcIn_lists (e := fun _ => true) pl.isList pl2.isList z1 hu1 (fun j h1 h2 => (z2 j h1 h2).at X.A.in1 (by show X.A.units + 1 + 39 < cLine; omega)) ?_
      rw [range_all]; exact fin
    | _ => cases h
  | tup as =>
    cases b with
    | tup bs =>
      have h' : allB2 (sameB 39) as bs = true := h
      obtain ⟨p, xs, rfl, hp, r1⟩ := tup_of ra
      obtain ⟨q, ys, rfl, hq, r2⟩ := tup_of rb
      obtain rfl : v = Value.ref p := rx
      obtain rfl : u = Value.ref q := ry
      obtain ⟨its, hv, pl, _⟩ := I.tuple (SqT.of (e _ _ hp))
      obtain ⟨its2, hv2, pl2, _⟩ := I.tuple (SqT.of (e _ _ hq))
      obtain ⟨z1, z2⟩ := same_items I e r1 r2 hv hv2 h'
      refine SeqAt.rcIn_tuples (e := fun _ => true) pl pl2 hu1 (fun j h1 h2 => (z2 j h1 h2).at X.A.in1 (by show X.A.units + 1 + 39 < cLine; omega)) ?_
      rw [range_all, z1, beq_self_eq_true]; exact fin
    | _ => cases h
  | dk as =>
    cases b with
    | dk bs =>
      have h' : (decide ((as.map (·.1)).Nodup) && decide (as.map (·.1) = bs.map (·.1)) && allB2 (sameB 39) (as.map (·.2)) (bs.map (·.2))) = true := h
      obtain ⟨h0, h3⟩ := He.ba h'
      obtain ⟨h1, h2⟩ := He.ba h0
      cases ra with
      | @dk p kvs _ hp l1 k1 =>
        cases rb with
        | @dk q kws _ hq l2 k2 =>
          obtain rfl : v = Value.ref p := rx
          obtain rfl : u = Value.ref q := ry
          obtain ⟨_, m1, va, rv, da⟩ := dk_of I.hok (e _ _ hp)
          obtain ⟨_, m2, vb, rw2, db⟩ := dk_of I.hok (e _ _ hq)
          obtain ⟨g1, g2, g3⟩ := dk_hits (X := X) (G := G) (P := fun u v => PySem.W.EqTree X.prog X.w s 39 u v true) rv rw2 (of_decide_eq_true h1) (of_decide_eq_true h2) ⟨l1, k1⟩ ⟨l2, k2⟩ h3 fun a b x y u v f => same_tree I e 39 a b x y u v f
          refine PySem.W.eq_dictsT (n := 39) (e := fun _ => true) m1 m2 da db g2 (by omega) ?_
          rw [g3, g1, beq_self_eq_true]; exact fin
    | _ => cases h
  | _ => cases hc
theorem op_same_ne (hu : X.A.units + 64 < cLine) : OpR X (compareOp .NotEq) (rSame X.K Bool.not) := by
  rintro pins s σ H x y v u Q I rx ry ⟨G, a, b, e, ra, rb, hc, h, q⟩
  show wpAny (model X.prog X.w) X.A (richCompare .NotEq v u) (EP X pins σ Q) X.xe s
  have fin : EP X pins σ Q (.bool false) s := ⟨.bl false, H, I, rfl, q⟩
  have hu1 : X.A.units < cLine := by omega
  cases a with
  | lst as =>
    cases b with
    | lst bs =>
      have h' : allB2 (sameB 39) as bs = true := h
      obtain ⟨p, xs, rfl, hp, r1⟩ := repAll_of_lst ra
      obtain ⟨q, ys, rfl, hq, r2⟩ := repAll_of_lst rb
      obtain rfl : v = Value.ref p := rx
      obtain rfl : u = Value.ref q := ry
      obtain ⟨its, hv, pl, _⟩ := I.list (SqL.of (e _ _ hp))
      obtain ⟨its2, hv2, pl2, _⟩ := I.list (SqL.of (e _ _ hq))
      obtain ⟨z1, z2⟩ := same_items I e r1 r2 hv hv2 h'
      exact SeqAt.mx_rcne_lists pl.isList pl2.isList z1 hu1 (fun j h1 h2 => (z2 j h1 h2).at X.A.in1 (by show X.A.units + 1 + 39 < cLine; omega)) fin
    | _ => cases h
  | tup as =>
    cases b with
    | tup bs =>
      have h' : allB2 (sameB 39) as bs = true := h
      obtain ⟨p, xs, rfl, hp, r1⟩ := tup_of ra
      obtain ⟨q, ys, rfl, hq, r2⟩ := tup_of rb
      obtain rfl : v = Value.ref p := rx
      obtain rfl : u = Value.ref q := ry
      obtain ⟨its, hv, pl, _⟩ := I.tuple (SqT.of (e _ _ hp))
      obtain ⟨its2, hv2, pl2, _⟩ := I.tuple (SqT.of (e _ _ hq))
      obtain ⟨z1, z2⟩ := same_items I e r1 r2 hv hv2 h'
      exact SeqAt.mx_rcne_tups pl pl2 z1 hu1 (fun j h1 h2 => (z2 j h1 h2).at X.A.in1 (by show X.A.units + 1 + 39 < cLine; omega)) fin
    | _ => cases h
  | dk as =>
    cases b with
    | dk bs =>
      have h' : (decide ((as.map (·.1)).Nodup) && decide (as.map (·.1) = bs.map (·.1)) && allB2 (sameB 39) (as.map (·.2)) (bs.map (·.2))) = true := h
      obtain ⟨h0, h3⟩ := He.ba h'
      obtain ⟨h1, h2⟩ := He.ba h0
      cases ra with
      | @dk p kvs _ hp l1 k1 =>
        cases rb with
        | @dk q kws _ hq l2 k2 =>
          obtain rfl : v = Value.ref p := rx
          obtain rfl : u = Value.ref q := ry
          obtain ⟨_, m1, va, rv, da⟩ := dk_of I.hok (e _ _ hp)
          obtain ⟨_, m2, vb, rw2, db⟩ := dk_of I.hok (e _ _ hq)
          obtain ⟨g1, g2, g3⟩ := dk_hits (X := X) (G := G) (P := fun u v => PySem.W.EqTree X.prog X.w s 39 u v true) rv rw2 (of_decide_eq_true h1) (of_decide_eq_true h2) ⟨l1, k1⟩ ⟨l2, k2⟩ h3 fun a b x y u v f => same_tree I e 39 a b x y u v f
          have hits := PySem.W.KeqHitsIn.of (prog := X.prog) (w := X.w) (A := X.A.in1) (s := s) (kb := vb) (e := fun _ => true) va fun k v y hm hv => (g2 k v y hm hv).at X.A.in1 (by show X.A.units + 1 + 39 < cLine; omega)
          rw [g3] at hits
          exact SeqAt.mx_rcne_dicts m1 m2 da db hu1 g1 hits fin
    | _ => cases h
  | _ => cases hc
def eqY (cs : List Nat) (feq : Fn) (a b : D) : Option D := match sameD id a b with
  | some d => some d
  | none => eqO cs feq a b
def neY (cs : List Nat) (feq : Fn) (a b : D) : Option D := match sameD Bool.not a b with
  | some d => some d
  | none => neO cs feq a b
theorem op_eqY (hu : X.A.units + 64 < cLine) (ke : KitE X.K cs) (he : ∀ c ∈ cs, EqOk X feq c) : OpR X (compareOp .Eq) (fun x y H Q => (rEqD X.K x y H Q ∨ rOwn X.K cs feq id x y H Q) ∨ rSame X.K id x y H Q) := OpR.or (op_eqO hu ke he) (op_same_eq hu)
theorem op_neY (hu : X.A.units + 64 < cLine) (ke : KitE X.K cs) (he : ∀ c ∈ cs, EqOk X feq c) : OpR X (compareOp .NotEq) (fun x y H Q => (rNeD X.K x y H Q ∨ rOwn X.K cs feq Bool.not x y H Q) ∨ rSame X.K Bool.not x y H Q) := OpR.or (op_neO hu ke he) (op_same_ne hu)
theorem od_eqY {K : Frg} : OpD K (fun x y H Q => (rEqD K x y H Q ∨ rOwn K cs feq id x y H Q) ∨ rSame K id x y H Q) (eqY cs feq) := od_eqO.or od_same fun x y d h => by
  unfold eqY at h
  split at h
  · rename_i hq; cases h; exact .inr hq
  · exact .inl h
theorem od_neY {K : Frg} : OpD K (fun x y H Q => (rNeD K x y H Q ∨ rOwn K cs feq Bool.not x y H Q) ∨ rSame K Bool.not x y H Q) (neY cs feq) := od_neO.or od_same fun x y d h => by
  unfold neY at h
  split at h
  · rename_i hq; cases h; exact .inr hq
  · exact .inl h
end
end MX

namespace MX
open PySem PySem.Spec PyProof.Rows L2
/-! ### mirrors evaluated -/
@[simp] theorem bnd_some {α γ : Type} (a : α) (ρ : Env) (f : α → Env → Option (Res γ × Env)) : bnd (some (Res.ok a, ρ)) f = f a ρ := rfl
@[simp] theorem retO_some {α : Type} (a : α) (ρ : Env) : retO (some a) ρ = some (Res.ok a, ρ) := rfl
@[simp] theorem ret_eq {α : Type} (a : α) (ρ : Env) : (ret a ρ : Option (Res α × Env)) = some (Res.ok a, ρ) := rfl
@[simp] theorem bndS_some {α : Type} (a : α) (ρ : Env) (f : α → Env → Option (Flow × Env)) : bndS (some (Res.ok a, ρ)) f = f a ρ := rfl
@[simp] theorem resD_ok (d : D) (ts : List T) (ρ : Env) : resD (some (.ok (.im d), ts)) ρ = some (.ok d, ρ) := rfl
@[simp] theorem resO_ok (i : Nat) (d : D) (t : T) (ts : List T) (ρ : Env) : resO i (some (.ok (.im d), t :: ts)) ρ = some (.ok d, ρ.set i (some t)) := rfl
@[simp] theorem resT_ok (t : T) (ts : List T) (ρ : Env) : resT (some (.ok t, ts)) ρ = some (.ok t, ρ) := rfl
@[simp] theorem resM_ok (c c' : Nat) (fs : List (Nat × T)) (ts : List T) (ρ : Env) : resM c (some (.ok (.im .non), .obj c' fs :: ts)) ρ = if c' = c then (imF fs).map fun gs => (.ok (.obj c gs), ρ) else none := rfl
@[simp] theorem backL_nil (kp : List Nat) (i : Nat) (ρ : Env) : backL kp i [] ρ = some [] := rfl
@[simp] theorem backL_cons (kp : List Nat) (i : Nat) (t : T) (ts : List T) (ρ : Env) : backL kp i (t :: ts) ρ = (if i ∈ kp then (ρ[i]?).join else imOf t).bind fun t' => (backL kp (i + 1) ts ρ).map (t' :: ·) := rfl
@[simp] theorem imOf_im (d : D) : imOf (.im d) = some (.im d) := rfl
@[simp] theorem endFn_rt (kp : List Nat) (ts : List T) (t : T) (ρ : Env) : endFn kp ts (some (.rt t, ρ)) = (backL kp 0 ts ρ).map fun ts' => (.ok t, ts') := rfl
@[simp] theorem endFn_nx (kp : List Nat) (ts : List T) (ρ : Env) : endFn kp ts (some (.nx, ρ)) = (backL kp 0 ts ρ).map fun ts' => (.ok (.im .non), ts') := rfl
@[simp] theorem runFn_ev (m : Nat) (kp : List Nat) (n : N) (ts : List T) : runFn m kp n ts = endFn kp ts (n (env0 m ts)) := rfl
@[simp] theorem env0_ev (m : Nat) (ts : List T) : env0 m ts = ts.map some ++ List.replicate (m - ts.length) none := rfl
@[simp] theorem ownA_ev (i : Nat) (ρ : Env) : ownA i ρ = (ρ[i]?).join := rfl
@[simp] theorem objAt_ev (ρ : Env) (i : Nat) : objAt ρ i = (match ρ[i]? with
  | some (some (.obj c fs)) => some (c, fs)
  | _ => none) := rfl
@[simp] theorem ownL_ev (ρ : Env) (i : Nat) : ownL ρ i = (match ρ[i]? with
  | some (some (.lst ts)) => imAll ts
  | _ => none) := rfl
@[simp] theorem imAll_nil : imAll [] = some [] := rfl
@[simp] theorem imAll_cons (d : D) (r : List T) : imAll (.im d :: r) = (imAll r).map (d :: ·) := rfl
@[simp] theorem imF_nil : imF [] = some [] := rfl
@[simp] theorem imF_cons (k : Nat) (d : D) (r : List (Nat × T)) : imF ((k, .im d) :: r) = (imF r).map ((k, d) :: ·) := rfl
@[simp] theorem putT_nil (k : Nat) (t : T) : putT k t [] = [(k, t)] := rfl
@[simp] theorem putT_cons (k j : Nat) (t u : T) (r : List (Nat × T)) : putT k t ((j, u) :: r) = if j = k then (j, t) :: r else (j, u) :: putT k t r := rfl
@[simp] theorem bN_ev (i : Nat) (d : D) (ρ : Env) : bN i d ρ = some (ρ.set i (some (.im d))) := rfl
@[simp] theorem bT_tup (bs : List (D → Env → Option Env)) (ds : List D) (ρ : Env) : bT bs (.tup ds) ρ = bds bs ds ρ := rfl
@[simp] theorem bds_nil (ρ : Env) : bds [] [] ρ = some ρ := rfl
@[simp] theorem bds_cons (b : D → Env → Option Env) (bs : List (D → Env → Option Env)) (d : D) (ds : List D) (ρ : Env) : bds (b :: bs) (d :: ds) ρ = (b d ρ).bind fun ρ1 => bds bs ds ρ1 := rfl
@[simp] theorem wipeE_nil (ρ : Env) : wipeE ρ [] = ρ := rfl
@[simp] theorem wipeE_cons (ρ : Env) (v : Nat) (vs : List Nat) : wipeE ρ (v :: vs) = (wipeE ρ vs).set v none := rfl
@[simp] theorem restE_nil (ρ1 ρ : Env) : restE ρ1 [] ρ = ρ := rfl
@[simp] theorem restE_cons (ρ1 ρ : Env) (v : Nat) (vs : List Nat) : restE ρ1 (v :: vs) ρ = (restE ρ1 vs ρ).set v (match ρ1[v]? with
    | some (some (.im d)) => some (.im d)
    | _ => none) := rfl
@[simp] theorem seqD_lst (ds : List D) : seqD (.lst ds) = some ds := rfl
@[simp] theorem seqD_tup (ds : List D) : seqD (.tup ds) = some ds := rfl
@[simp] theorem seqD_scr (ns : List Int) : seqD (.scr ns) = some (ns.map .int) := rfl
@[simp] theorem lstD_lst (ds : List D) : lstD (.lst ds) = some ds := rfl
@[simp] theorem blD_bl (b : Bool) : blD (.bl b) = some b := rfl
@[simp] theorem fldD_obj (k : Nat) (cs : List Nat) (c : Nat) (gs : List (Nat × D)) : fldD k cs (.obj c gs) = if c ∈ cs then gs.lookup k else none := rfl
@[simp] theorem tAt_ev (ρ : Env) (i : Nat) (π : List Nat) : tAt ρ i π = (match ρ[i]? with
  | some (some t) => t.at π
  | _ => none) := rfl
@[simp] theorem tPut_ev (ρ : Env) (i : Nat) (π : List Nat) (u : T) : tPut ρ i π u = (match ρ[i]? with
  | some (some t) => ρ.set i (some (t.put π u))
  | _ => ρ) := rfl
@[simp] theorem iBin_int (g : Int → Int → D) (i j : Int) : iBin g (.int i) (.int j) = some (g i j) := rfl
@[simp] theorem iBinC_int (c : Int → Int → Bool) (g : Int → Int → D) (i j : Int) : iBinC c g (.int i) (.int j) = if c i j = true then some (g i j) else none := rfl
@[simp] theorem addD_int (i j : Int) : addD (.int i) (.int j) = some (.int (i + j)) := rfl
@[simp] theorem addD_tup (a b : List D) : addD (.tup a) (.tup b) = if a.length + b.length ≤ 1000000 then some (.tup (a ++ b)) else none := rfl
@[simp] theorem subD_ev (a b : D) : subD a b = iBin (fun i j => .int (i - j)) a b := rfl
@[simp] theorem mulD_ev (a b : D) : mulD a b = iBinC mulOk (fun i j => .int (i * j)) a b := rfl
@[simp] theorem modD_ev (a b : D) : modD a b = iBinC (fun _ j => decide (0 < j)) (fun i j => .int (i % j)) a b := rfl
@[simp] theorem divD_ev (a b : D) : divD a b = iBinC (fun _ j => decide (0 < j) && decide (j < 1073741824)) (fun i j => .int (i / j)) a b := rfl
@[simp] theorem powD_ev (a b : D) : powD a b = iBinC (fun i j => decide (0 ≤ j) && decide (j ≤ 1000) && decide (i.natAbs < 2 ^ 64)) (fun i j => .int (i ^ j.toNat)) a b := rfl
@[simp] theorem ltD_ev (a b : D) : ltD a b = iBin (fun i j => .bl (decide (i < j))) a b := rfl
@[simp] theorem leD_ev (a b : D) : leD a b = iBin (fun i j => .bl (decide (i ≤ j))) a b := rfl
@[simp] theorem gtD_ev (a b : D) : gtD a b = iBin (fun i j => .bl (decide (j < i))) a b := rfl
@[simp] theorem geD_ev (a b : D) : geD a b = iBin (fun i j => .bl (decide (j ≤ i))) a b := rfl
@[simp] theorem eqD_ev (a b : D) : eqD a b = (eqB a b).map .bl := rfl
@[simp] theorem neD_ev (a b : D) : neD a b = (eqB a b).map fun c => .bl (!c) := rfl
@[simp] theorem isND_bl (a b : Bool) : isND (.bl a) (.bl b) = some (.bl (decide (a = b))) := rfl
@[simp] theorem ixD_lst (ds : List D) (i : Int) : ixD (.lst ds) (.int i) = atI ds i := rfl
@[simp] theorem ixD_tup (ds : List D) (i : Int) : ixD (.tup ds) (.int i) = atI ds i := rfl
@[simp] theorem lenS_ev (ds : List D) : lenS ds = some (.int (ds.length : Nat)) := rfl
@[simp] theorem tupDO_tup (ds : List D) : tupDO (.tup ds) = some (.tup ds) := rfl
@[simp] theorem tupDO_tupx (ds : List D) : tupDO (.tupx ds) = some (.tupx ds) := rfl
@[simp] theorem tupDO_lst (ds : List D) : tupDO (.lst ds) = some (.tup ds) := rfl
@[simp] theorem mTupOf_ev (m : M D) (ρ : Env) : mTupOf m ρ = (bnd (m ρ) fun d ρ1 => retO (tupDO d) ρ1) := rfl
@[simp] theorem mTupL_ev (m : M (List D)) (ρ : Env) : mTupL m ρ = (bnd (m ρ) fun ds ρ1 => ret (.tup ds) ρ1) := rfl
@[simp] theorem mTupX_ev (m : M (List D)) (ρ : Env) : mTupX m ρ = (bnd (m ρ) fun ds ρ1 => ret (.tupx ds) ρ1) := rfl
@[simp] theorem seqD_tupx (ds : List D) : seqD (.tupx ds) = some ds := rfl
@[simp] theorem ixD_tupx (ds : List D) (i : Int) : ixD (.tupx ds) (.int i) = atI ds i := rfl
@[simp] theorem lstS_ev (ds : List D) : lstS ds = some (.lst ds) := rfl
@[simp] theorem absC_int (i : Int) : absC [.int i] = some (.int (if i < 0 then -i else i)) := rfl
@[simp] theorem intC_int (i : Int) : intC [.int i] = some (.int i) := rfl
@[simp] theorem minC_int (i j : Int) : minC [.int i, .int j] = some (.int (if j < i then j else i)) := rfl
@[simp] theorem maxC_int (i j : Int) : maxC [.int i, .int j] = some (.int (if j > i then j else i)) := rfl
@[simp] theorem allS_ev (ds : List D) : allS ds = (blsD ds).map fun bs => .bl (bs.all id) := rfl
@[simp] theorem anyS_ev (ds : List D) : anyS ds = (blsD ds).map fun bs => .bl (bs.any id) := rfl
@[simp] theorem intD_int (i : Int) : intD (.int i) = some (some i) := rfl
@[simp] theorem mV_ev (i : Nat) (ρ : Env) : mV i ρ = (match ρ[i]? with
  | some (some (.im d)) => ret d ρ
  | _ => none) := rfl
@[simp] theorem mC_ev (d : D) (ρ : Env) : mC d ρ = (ret d ρ) := rfl
@[simp] theorem mBin_ev (f : D → D → Option D) (ma mb : M D) (ρ : Env) : mBin f ma mb ρ = (bnd (ma ρ) fun a ρ1 => bnd (mb ρ1) fun b ρ2 => retO (f a b) ρ2) := rfl
@[simp] theorem mSeq_ev (m : M D) (ρ : Env) : mSeq m ρ = (bnd (m ρ) fun d ρ1 => retO (seqD d) ρ1) := rfl
@[simp] theorem mOwn_ev (i : Nat) (ρ : Env) : mOwn i ρ = (retO (ownL ρ i) ρ) := rfl
@[simp] theorem mIn_ev (ma : M D) (ms : M (List D)) (ρ : Env) : mIn ma ms ρ = (bnd (ma ρ) fun a ρ1 => bnd (ms ρ1) fun ds ρ2 => retO ((inB a ds).map .bl) ρ2) := rfl
@[simp] theorem mNotIn_ev (ma : M D) (ms : M (List D)) (ρ : Env) : mNotIn ma ms ρ = (bnd (ma ρ) fun a ρ1 => bnd (ms ρ1) fun ds ρ2 => retO ((inB a ds).map fun c => .bl (!c)) ρ2) := rfl
@[simp] theorem mB_ev (m : M D) (ρ : Env) : mB m ρ = (bnd (m ρ) fun d ρ1 => retO (blD d) ρ1) := rfl
@[simp] theorem mChain_ev (f g : D → D → Option D) (ma mb mc : M D) (ρ : Env) : mChain f g ma mb mc ρ = (bnd (ma ρ) fun a ρ1 => bnd (mb ρ1) fun b ρ2 => bnd (retO ((f a b).bind blD) ρ2) fun k ρ3 => if k = true then bnd (mc ρ3) fun c ρ4 => retO (g b c) ρ4 else ret (.bl false) ρ3) := rfl
@[simp] theorem mAnd_ev (ma mb : M Bool) (ρ : Env) : mAnd ma mb ρ = (bnd (ma ρ) fun c ρ1 => if c = true then mb ρ1 else ret false ρ1) := rfl
@[simp] theorem mOr_ev (ma mb : M Bool) (ρ : Env) : mOr ma mb ρ = (bnd (ma ρ) fun c ρ1 => if c = true then ret true ρ1 else mb ρ1) := rfl
@[simp] theorem mNot_ev (ma : M Bool) (ρ : Env) : mNot ma ρ = (bnd (ma ρ) fun c ρ1 => ret (!c) ρ1) := rfl
@[simp] theorem mAndV_ev (ma mb : M D) (ρ : Env) : mAndV ma mb ρ = (bnd (ma ρ) fun d ρ1 => bnd (retO (blD d) ρ1) fun c ρ2 => if c = true then mb ρ2 else ret (.bl false) ρ2) := rfl
@[simp] theorem mOrV_ev (ma mb : M D) (ρ : Env) : mOrV ma mb ρ = (bnd (ma ρ) fun d ρ1 => bnd (retO (blD d) ρ1) fun c ρ2 => if c = true then ret (.bl true) ρ2 else mb ρ2) := rfl
@[simp] theorem mNotV_ev (ma : M D) (ρ : Env) : mNotV ma ρ = (bnd (ma ρ) fun d ρ1 => bnd (retO (blD d) ρ1) fun c ρ2 => ret (.bl (!c)) ρ2) := rfl
@[simp] theorem mIf_ev (mt : M Bool) (ma mb : M D) (ρ : Env) : mIf mt ma mb ρ = (bnd (mt ρ) fun c ρ1 => if c = true then ma ρ1 else mb ρ1) := rfl
@[simp] theorem mNil_ev (ρ : Env) : mNil  ρ = (ret [] ρ) := rfl
@[simp] theorem mCons_ev (m : M D) (ms : M (List D)) (ρ : Env) : mCons m ms ρ = (bnd (m ρ) fun d ρ1 => bnd (ms ρ1) fun ds ρ2 => ret (d :: ds) ρ2) := rfl
@[simp] theorem mTup_ev (ms : M (List D)) (ρ : Env) : mTup ms ρ = (bnd (ms ρ) fun ds ρ1 => ret (.tup ds) ρ1) := rfl
@[simp] theorem mLst_ev (ms : M (List D)) (ρ : Env) : mLst ms ρ = (bnd (ms ρ) fun ds ρ1 => ret (.lst ds) ρ1) := rfl
@[simp] theorem mCall_ev (f : List D → Option D) (ms : M (List D)) (ρ : Env) : mCall f ms ρ = (bnd (ms ρ) fun ds ρ1 => retO (f ds) ρ1) := rfl
@[simp] theorem mList_ev (m : M D) (ρ : Env) : mList m ρ = (bnd (m ρ) fun d ρ1 => retO (lstD d) ρ1) := rfl
@[simp] theorem mIsT_ev (cs : List Nat) (ma : M D) (ms : M (List D)) (ρ : Env) : mIsT cs ma ms ρ = (bnd (ma ρ) fun d ρ1 => bnd (ms ρ1) fun ts ρ2 => retO ((isAny cs d ts).map .bl) ρ2) := rfl
@[simp] theorem mIxO_ev (i : Nat) (mb : M D) (ρ : Env) : mIxO i mb ρ = (bnd (retO (ownL ρ i) ρ) fun _ ρ0 => bnd (mb ρ0) fun k ρ1 => retO ((ownL ρ1 i).bind fun ds => ixD (.lst ds) k) ρ1) := rfl
@[simp] theorem mRng_ev (ms : M (List D)) (ρ : Env) : mRng ms ρ = (bnd (ms ρ) fun ds ρ1 => retO (rngC ds) ρ1) := rfl
@[simp] theorem mFz_ev (m : M (List D)) (ρ : Env) : mFz m ρ = (bnd (m ρ) fun ds ρ1 => ret (.lst ds) ρ1) := rfl
@[simp] theorem mYes_ev (ρ : Env) : mYes  ρ = (ret true ρ) := rfl
@[simp] theorem nNx_ev (ρ : Env) : nNx  ρ = (some (.nx, ρ)) := rfl
@[simp] theorem sq_ev (n n' : N) (ρ : Env) : sq n n' ρ = (match n ρ with
  | some (.nx, ρ1) => n' ρ1
  | r => r) := rfl
@[simp] theorem nSet_ev (i : Nat) (m : M D) (ρ : Env) : nSet i m ρ = (bndS (m ρ) fun d ρ1 => some (.nx, ρ1.set i (some (.im d)))) := rfl
@[simp] theorem nAsg_ev (bd : D → Env → Option Env) (m : M D) (ρ : Env) : nAsg bd m ρ = (bndS (m ρ) fun d ρ1 => (bd d ρ1).map fun ρ2 => (.nx, ρ2)) := rfl
@[simp] theorem nPar_ev (i j : Nat) (ms : M (List D)) (ρ : Env) : nPar i j ms ρ = (bndS (ms ρ) fun ds ρ1 => match ds with
  | [d, d'] => some (.nx, (ρ1.set i (some (.im d))).set j (some (.im d')))
  | _ => none) := rfl
@[simp] theorem nAug_ev (i : Nat) (f : Int → Int → Int) (m : M D) (ρ : Env) : nAug i f m ρ = (match ρ[i]? with
  | some (some (.im (.int x))) => bndS (m ρ) fun d ρ1 => match d with
    | .int y => some (.nx, ρ1.set i (some (.im (.int (f x y)))))
    | _ => none
  | _ => none) := rfl
@[simp] theorem nIf_ev (m : M Bool) (n n' : N) (ρ : Env) : nIf m n n' ρ = (bndS (m ρ) fun c ρ1 => if c = true then n ρ1 else n' ρ1) := rfl
@[simp] theorem nBk_ev (ρ : Env) : nBk  ρ = (some (.bk, ρ)) := rfl
@[simp] theorem nCt_ev (ρ : Env) : nCt  ρ = (some (.ct, ρ)) := rfl
@[simp] theorem nRet_ev (m : M D) (ρ : Env) : nRet m ρ = (bndS (m ρ) fun d ρ1 => some (.rt (.im d), ρ1)) := rfl
@[simp] theorem nRetN_ev (ρ : Env) : nRetN  ρ = (some (.rt (.im .non), ρ)) := rfl
@[simp] theorem nDrop_ev (m : M D) (ρ : Env) : nDrop m ρ = (bndS (m ρ) fun _ ρ1 => some (.nx, ρ1)) := rfl
@[simp] theorem nFor_ev (ms : M (List D)) (bd : D → Env → Option Env) (n : N) (ρ : Env) : nFor ms bd n ρ = (bndS (ms ρ) fun ds ρ1 => forL bd n ds ρ1) := rfl
@[simp] theorem mFn_ev (f : Fn) (ms : M (List D)) (ρ : Env) : mFn f ms ρ = (bnd (ms ρ) fun ds ρ1 => resD (f (ds.map .im)) ρ1) := rfl
@[simp] theorem mFnO_ev (f : Fn) (i : Nat) (ms : M (List D)) (ρ : Env) : mFnO f i ms ρ = (bnd (retO (ownA i ρ) ρ) fun _ ρ0 => bnd (ms ρ0) fun ds ρ1 => bnd (retO (ownA i ρ1) ρ1) fun t ρ2 => resO i (f (t :: ds.map .im)) ρ2) := rfl
@[simp] theorem mFlat_ev (m : M (List D)) (ρ : Env) : mFlat m ρ = (bnd (m ρ) fun ds ρ1 => ret (.lst (ds.map .im)) ρ1) := rfl
@[simp] theorem nSetT_ev (i : Nat) (m : M T) (ρ : Env) : nSetT i m ρ = (bndS (m ρ) fun t ρ1 => some (.nx, ρ1.set i (some t))) := rfl
@[simp] theorem nRetT_ev (m : M T) (ρ : Env) : nRetT m ρ = (bndS (m ρ) fun t ρ1 => some (.rt t, ρ1)) := rfl
@[simp] theorem mFnT_ev (f : Fn) (ms : M (List D)) (ρ : Env) : mFnT f ms ρ = (bnd (ms ρ) fun ds ρ1 => resT (f (ds.map .im)) ρ1) := rfl
@[simp] theorem mApp_ev (i : Nat) (m : M D) (ρ : Env) : mApp i m ρ = (bnd (retO (ownL ρ i) ρ) fun _ ρ0 => bnd (m ρ0) fun d ρ1 => bnd (retO (ownL ρ1 i) ρ1) fun ds ρ2 => if ds.length < 1000000 then ret .non (ρ2.set i (some (.lst ((ds ++ [d]).map .im)))) else none) := rfl
@[simp] theorem nPutIx_ev (i : Nat) (me mk : M D) (ρ : Env) : nPutIx i me mk ρ = (bndS (me ρ) fun d ρ1 => bndS (retO (ownL ρ1 i) ρ1) fun _ ρ1 => bndS (mk ρ1) fun k ρ2 => bndS (retO (ownL ρ2 i) ρ2) fun ds ρ3 => match k with
  | .int z => (match ixN ds.length z with
    | some j => some (.nx, ρ3.set i (some (.lst ((ds.set j d).map .im))))
    | none => none)
  | _ => none) := rfl
@[simp] theorem mFld_ev (k : Nat) (cs : List Nat) (m : M D) (ρ : Env) : mFld k cs m ρ = (bnd (m ρ) fun d ρ1 => retO (fldD k cs d) ρ1) := rfl
@[simp] theorem nFldSet_ev (k i : Nat) (cs : List Nat) (m : M D) (ρ : Env) : nFldSet k i cs m ρ = (bndS (m ρ) fun d ρ1 => match objAt ρ1 i with
  | some (c, fs) => if c ∈ cs ∧ fs.length < 900 then some (.nx, ρ1.set i (some (.obj c (putT k (.im d) fs)))) else none
  | none => none) := rfl
@[simp] theorem mMethO_ev (f : Fn) (i c0 : Nat) (m : Nat) (ms : M (List D)) (ρ : Env) : mMethO f i c0 m ms ρ = (bnd (retO (objAt ρ i) ρ) fun cf ρ0 => if cf.1 = c0 ∧ (cf.2.map (·.1)).all (fun j => decide (j < 45)) = true then mFnO f i ms ρ0 else none) := rfl
@[simp] theorem mMake_ev (c : Nat) (f : Fn) (ms : M (List D)) (ρ : Env) : mMake c f ms ρ = (bnd (ms ρ) fun ds ρ1 => resM c (f (.obj c [] :: ds.map .im)) ρ1) := rfl
@[simp] theorem mNo_ev (ρ : Env) : mNo  ρ = (ret none ρ) := rfl
@[simp] theorem mPart_ev (m : M D) (ρ : Env) : mPart m ρ = (bnd (m ρ) fun d ρ1 => retO (intD d) ρ1) := rfl
@[simp] theorem mCut_ev (ma : M D) (ml mh : M (Option Int)) (ρ : Env) : mCut ma ml mh ρ = (bnd (ma ρ) fun d ρ1 => bnd (ml ρ1) fun lo ρ2 => bnd (mh ρ2) fun hi ρ3 => retO (cutD lo hi d) ρ3) := rfl
@[simp] theorem mRevL_ev (ms : M (List D)) (ρ : Env) : mRevL ms ρ = (bnd (ms ρ) fun ds ρ1 => ret (.lst ds.reverse) ρ1) := rfl
@[simp] theorem mLRng_ev (m : M D) (ρ : Env) : mLRng m ρ = (bnd (m ρ) fun d ρ1 => match d with
  | .int j => if j ≤ 1000000 ∧ -1000000 ≤ j then ret (.lst (rngL 0 j.toNat)) ρ1 else none
  | _ => none) := rfl
@[simp] theorem mLenSet_ev (m : M D) (ρ : Env) : mLenSet m ρ = (bnd (m ρ) fun d ρ1 => retO (lenSetD d) ρ1) := rfl
@[simp] theorem mSortSet_ev (ms : M (List D)) (ρ : Env) : mSortSet ms ρ = (bnd (ms ρ) fun ds ρ1 => retO (sortedSetS ds) ρ1) := rfl
@[simp] theorem mSortSetD_ev (m : M D) (ρ : Env) : mSortSetD m ρ = (bnd (m ρ) fun d ρ1 => retO ((setSrcD d).bind sortedSetS) ρ1) := rfl
@[simp] theorem setSrcD_lst (ds : List D) : setSrcD (.lst ds) = some ds := rfl
@[simp] theorem setSrcD_tup (ds : List D) : setSrcD (.tup ds) = some ds := rfl
@[simp] theorem mEnum_ev (m : M D) (ρ : Env) : mEnum m ρ = (bnd (m ρ) fun d ρ1 => retO ((seqD d).map (enumL 0)) ρ1) := rfl
@[simp] theorem mZip_ev (ma mb : M D) (ρ : Env) : mZip ma mb ρ = (bnd (ma ρ) fun a ρ1 => bnd (mb ρ1) fun b ρ2 => retO (if lenOf a ≤ 1000000 then zipD a b else none) ρ2) := rfl
@[simp] theorem aV_ev (i : Nat) (ρ : Env) : aV i ρ = (match ρ[i]? with
  | some (some (.im d)) => some d
  | _ => none) := rfl
@[simp] theorem aBin_ev (f : Int → Int → Int) (a b : Env → Option D) (ρ : Env) : aBin f a b ρ = ((a ρ).bind fun x => (b ρ).bind fun y => match x, y with
  | .int i, .int j => some (.int (f i j))
  | _, _ => none) := rfl
@[simp] theorem mAt_ev (m : Env → Option D) (ρ : Env) : mAt m ρ = (retO (m ρ) ρ) := rfl
@[simp] theorem pN_ev (i : Nat) (ρ : Env) : pN i ρ = (match ρ[i]? with
  | some (some _) => some []
  | _ => none) := rfl
@[simp] theorem pIx_ev (i : Nat) (mp : Env → Option (List Nat)) (mk : Env → Option D) (ρ : Env) : pIx i mp mk ρ = ((mp ρ).bind fun π => (mk ρ).bind fun d => ixP π (tAt ρ i π) d) := rfl
@[simp] theorem pFld_ev (i k : Nat) (cs : List Nat) (mp : Env → Option (List Nat)) (ρ : Env) : pFld i k cs mp ρ = ((mp ρ).bind fun π => match tAt ρ i π with
  | some (.obj c fs) => if c ∈ cs then (idxF fs k).map fun j => π ++ [j] else none
  | _ => none) := rfl
@[simp] theorem aP_ev (i : Nat) (mp : Env → Option (List Nat)) (ρ : Env) : aP i mp ρ = ((mp ρ).bind fun π => match tAt ρ i π with
  | some (.im d) => some d
  | _ => none) := rfl
@[simp] theorem mRow_ev (i : Nat) (mp : Env → Option (List Nat)) (ρ : Env) : mRow i mp ρ = (retO ((mp ρ).bind fun π => match tAt ρ i π with
  | some (.lst ts) => imAll ts
  | _ => none) ρ) := rfl
@[simp] theorem nPutP_ev (i : Nat) (me : M D) (mp : Env → Option (List Nat)) (mk : Env → Option D) (ρ : Env) : nPutP i me mp mk ρ = (bndS (me ρ) fun d ρ1 => match mp ρ1, mk ρ1 with
  | some π, some (.int z) => (match tAt ρ1 i π with
    | some (.lst ts) => (match ixN ts.length z with
      | some j => some (.nx, tPut ρ1 i π (.lst (ts.set j (.im d))))
      | none => none)
    | _ => none)
  | _, _ => none) := rfl
@[simp] theorem frzA_ev (i : Nat) (n : N) (ρ : Env) : frzA i n ρ = (match ρ[i]? with
  | some (some t) => n (ρ.set i (some (.im (frzT t))))
  | _ => none) := rfl
@[simp] theorem mExt_ev (i : Nat) (m : M D) (ρ : Env) : mExt i m ρ = (bnd (retO (ownL ρ i) ρ) fun _ ρ0 => bnd (m ρ0) fun d ρ1 => bnd (retO (ownL ρ1 i) ρ1) fun ds ρ2 => match d with
  | .lst es => if ds.length + es.length ≤ 1000000 then ret .non (ρ2.set i (some (.lst ((ds ++ es).map .im)))) else none
  | _ => none) := rfl
@[simp] theorem mPopAt_ev (i : Nat) (m : M D) (ρ : Env) : mPopAt i m ρ = (bnd (retO (ownL ρ i) ρ) fun _ ρ0 => bnd (m ρ0) fun d ρ1 => bnd (retO (ownL ρ1 i) ρ1) fun ds ρ2 => match d with
  | .int z => (match (if ds.length ≤ 1000000 then ixN ds.length z else none) with
    | some j => bnd (retO ds[j]? ρ2) fun x ρ3 => ret x (ρ3.set i (some (.lst ((ds.eraseIdx j).map .im))))
    | none => none)
  | _ => none) := rfl
@[simp] theorem nRaise_ev (c : Nat) (ks : List Nat) (ms : M (List D)) (ρ : Env) : nRaise c ks ms ρ = bndS (ms ρ) fun ds ρ1 => if ds.length = ks.length then some (.exc c (ks.zip ds).reverse, ρ1) else none := rfl
@[simp] theorem resM_exc (c C : Nat) (fs : List (Nat × D)) (ts : List T) (ρ : Env) : resM c (some (.exc C fs, ts)) ρ = some (.exc C fs, ρ) := rfl
@[simp] theorem bnd_exc {α γ : Type} (C : Nat) (fs : List (Nat × D)) (ρ : Env) (f : α → Env → Option (Res γ × Env)) : bnd (some (Res.exc C fs, ρ)) f = some (.exc C fs, ρ) := rfl
@[simp] theorem bndS_exc {α : Type} (C : Nat) (fs : List (Nat × D)) (ρ : Env) (f : α → Env → Option (Flow × Env)) : bndS (some (Res.exc C fs, ρ)) f = some (.exc C fs, ρ) := rfl
@[simp] theorem endFn_exc (kp : List Nat) (ts : List T) (C : Nat) (fs : List (Nat × D)) (ρ : Env) : endFn kp ts (some (.exc C fs, ρ)) = (backL kp 0 ts ρ).map fun ts' => (.exc C fs, ts') := rfl
@[simp] theorem nTry_ev (i c : Nat) (cs : List Nat) (nb ns : N) (ρ : Env) : nTry i c cs nb ns ρ = (match nb ρ with
  | some (.exc C fs, ρ1) => if C ∈ cs then (if subB C c = true then (match ns (ρ1.set i (some (.im (.xo C fs)))) with
      | some (.nx, ρ2) => some (.nx, ρ2.set i none)
      | some (.bk, ρ2) => some (.bk, ρ2.set i none)
      | some (.ct, ρ2) => some (.ct, ρ2.set i none)
      | some (.rt t, ρ2) => some (.rt t, ρ2.set i none)
      | _ => none) else some (.exc C fs, ρ1)) else none
  | r => r) := rfl
@[simp] theorem mXf_ev (k : Nat) (cs : List Nat) (m : M D) (ρ : Env) : mXf k cs m ρ = bnd (m ρ) fun d ρ1 => retO (xfD k cs d) ρ1 := rfl
@[simp] theorem mIsVE_ev (cs : List Nat) (m : M D) (ρ : Env) : mIsVE cs m ρ = bnd (m ρ) fun d ρ1 => retO (isVD cs d) ρ1 := rfl
@[simp] theorem mNeg_ev (m : M D) (ρ : Env) : mNeg m ρ = bnd (m ρ) fun d ρ1 => retO (negD d) ρ1 := rfl
@[simp] theorem mDict1_ev (mk mv : M D) (ρ : Env) : mDict1 mk mv ρ = bnd (mk ρ) fun k ρ1 => bnd (mv ρ1) fun d ρ2 => retO ((keyD k).map fun z => .dk [(z, d)]) ρ2 := rfl
@[simp] theorem mRevT_ev (m : M D) (ρ : Env) : mRevT m ρ = bnd (m ρ) fun d ρ1 => retO (revTD d) ρ1 := rfl
@[simp] theorem mXmk_ev (c : Nat) (ks : List Nat) (ms : M (List D)) (ρ : Env) : mXmk c ks ms ρ = bnd (ms ρ) fun ds ρ1 => if ds.length = ks.length then ret (.xo c (ks.zip ds).reverse) ρ1 else none := rfl
@[simp] theorem mLM_ev (f : List D → D → Option D) (mo me : M D) (ρ : Env) : mLM f mo me ρ = bnd (mo ρ) fun o ρ1 => match o with
  | .lst ds => bnd (me ρ1) fun y ρ2 => retO (f ds y) ρ2
  | _ => none := rfl
theorem forL_cons (bd : D → Env → Option Env) (n : N) (d : D) (ds : List D) (ρ : Env) : forL bd n (d :: ds) ρ = (bd d ρ).bind fun ρ1 => match n ρ1 with
    | some (.nx, ρ2) => forL bd n ds ρ2
    | some (.ct, ρ2) => forL bd n ds ρ2
    | some (.bk, ρ2) => some (.nx, ρ2)
    | r => r := rfl
end MX

namespace MX
open PySem PySem.Spec PyProof.Rows L2
/-! ### data that is told apart by == -/
structure EncOk {α : Type} [DecidableEq α] (enc : α → D) (py : α → PyData) (k : Nat) : Prop where
  dat : ∀ a, pyD (enc a) = some (py a)
  can : ∀ a, (py a).canLay0 = true
  dep : ∀ a, (py a).depth ≤ k
  eqv : ∀ a b, PyData.eqv (py a) (py b) = decide (a = b)
theorem encI : EncOk D.int PyData.int 0 := ⟨fun a => by simp [pyD], fun a => by simp [PyData.canLay0], fun a => by simp [PyData.depth], fun a b => by
  simp only [PyData.eqv]
  by_cases h : a = b <;> simp [h]⟩
section
variable {α β : Type} [DecidableEq α] [DecidableEq β] {enc : α → D} {py : α → PyData} {k : Nat} {enc2 : β → D} {py2 : β → PyData}
theorem EncOk.all (h : EncOk enc py k) : ∀ l : List α, pyAll (l.map enc) = some (l.map py)
  | [] => by simp [pyAll]
  | a :: r => by simp [pyAll, h.dat, h.all r]
theorem EncOk.canAll (h : EncOk enc py k) : ∀ l : List α, PyData.canLayAll0 (l.map py) = true
  | [] => by simp [PyData.canLayAll0]
  | a :: r => by simp [PyData.canLayAll0, h.can, h.canAll r]
theorem EncOk.depAll (h : EncOk enc py k) : ∀ l : List α, PyData.depthAll (l.map py) ≤ k
  | [] => by simp [PyData.depthAll]
  | a :: r => by
    simp only [List.map_cons, PyData.depthAll]
    exact Nat.max_le.mpr ⟨h.dep a, h.depAll r⟩
theorem EncOk.eqAll (h : EncOk enc py k) : ∀ l m : List α, PyData.eqvAll (l.map py) (m.map py) = decide (l = m)
  | [], [] => by simp [PyData.eqvAll]
  | [], b :: s => by simp [PyData.eqvAll]
  | a :: r, [] => by simp [PyData.eqvAll]
  | a :: r, b :: s => by
    simp only [List.map_cons, PyData.eqvAll, h.eqv, h.eqAll r s, List.cons.injEq]
    by_cases e1 : a = b <;> by_cases e2 : r = s <;> simp [e1, e2]
theorem EncOk.tup (h : EncOk enc py k) : EncOk (fun l : List α => D.tup (l.map enc)) (fun l => .tuple (l.map py)) (k + 1) :=
  ⟨fun l => by simp [pyD, h.all], fun l => by simp [PyData.canLay0, h.canAll], fun l => by simp [PyData.depth, h.depAll], fun l m => by simp [PyData.eqv, h.eqAll]⟩
theorem EncOk.lst (h : EncOk enc py k) : EncOk (fun l : List α => D.lst (l.map enc)) (fun l => .list (l.map py)) (k + 1) :=
  ⟨fun l => by simp [pyD, h.all], fun l => by simp [PyData.canLay0, h.canAll], fun l => by simp [PyData.depth, h.depAll], fun l m => by simp [PyData.eqv, h.eqAll]⟩
theorem EncOk.pair (h : EncOk enc py k) (h2 : EncOk enc2 py2 k) : EncOk (fun p : α × β => D.tup [enc p.1, enc2 p.2]) (fun p => .tuple [py p.1, py2 p.2]) (k + 1) := by
  refine ⟨fun p => by simp [pyD, pyAll, h.dat, h2.dat], fun p => by simp [PyData.canLay0, PyData.canLayAll0, h.can, h2.can], fun p => ?_, fun p q => ?_⟩
  · simp only [PyData.depth, PyData.depthAll]
    have := h.dep p.1
    have := h2.dep p.2
    omega
  · simp only [PyData.eqv, PyData.eqvAll, h.eqv, h2.eqv]
    obtain ⟨p1, p2⟩ := p
    obtain ⟨q1, q2⟩ := q
    by_cases e1 : p1 = q1 <;> by_cases e2 : p2 = q2 <;> simp [e1, e2]
theorem EncOk.shaped (h : EncOk enc py k) (hk : k ≤ 64) (a : α) : SeqAt.shaped (py a) = true := by
  unfold SeqAt.shaped
  rw [h.can, Bool.true_and]
  exact decide_eq_true (Nat.le_trans (h.dep a) hk)
theorem EncOk.eqB (h : EncOk enc py k) (hk : k ≤ 64) (a b : α) : eqB (enc a) (enc b) = some (decide (a = b)) := by
  unfold MX.eqB
  simp [h.dat, h.shaped hk, h.eqv]
theorem EncOk.inB (h : EncOk enc py k) (hk : k + 1 ≤ 64) (a : α) (l : List α) : inB (enc a) (l.map enc) = some (decide (a ∈ l)) := by
  unfold MX.inB
  have h2 := h.lst.shaped hk l
  rw [h.dat, h.all]
  simp only [h.shaped (by omega) a, h2, Bool.and_self, if_true]
  congr 1
  induction l with
  | nil => simp
  | cons b r ih =>
    have h3 := ih (h.lst.shaped hk r)
    simp only [List.map_cons, List.any_cons, h3, h.eqv, List.mem_cons]
    by_cases e : b = a
    · simp [e]
    · have e' : ¬ a = b := fun z => e z.symm
      simp [e, e']
end
@[simp] theorem eqB_int (a b : Int) : eqB (.int a) (.int b) = some (decide (a = b)) := encI.eqB (by decide) a b
@[simp] theorem eqB_bl (a b : Bool) : eqB (.bl a) (.bl b) = some (decide (a = b)) := by cases a <;> cases b <;> rfl
theorem eqB_ints (a b : List Int) : eqB (.tup (a.map D.int)) (.tup (b.map D.int)) = some (decide (a = b)) := encI.tup.eqB (by decide) a b
theorem inB_int (a : Int) (l : List Int) : inB (.int a) (l.map D.int) = some (decide (a ∈ l)) := encI.inB (by decide) a l
theorem encP : EncOk prD (fun p : IP => .tuple [.int p.1, .int p.2]) 1 := encI.pair encI
/-! ### comprehensions that change nothing -/
theorem getE_wipe {ρ : Env} {i : Nat} : ∀ {vs : List Nat}, i ∈ vs → i < ρ.length → (wipeE ρ vs)[i]? = some none
  | v :: vs, h, hl => by
    rw [wipeE_cons]
    by_cases c : v = i
    · subst c
      rw [List.getElem?_set_self (by rw [wipeE_length]; exact hl)]
    · rw [List.getElem?_set_ne c]
      exact getE_wipe ((List.mem_cons.mp h).resolve_left fun z => c z.symm) hl
theorem restE_at {ρ1 : Env} {i : Nat} : ∀ {vs : List Nat} {ρ : Env}, i ∈ vs → i < ρ.length → (restE ρ1 vs ρ)[i]? = some (match ρ1[i]? with
    | some (some (.im d)) => some (.im d)
    | _ => none)
  | v :: vs, ρ, h, hl => by
    rw [restE_cons]
    by_cases c : v = i
    · subst c
      rw [List.getElem?_set_self (by rw [restE_length]; exact hl)]
      all_goals rfl
    · rw [List.getElem?_set_ne c]
      exact restE_at ((List.mem_cons.mp h).resolve_left fun z => c z.symm) hl
def cleanE (ρ : Env) (vs : List Nat) : Prop := ∀ v ∈ vs, ∀ t, ρ[v]? = some (some t) → ∃ d, t = .im d
theorem restE_back {ρ ρf : Env} {vs : List Nat} (hc : cleanE ρ vs) (h : wipeE ρf vs = wipeE ρ vs) : restE ρ vs ρf = ρ := by
  have hl : ρf.length = ρ.length := by rw [← wipeE_length ρf vs, h, wipeE_length]
  apply List.ext_getElem?
  intro i
  by_cases m : i ∈ vs
  · by_cases hi : i < ρ.length
    · rw [restE_at m (by omega), List.getElem?_eq_getElem hi]
      cases q : ρ[i] with
      | none => rfl
      | some t =>
        obtain ⟨d, rfl⟩ := hc i m t (by rw [List.getElem?_eq_getElem hi, q])
        rfl
    · rw [List.getElem?_eq_none (by rw [restE_length]; omega), List.getElem?_eq_none (by omega)]
  · rw [restE_out m, ← wipeE_out (ρ := ρf) m, h, wipeE_out m]
theorem lcM_ev {α : Type} (enc : α → D) (c : α → Bool) (g : α → D) {vs : List Nat} {bd : D → Env → Option Env} {mt : M Bool} {me : M D} {ρ : Env} : ∀ {l : List α} {ρ0 : Env}, wipeE ρ0 vs = wipeE ρ vs →
    (∀ a ∈ l, ∃ ρ', bd (enc a) (wipeE ρ vs) = some ρ' ∧ mt ρ' = some (.ok (c a), ρ') ∧ (c a = true → me ρ' = some (.ok (g a), ρ')) ∧ wipeE ρ' vs = wipeE ρ vs) →
    ∃ ρf, lcM vs bd mt me (l.map enc) ρ0 = some ((l.filter c).map g, ρf) ∧ wipeE ρf vs = wipeE ρ vs
  | [], ρ0, hw, _ => ⟨ρ0, rfl, hw⟩
  | a :: r, ρ0, hw, h => by
    obtain ⟨ρ', h1, h2, h3, h4⟩ := h a List.mem_cons_self
    obtain ⟨ρf, k1, k2⟩ := lcM_ev enc c g (l := r) (ρ0 := ρ') h4 fun b hb => h b (List.mem_cons_of_mem _ hb)
    refine ⟨ρf, ?_, k2⟩
    show (bd (enc a) (wipeE ρ0 vs)).bind (fun ρ1 => (okO (mt ρ1)).bind fun b => if b.1 = true then (okO (me b.2)).bind fun y => (lcM vs bd mt me (r.map enc) y.2).map fun r => (y.1 :: r.1, r.2) else lcM vs bd mt me (r.map enc) b.2) = _
    rw [hw, h1]
    show (okO (mt ρ')).bind (fun b => if b.1 = true then (okO (me b.2)).bind fun y => (lcM vs bd mt me (r.map enc) y.2).map fun r => (y.1 :: r.1, r.2) else lcM vs bd mt me (r.map enc) b.2) = _
    rw [h2]
    show (if c a = true then (okO (me ρ')).bind fun y => (lcM vs bd mt me (r.map enc) y.2).map fun r => (y.1 :: r.1, r.2) else lcM vs bd mt me (r.map enc) ρ') = _
    by_cases q : c a = true
    · rw [if_pos q, h3 q]
      show (lcM vs bd mt me (r.map enc) ρ').map (fun r => (g a :: r.1, r.2)) = _
      rw [k1, List.filter_cons_of_pos q]; rfl
    · rw [if_neg q, k1, List.filter_cons_of_neg q]
theorem lc_ev {α : Type} (enc : α → D) (c : α → Bool) (g : α → D) {ms : M (List D)} {vs : List Nat} {bd : D → Env → Option Env} {mt : M Bool} {me : M D} {ρ : Env} {l : List α} (h0 : ms ρ = some (.ok (l.map enc), ρ)) (hc : cleanE ρ vs)
    (h : ∀ a ∈ l, ∃ ρ', bd (enc a) (wipeE ρ vs) = some ρ' ∧ mt ρ' = some (.ok (c a), ρ') ∧ (c a = true → me ρ' = some (.ok (g a), ρ')) ∧ wipeE ρ' vs = wipeE ρ vs) :
    mLcN ms vs bd mt me ρ = some (.ok ((l.filter c).map g), ρ) := by
  obtain ⟨ρf, k1, k2⟩ := lcM_ev enc c g (ρ := ρ) (ρ0 := ρ) rfl h
  show bnd (ms ρ) (fun ds ρ1 => match lcM vs bd mt me ds ρ1 with
    | some r => ret r.1 (restE ρ1 vs r.2)
    | none => none) = _
  rw [h0]
  show (match lcM vs bd mt me (l.map enc) ρ with
    | some r => (ret r.1 (restE ρ vs r.2) : Option (Res (List D) × Env))
    | none => none) = _
  rw [k1]
  show some (Res.ok ((l.filter c).map g), restE ρ vs ρf) = _
  rw [restE_back hc k2]
/-- .. with no test -/
theorem lc_map {α : Type} (enc : α → D) (g : α → D) {ms : M (List D)} {vs : List Nat} {bd : D → Env → Option Env} {me : M D} {ρ : Env} {l : List α} (h0 : ms ρ = some (.ok (l.map enc), ρ)) (hc : cleanE ρ vs)
    (h : ∀ a ∈ l, ∃ ρ', bd (enc a) (wipeE ρ vs) = some ρ' ∧ me ρ' = some (.ok (g a), ρ') ∧ wipeE ρ' vs = wipeE ρ vs) :
    mLcN ms vs bd mYes me ρ = some (.ok (l.map g), ρ) := by
  have z := lc_ev enc (fun _ => true) g (mt := mYes) h0 hc fun a ha => by
    obtain ⟨ρ', h1, h2, h3⟩ := h a ha
    exact ⟨ρ', h1, rfl, fun _ => h2, h3⟩
  rw [z, List.filter_eq_self.mpr (fun _ _ => rfl)]
/-! ### loops -/
theorem forL_inv {α : Type} (enc : α → D) {bd : D → Env → Option Env} {n : N} (I : Nat → Env → Prop) : ∀ {l : List α} {ρ : Env} (k : Nat), I k ρ →
    (∀ j a ρ, l[j]? = some a → I (k + j) ρ → ∃ ρ1 ρ2, bd (enc a) ρ = some ρ1 ∧ (n ρ1 = some (.nx, ρ2) ∨ n ρ1 = some (.ct, ρ2)) ∧ I (k + j + 1) ρ2) → ∃ ρ', forL bd n (l.map enc) ρ = some (.nx, ρ') ∧ I (k + l.length) ρ'
  | [], ρ, k, h0, _ => ⟨ρ, rfl, h0⟩
  | a :: r, ρ, k, h0, hs => by
    obtain ⟨ρ1, ρ2, h1, h2, h3⟩ := hs 0 a ρ rfl h0
    obtain ⟨ρ', k1, k2⟩ := forL_inv enc I (l := r) (k + 1) h3 fun j b ρ hb hI => by
      have := hs (j + 1) b ρ (by simpa using hb) (by rw [show k + (j + 1) = k + 1 + j by omega]; exact hI)
      rw [show k + (j + 1) = k + 1 + j by omega] at this
      exact this
    refine ⟨ρ', ?_, by rw [List.length_cons, show k + (r.length + 1) = k + 1 + r.length by omega]; exact k2⟩
    show (bd (enc a) ρ).bind (fun ρ1 => match n ρ1 with
      | some (.nx, ρ2) => forL bd n (r.map enc) ρ2
      | some (.ct, ρ2) => forL bd n (r.map enc) ρ2
      | some (.bk, ρ2) => some (.nx, ρ2)
      | r => r) = _
    rw [h1]
    show (match n ρ1 with
      | some (.nx, ρ2) => forL bd n (r.map enc) ρ2
      | some (.ct, ρ2) => forL bd n (r.map enc) ρ2
      | some (.bk, ρ2) => some (.nx, ρ2)
      | r => r) = _
    rcases h2 with h2 | h2 <;> rw [h2] <;> exact k1
/-! ### ranges, items -/
theorem rng_nat (n : Nat) : rngL 0 n = (List.range n).map fun k => .int (k : Int) := by
  unfold rngL
  simp
theorem rngC_nat {n : Nat} (h : n ≤ 1000000) : rngC [.int (n : Int)] = some ((List.range n).map fun k => .int (k : Int)) := by
  show (if (n : Int) ≤ 1000000 ∧ -1000000 ≤ (n : Int) then some (rngL 0 (n : Int).toNat) else none) = _
  rw [if_pos (by omega), Int.toNat_natCast, rng_nat]
theorem atI_nat {α : Type} (xs : List α) (k : Nat) (h : k < xs.length) : atI xs (k : Int) = some xs[k] := by
  unfold atI ixN
  rw [if_pos (by omega), if_pos (by omega)]
  show xs[(k : Int).toNat]? = _
  rw [Int.toNat_natCast, List.getElem?_eq_getElem h]
theorem sq_nx {n n' : N} {ρ ρ1 : Env} (h : n ρ = some (.nx, ρ1)) : sq n n' ρ = n' ρ1 := by
  show (match n ρ with
    | some (.nx, ρ1) => n' ρ1
    | r => r) = _
  rw [h]
theorem sq_rt {n n' : N} {ρ ρ1 : Env} {t : T} (h : n ρ = some (.rt t, ρ1)) : sq n n' ρ = some (.rt t, ρ1) := by
  show (match n ρ with
    | some (.nx, ρ1) => n' ρ1
    | r => r) = _
  rw [h]
end MX

namespace K00
open MX PySem PySem.Spec PyProof.Rows L2
theorem u64 {k : Nat} {A : Around} (h : Room k A) : A.units + 64 < cLine := h.units
theorem u65 {k : Nat} {A : Around} (h : Room k A) : A.units + 65 < cLine := by have := h.un; omega
abbrev prog : Program := PySem.Challenge.pw_growalong_k00_errors_of_the_package
def top (i : Nat) : Stmt := PySem.Challenge.pw_growalong_k00_errors_of_the_package.main.body.getD i (.Pass ⟨0, 0, 0, 0⟩)
abbrev s_Web___eq__ : Stmt := inClass (top 38) 2
abbrev s_BadStep___init__ : Stmt := inClass (top 6) 0
abbrev s_TooMany___init__ : Stmt := inClass (top 10) 0
abbrev s_NoName___init__ : Stmt := inClass (top 9) 0
abbrev s_BadWeb___init__ : Stmt := inClass (top 2) 0
abbrev s__law_raise : Stmt := top 45
abbrev s__law_caught : Stmt := top 46
abbrev s__law_of : Stmt := top 44
abbrev s_BadProgram___init__ : Stmt := inClass (top 5) 0
abbrev s_BadRecord___init__ : Stmt := inClass (top 3) 0
abbrev s_BadText___init__ : Stmt := inClass (top 8) 0
abbrev s_BadChoice___init__ : Stmt := inClass (top 7) 0
abbrev s_BadHall___init__ : Stmt := inClass (top 4) 0
abbrev s__law_all : Stmt := top 43
abbrev s__law_draw : Stmt := top 41
abbrev s__law_deep : Stmt := top 42
abbrev s_Web_keep : Stmt := inClass (top 38) 1
abbrev s_is_integer : Stmt := top 32
abbrev s_is_within : Stmt := top 33
abbrev s_is_pair : Stmt := top 34
abbrev s_is_wire_pair : Stmt := top 37
abbrev s_Web___init__ : Stmt := inClass (top 38) 0
abbrev s__law_hand : Stmt := top 40
abbrev s_law : Stmt := top 47
def d__law_raise : He.DefD := ⟨("_law_raise", none), "_law_raise", "_law_raise", defArgs s__law_raise, defBody s__law_raise, defScope s__law_raise, [], []⟩
def d__law_caught : He.DefD := ⟨("_law_caught", none), "_law_caught", "_law_caught", defArgs s__law_caught, defBody s__law_caught, defScope s__law_caught, [], []⟩
def d__law_of : He.DefD := ⟨("_law_of", none), "_law_of", "_law_of", defArgs s__law_of, defBody s__law_of, defScope s__law_of, [], []⟩
def d__law_all : He.DefD := ⟨("_law_all", none), "_law_all", "_law_all", defArgs s__law_all, defBody s__law_all, defScope s__law_all, [], []⟩
def d__law_draw : He.DefD := ⟨("_law_draw", none), "_law_draw", "_law_draw", defArgs s__law_draw, defBody s__law_draw, defScope s__law_draw, [], []⟩
def d__law_deep : He.DefD := ⟨("_law_deep", none), "_law_deep", "_law_deep", defArgs s__law_deep, defBody s__law_deep, defScope s__law_deep, [], []⟩
def d_is_integer : He.DefD := ⟨("is_integer", none), "is_integer", "is_integer", defArgs s_is_integer, defBody s_is_integer, defScope s_is_integer, [], []⟩
def d_is_within : He.DefD := ⟨("is_within", none), "is_within", "is_within", defArgs s_is_within, defBody s_is_within, defScope s_is_within, [], []⟩
def d_is_pair : He.DefD := ⟨("is_pair", none), "is_pair", "is_pair", defArgs s_is_pair, defBody s_is_pair, defScope s_is_pair, [], []⟩
def d_is_wire_pair : He.DefD := ⟨("is_wire_pair", none), "is_wire_pair", "is_wire_pair", defArgs s_is_wire_pair, defBody s_is_wire_pair, defScope s_is_wire_pair, [], []⟩
def d__law_hand : He.DefD := ⟨("_law_hand", none), "_law_hand", "_law_hand", defArgs s__law_hand, defBody s__law_hand, defScope s__law_hand, [], []⟩
def d_law : He.DefD := ⟨("law", none), "law", "law", defArgs s_law, defBody s_law, defScope s_law, [], []⟩
def d_Web___eq__ : He.DefD := ⟨("Web", some "__eq__"), "__eq__", "Web.__eq__", defArgs s_Web___eq__, defBody s_Web___eq__, defScope s_Web___eq__, [], []⟩
def d_Web___init__ : He.DefD := ⟨("Web", some "__init__"), "__init__", "Web.__init__", defArgs s_Web___init__, defBody s_Web___init__, defScope s_Web___init__, [], []⟩
def d_BadStep___init__ : He.DefD := ⟨("BadStep", some "__init__"), "__init__", "BadStep.__init__", defArgs s_BadStep___init__, defBody s_BadStep___init__, defScope s_BadStep___init__, [], []⟩
def d_TooMany___init__ : He.DefD := ⟨("TooMany", some "__init__"), "__init__", "TooMany.__init__", defArgs s_TooMany___init__, defBody s_TooMany___init__, defScope s_TooMany___init__, [], []⟩
def d_NoName___init__ : He.DefD := ⟨("NoName", some "__init__"), "__init__", "NoName.__init__", defArgs s_NoName___init__, defBody s_NoName___init__, defScope s_NoName___init__, [], []⟩
def d_BadWeb___init__ : He.DefD := ⟨("BadWeb", some "__init__"), "__init__", "BadWeb.__init__", defArgs s_BadWeb___init__, defBody s_BadWeb___init__, defScope s_BadWeb___init__, [], []⟩
def d_BadProgram___init__ : He.DefD := ⟨("BadProgram", some "__init__"), "__init__", "BadProgram.__init__", defArgs s_BadProgram___init__, defBody s_BadProgram___init__, defScope s_BadProgram___init__, [], []⟩
def d_BadRecord___init__ : He.DefD := ⟨("BadRecord", some "__init__"), "__init__", "BadRecord.__init__", defArgs s_BadRecord___init__, defBody s_BadRecord___init__, defScope s_BadRecord___init__, [], []⟩
def d_BadText___init__ : He.DefD := ⟨("BadText", some "__init__"), "__init__", "BadText.__init__", defArgs s_BadText___init__, defBody s_BadText___init__, defScope s_BadText___init__, [], []⟩
def d_BadChoice___init__ : He.DefD := ⟨("BadChoice", some "__init__"), "__init__", "BadChoice.__init__", defArgs s_BadChoice___init__, defBody s_BadChoice___init__, defScope s_BadChoice___init__, [], []⟩
def d_BadHall___init__ : He.DefD := ⟨("BadHall", some "__init__"), "__init__", "BadHall.__init__", defArgs s_BadHall___init__, defBody s_BadHall___init__, defScope s_BadHall___init__, [], []⟩
def d_Web_keep : He.DefD := ⟨("Web", some "keep"), "keep", "Web.keep", defArgs s_Web_keep, defBody s_Web_keep, defScope s_Web_keep, [], []⟩
def FN : List He.DefD := [d__law_raise, d__law_caught, d__law_of, d__law_all, d__law_draw, d__law_deep, d_is_integer, d_is_within, d_is_pair, d_is_wire_pair, d__law_hand, d_law, d_Web___eq__, d_Web___init__, d_BadStep___init__, d_TooMany___init__, d_NoName___init__, d_BadWeb___init__, d_BadProgram___init__, d_BadRecord___init__, d_BadText___init__, d_BadChoice___init__, d_BadHall___init__, d_Web_keep]
def FA : List He.Fa := [.free "range", .meth "Web" "__eq__", .free "all", .free "isinstance", .free "bool", .glo "_law_caught", .keep "_law_caught", .free "enumerate", .free "ValueError", .glo "GrowError", .glo "_law_of", .keep "_law_of", .glo "_law_all", .keep "_law_all", .glo "_law_draw", .keep "_law_draw", .glo "_law_deep", .keep "_law_deep", .mkr "Web", .glo "Web", .glo "_law_hand", .keep "_law_hand", .cls "Web", .noat "Web" "wires", .noat "Web" "machines", .glo "BadStep", .glo "NothingDone", .glo "NoPut", .glo "TooMany", .glo "NoName", .glo "BadWeb", .glo "_law_raise", .keep "_law_raise", .meth "BadStep" "__init__", .exc "NothingDone", .exc "NoPut", .meth "TooMany" "__init__", .meth "NoName" "__init__", .meth "BadWeb" "__init__", .glo "NoLine", .glo "IsUp", .glo "IsDown", .glo "NoRow", .glo "NoStep", .glo "NoPlaces", .glo "NoSights", .glo "NotWhole", .glo "NoWeb", .glo "NoDays", .glo "NotMade", .glo "OtherMachines", .glo "NoWriters", .glo "NoMachine", .glo "NoWire", .glo "NoOrder", .glo "NoPairs", .glo "NoNumber", .glo "BadProgram", .glo "BadRecord", .glo "BadText", .glo "BadChoice", .glo "BadHall", .exc "NoLine", .exc "IsUp", .exc "IsDown", .exc "NoRow", .exc "NoStep", .exc "NoPlaces", .exc "NoSights", .exc "NotWhole", .exc "NoWeb", .exc "NoDays", .exc "NotMade", .exc "OtherMachines", .exc "NoWriters", .exc "NoMachine", .exc "NoWire", .exc "NoOrder", .exc "NoPairs", .exc "NoNumber", .meth "BadProgram" "__init__", .meth "BadRecord" "__init__", .meth "BadText" "__init__", .meth "BadChoice" "__init__", .meth "BadHall" "__init__", .free "int", .free "len", .meth "Web" "keep", .glo "is_wire_pair", .keep "is_wire_pair", .free "tuple", .int "MOST_MACHINES" 7, .glo "is_within", .keep "is_within", .glo "is_pair", .keep "is_pair", .glo "is_integer", .keep "is_integer", .free "abs", .glo "law"]
abbrev KC : List Nat := [0]
abbrev KX : List Nat := [16, 17, 18, 19, 20, 21, 22, 23, 24, 25, 26, 27, 28, 29, 30, 31, 32, 33, 34, 35, 36, 37, 38, 39, 40, 41, 42, 43, 44, 45]
abbrev KO : List Nat := [21, 25, 24, 17, 20, 18, 23, 22, 19]
abbrev KE : List (List Nat) := [[0]]
structure Tx (K : Frg) (mg : Str → Option Value) : Prop where
  glo : ∀ (i : Nat) {x : Str} (h : FA[i]? = some (.glo x) := by rfl), mg x = some (.ref (He.ga K x))
  free : ∀ (i : Nat) {x : Str} (h : FA[i]? = some (.free x) := by rfl), mg x = none
  int : ∀ (i : Nat) {x : Str} {z : Int} (h : FA[i]? = some (.int x z) := by rfl), ∃ t, mg x = some (.int z t)
  cls : ∀ (i : Nat) {x : Str} (h : FA[i]? = some (.cls x) := by rfl), Cls K (He.ga K x)
  noat : ∀ (i : Nat) {x f : Str} (h : FA[i]? = some (.noat x f) := by rfl), NoAttr K (He.ga K x) f
  meth : ∀ (i : Nat) {x m : Str} (h : FA[i]? = some (.meth x m) := by rfl), Meth K (He.ga K x) m (He.ma K (He.ga K x) m)
  mkr : ∀ (i : Nat) {x : Str} (h : FA[i]? = some (.mkr x) := by rfl), Mk K (He.ga K x) (He.ma K (He.ga K x) "__init__")
  keep : ∀ (i : Nat) {x : Str} (h : FA[i]? = some (.keep x) := by rfl), PySem.W.keepIn K (.ref (He.ga K x)) = true
  exc : ∀ (i : Nat) {x : Str} (h : FA[i]? = some (.exc x) := by rfl), PySem.W.excIn K (He.ga K x) He.veBase "ValueError.__new__" = true ∧ PySem.W.keepIn K (.ref (He.ga K x)) = true ∧ PySem.W.subIn K (.ref (He.ga K x)) (.type "BaseException") = some true ∧ PySem.W.typeIn K (.ref (He.ga K x)) = some (.type "type")
  xc : XcK K KX
  oex : ∀ (i : Nat) {c : Nat} (h : KO[i]? = some c := by rfl), OexC K (cadr K c)
  dfn : ∀ (i : Nat) {d : He.DefD} (h : FN[i]? = some d), ∃ fd, FunD K d.name d.qual d.params d.body d.scope (d.dvs K) (d.kws K) (He.fAd K d.at_) fd
  kit : KitC K KC
  kie : ∀ (i : Nat) {cs : List Nat} (h : KE[i]? = some cs := by rfl), KitE K cs
noncomputable def Tx.fd {K : Frg} {mg : Str → Option Value} (T : Tx K mg) (i : Nat) {d : He.DefD} (h : FN[i]? = some d) : FuncData := (T.dfn i h).choose
theorem Tx.fun {K : Frg} {mg : Str → Option Value} (T : Tx K mg) (i : Nat) {d : He.DefD} (h : FN[i]? = some d) : FunD K d.name d.qual d.params d.body d.scope (d.dvs K) (d.kws K) (He.fAd K d.at_) (T.fd i h) := (T.dfn i h).choose_spec
theorem bt_ValueError : bootBuiltins "ValueError" = some (.type "ValueError") := by decide +kernel
theorem bt_abs : bootBuiltins "abs" = some (.builtin "abs") := by decide +kernel
theorem bt_all : bootBuiltins "all" = some (.builtin "all") := by decide +kernel
theorem bt_bool : bootBuiltins "bool" = some (.type "bool") := by decide +kernel
theorem bt_int : bootBuiltins "int" = some (.type "int") := by decide +kernel
theorem bt_isinstance : bootBuiltins "isinstance" = some (.builtin "isinstance") := by decide +kernel
theorem bt_len : bootBuiltins "len" = some (.builtin "len") := by decide +kernel
theorem bt_tuple : bootBuiltins "tuple" = some (.type "tuple") := by decide +kernel
section
variable {P : Program} {w : World} {K : Frg} {mg : Str → Option Value} {base : Heap}
/-! Web.__eq__ -/
theorem sc_Web___eq__ : FnScope ["self", "other"] ["self", "other"] (defScope s_Web___eq__) := ⟨rfl, rfl, rfl, by decide +kernel, rfl, by decide +kernel, by decide +kernel⟩
theorem bn_Web___eq__ {f : Addr} {fd : FuncData} (F : FunD K "__eq__" "Web.__eq__" (defArgs s_Web___eq__) (defBody s_Web___eq__) (defScope s_Web___eq__) [] [] f fd) : Binds K fd ["self", "other"] [] := F.bindsN fun _ _ _ _ _ _ us hl => match us, hl with | [_, _], _ => rfl
def n_Web___eq__ : N := (nRet (mAndV (mCall (isiC KC) (mCons (mV 1) (mCons (mC (.cls 0)) mNil))) (mAndV (mBin eqD (mFld 0 [0] (mV 0)) (mFld 0 [0] (mV 1))) (mBin eqD (mFld 1 [0] (mV 0)) (mFld 1 [0] (mV 1))))))
def f_Web___eq__ : Fn := runFn 2 [] n_Web___eq__
theorem ok_Web___eq__ (T : Tx K mg) {f : Addr} {fd : FuncData} (F : FunD K "__eq__" "Web.__eq__" (defArgs s_Web___eq__) (defBody s_Web___eq__) (defScope s_Web___eq__) [] [] f fd) : FnOk P w K mg base (L2.CX P w) 1 f fd ["self", "other"] (spM K 2 f_Web___eq__) :=
  fn_ok F sc_Web___eq__ fun cdv A outer s H E hr W tk => ⟨_, (Sms.one (Sm.ret (Ex.and (Ex.callB call_isi (cd_isi (cs := KC) T.kit) (T.free 3) bt_isinstance (As.cons (Ex.var 1) (As.cons (Ex.clsG (c := 0) (T.glo 19)) As.nil))) (Ex.and (Ex.cmp (op_eqD (u64 hr)) od_eq (Ex.fld 0 [0] (Ex.var 0) (by simp only [List.forall_mem_cons, List.not_mem_nil, false_implies, implies_true, and_true]; exact ⟨T.cls 22, T.noat 24⟩)) (Ex.fld 0 [0] (Ex.var 1) (by simp only [List.forall_mem_cons, List.not_mem_nil, false_implies, implies_true, and_true]; exact ⟨T.cls 22, T.noat 24⟩))) (Ex.one (Ex.cmp (op_eqD (u64 hr)) od_eq (Ex.fld 1 [0] (Ex.var 0) (by simp only [List.forall_mem_cons, List.not_mem_nil, false_implies, implies_true, and_true]; exact ⟨T.cls 22, T.noat 23⟩)) (Ex.fld 1 [0] (Ex.var 1) (by simp only [List.forall_mem_cons, List.not_mem_nil, false_implies, implies_true, and_true]; exact ⟨T.cls 22, T.noat 23⟩))))))))⟩
theorem okAt_Web___eq__ (T : Tx K mg) : FnOk P w K mg base (L2.CX P w) 1 (He.fAd K ("Web", some "__eq__")) (T.fd 12 rfl) ["self", "other"] (spM K 2 f_Web___eq__) := ok_Web___eq__ T (T.fun 12 rfl)
theorem bd_Web___eq__ (T : Tx K mg) : Binds K (T.fd 12 rfl) ["self", "other"] [] := bn_Web___eq__ (T.fun 12 rfl)
/-! BadStep.__init__ -/
theorem sc_BadStep___init__ : FnScope ["self", "index"] ["self", "index"] (defScope s_BadStep___init__) := ⟨rfl, rfl, rfl, by decide +kernel, rfl, by decide +kernel, by decide +kernel⟩
theorem noX_BadStep (T : Tx K mg) (k : Nat) (h : k < 45 := by decide) : PySem.W.findIn K (.ref (cadr K 21)) (fname k) = some none := T.xc.fl 21 (by decide) k h
theorem okX_BadStep (T : Tx K mg) : FnOk P w K mg base (L2.CX P w) 1 (He.fAd K ("BadStep", some "__init__")) (T.fd 14 rfl) ["self", "index"] (spXi (cadr K 21) ([10].map fname)) :=
  xinit1 (T.oex 0) (T.fun 14 rfl) sc_BadStep___init__ (noX_BadStep T 10) fun cdv A outer s H E => (pss_one (ps_ost (Ex.var (W := WF) 0).pe (Ex.var (W := WF) 1).pe))
theorem bdX_BadStep (T : Tx K mg) : Binds K (T.fd 14 rfl) ["self", "index"] [] := (T.fun 14 rfl).bindsN fun _ _ _ _ _ _ us hl => match us, hl with | [_, _], _ => rfl
/-! TooMany.__init__ -/
theorem sc_TooMany___init__ : FnScope ["self", "most"] ["self", "most"] (defScope s_TooMany___init__) := ⟨rfl, rfl, rfl, by decide +kernel, rfl, by decide +kernel, by decide +kernel⟩
theorem noX_TooMany (T : Tx K mg) (k : Nat) (h : k < 45 := by decide) : PySem.W.findIn K (.ref (cadr K 25)) (fname k) = some none := T.xc.fl 25 (by decide) k h
theorem okX_TooMany (T : Tx K mg) : FnOk P w K mg base (L2.CX P w) 1 (He.fAd K ("TooMany", some "__init__")) (T.fd 15 rfl) ["self", "most"] (spXi (cadr K 25) ([14].map fname)) :=
  xinit1 (T.oex 1) (T.fun 15 rfl) sc_TooMany___init__ (noX_TooMany T 14) fun cdv A outer s H E => (pss_one (ps_ost (Ex.var (W := WF) 0).pe (Ex.var (W := WF) 1).pe))
theorem bdX_TooMany (T : Tx K mg) : Binds K (T.fd 15 rfl) ["self", "most"] [] := (T.fun 15 rfl).bindsN fun _ _ _ _ _ _ us hl => match us, hl with | [_, _], _ => rfl
/-! NoName.__init__ -/
theorem sc_NoName___init__ : FnScope ["self", "name"] ["self", "name"] (defScope s_NoName___init__) := ⟨rfl, rfl, rfl, by decide +kernel, rfl, by decide +kernel, by decide +kernel⟩
theorem noX_NoName (T : Tx K mg) (k : Nat) (h : k < 45 := by decide) : PySem.W.findIn K (.ref (cadr K 24)) (fname k) = some none := T.xc.fl 24 (by decide) k h
theorem okX_NoName (T : Tx K mg) : FnOk P w K mg base (L2.CX P w) 1 (He.fAd K ("NoName", some "__init__")) (T.fd 16 rfl) ["self", "name"] (spXi (cadr K 24) ([13].map fname)) :=
  xinit1 (T.oex 2) (T.fun 16 rfl) sc_NoName___init__ (noX_NoName T 13) fun cdv A outer s H E => (pss_one (ps_ost (Ex.var (W := WF) 0).pe (Ex.var (W := WF) 1).pe))
theorem bdX_NoName (T : Tx K mg) : Binds K (T.fd 16 rfl) ["self", "name"] [] := (T.fun 16 rfl).bindsN fun _ _ _ _ _ _ us hl => match us, hl with | [_, _], _ => rfl
/-! BadWeb.__init__ -/
theorem sc_BadWeb___init__ : FnScope ["self", "part"] ["self", "part"] (defScope s_BadWeb___init__) := ⟨rfl, rfl, rfl, by decide +kernel, rfl, by decide +kernel, by decide +kernel⟩
theorem noX_BadWeb (T : Tx K mg) (k : Nat) (h : k < 45 := by decide) : PySem.W.findIn K (.ref (cadr K 17)) (fname k) = some none := T.xc.fl 17 (by decide) k h
theorem okX_BadWeb (T : Tx K mg) : FnOk P w K mg base (L2.CX P w) 1 (He.fAd K ("BadWeb", some "__init__")) (T.fd 17 rfl) ["self", "part"] (spXi (cadr K 17) ([8].map fname)) :=
  xinit1 (T.oex 3) (T.fun 17 rfl) sc_BadWeb___init__ (noX_BadWeb T 8) fun cdv A outer s H E => (pss_one (ps_ost (Ex.var (W := WF) 0).pe (Ex.var (W := WF) 1).pe))
theorem bdX_BadWeb (T : Tx K mg) : Binds K (T.fd 17 rfl) ["self", "part"] [] := (T.fun 17 rfl).bindsN fun _ _ _ _ _ _ us hl => match us, hl with | [_, _], _ => rfl
/-! _law_raise -/
theorem sc__law_raise : FnScope ["_law_which", "_law_thing"] ["_law_which", "_law_thing"] (defScope s__law_raise) := ⟨rfl, rfl, rfl, by decide +kernel, rfl, by decide +kernel, by decide +kernel⟩
theorem bn__law_raise {f : Addr} {fd : FuncData} (F : FunD K "_law_raise" "_law_raise" (defArgs s__law_raise) (defBody s__law_raise) (defScope s__law_raise) [] [] f fd) : Binds K fd ["_law_which", "_law_thing"] [] := F.bindsN fun _ _ _ _ _ _ us hl => match us, hl with | [_, _], _ => rfl
def n__law_raise : N := (sq (nIf (mB (mBin eqD (mV 0) (mC (.int 0)))) (nRaise 17 [8] (mCons (mV 1) mNil)) nNx) (sq (nIf (mB (mBin eqD (mV 0) (mC (.int 1)))) (nRaise 24 [13] (mCons (mV 1) mNil)) nNx) (sq (nIf (mB (mBin eqD (mV 0) (mC (.int 2)))) (nRaise 25 [14] (mCons (mV 1) mNil)) nNx) (sq (nIf (mB (mBin eqD (mV 0) (mC (.int 3)))) (fun ρ => some (.exc 31 [], ρ)) nNx) (sq (nIf (mB (mBin eqD (mV 0) (mC (.int 4)))) (fun ρ => some (.exc 44 [], ρ)) nNx) (nRaise 21 [10] (mCons (mV 1) mNil)))))))
def f__law_raise : Fn := runFn 2 [] n__law_raise
theorem ok__law_raise (T : Tx K mg) {f : Addr} {fd : FuncData} (F : FunD K "_law_raise" "_law_raise" (defArgs s__law_raise) (defBody s__law_raise) (defScope s__law_raise) [] [] f fd) : FnOk P w K mg base (L2.CX P w) 3 f fd ["_law_which", "_law_thing"] (spM K 2 f__law_raise) :=
  fn_ok F sc__law_raise fun cdv A outer s H E hr W tk => ⟨_, (Sms.cons (Sm.if_ (Te.cmp (op_eqD (u64 hr)) od_eq (Ex.var 0) Ex.int) (Sms.one (Sm.raise 17 [8] (T.oex 3) (T.meth 38) (okX_BadWeb T) tk (hr.mono (by decide)) (T.glo 30) (bdX_BadWeb T) (As.cons (Ex.var 1) As.nil))) Sms.nil) (Sms.cons (Sm.if_ (Te.cmp (op_eqD (u64 hr)) od_eq (Ex.var 0) Ex.int) (Sms.one (Sm.raise 24 [13] (T.oex 2) (T.meth 37) (okX_NoName T) tk (hr.mono (by decide)) (T.glo 29) (bdX_NoName T) (As.cons (Ex.var 1) As.nil))) Sms.nil) (Sms.cons (Sm.if_ (Te.cmp (op_eqD (u64 hr)) od_eq (Ex.var 0) Ex.int) (Sms.one (Sm.raise 25 [14] (T.oex 1) (T.meth 36) (okX_TooMany T) tk (hr.mono (by decide)) (T.glo 28) (bdX_TooMany T) (As.cons (Ex.var 1) As.nil))) Sms.nil) (Sms.cons (Sm.if_ (Te.cmp (op_eqD (u64 hr)) od_eq (Ex.var 0) Ex.int) (Sms.one (Sm.raise0 31 (T.exc 35).1 (T.exc 35).2.1 (T.exc 35).2.2.1 (T.exc 35).2.2.2 tk (T.glo 27))) Sms.nil) (Sms.cons (Sm.if_ (Te.cmp (op_eqD (u64 hr)) od_eq (Ex.var 0) Ex.int) (Sms.one (Sm.raise0 44 (T.exc 34).1 (T.exc 34).2.1 (T.exc 34).2.2.1 (T.exc 34).2.2.2 tk (T.glo 26))) Sms.nil) (Sms.one (Sm.raise 21 [10] (T.oex 0) (T.meth 33) (okX_BadStep T) tk (hr.mono (by decide)) (T.glo 25) (bdX_BadStep T) (As.cons (Ex.var 1) As.nil))))))))⟩
theorem okAt__law_raise (T : Tx K mg) : FnOk P w K mg base (L2.CX P w) 3 (He.fAd K ("_law_raise", none)) (T.fd 0 rfl) ["_law_which", "_law_thing"] (spM K 2 f__law_raise) := ok__law_raise T (T.fun 0 rfl)
theorem bd__law_raise (T : Tx K mg) : Binds K (T.fd 0 rfl) ["_law_which", "_law_thing"] [] := bn__law_raise (T.fun 0 rfl)
/-! _law_caught -/
theorem sc__law_caught : FnScope ["_law_which", "_law_thing", "_law_caught_here", "e", "_law_flags"] ["_law_which", "_law_thing"] (defScope s__law_caught) := ⟨rfl, rfl, rfl, by decide +kernel, rfl, by decide +kernel, by decide +kernel⟩
theorem bn__law_caught {f : Addr} {fd : FuncData} (F : FunD K "_law_caught" "_law_caught" (defArgs s__law_caught) (defBody s__law_caught) (defScope s__law_caught) [] [] f fd) : Binds K fd ["_law_which", "_law_thing"] [] := F.bindsN fun _ _ _ _ _ _ us hl => match us, hl with | [_, _], _ => rfl
def n__law_caught : N := (sq (nSet 2 (mC .non)) (sq (nTry 3 16 KX (nDrop (mFn f__law_raise (mCons (mV 0) (mCons (mV 1) mNil)))) (nSet 2 (mV 3))) (sq (nSet 4 (mLst (mCons (mCall (isxC KX) (mCons (mV 2) (mCons (mC (.cls 17)) mNil))) (mCons (mCall (isxC KX) (mCons (mV 2) (mCons (mC (.cls 24)) mNil))) (mCons (mCall (isxC KX) (mCons (mV 2) (mCons (mC (.cls 25)) mNil))) mNil))))) (sq (nSet 4 (mBin addD (mV 4) (mLst (mCons (mCall (isxC KX) (mCons (mV 2) (mCons (mC (.cls 31)) mNil))) (mCons (mCall (isxC KX) (mCons (mV 2) (mCons (mC (.cls 44)) mNil))) (mCons (mCall (isxC KX) (mCons (mV 2) (mCons (mC (.cls 21)) mNil))) mNil)))))) (sq (nIf (mOr (mB (mBin neD (mLM cntD (mV 4) (mC (.bl true))) (mC (.int 1)))) (mB (mBin neD (mLM fidxD (mV 4) (mC (.bl true))) (mV 0)))) (nRet (mC (.bl false))) nNx) (sq (nIf (mB (mBin eqD (mV 0) (mC (.int 0)))) (nRet (mBin (eqY [0] f_Web___eq__) (mXf 8 KX (mV 2)) (mV 1))) nNx) (nRet (mIf (mB (mBin (eqY [0] f_Web___eq__) (mV 0) (mC (.int 1)))) (mBin (eqY [0] f_Web___eq__) (mXf 13 KX (mV 2)) (mV 1)) (mOrV (mBin gtD (mV 0) (mC (.int 2))) (mBin (eqY [0] f_Web___eq__) (mXf 14 KX (mV 2)) (mV 1)))))))))))
def f__law_caught : Fn := runFn 5 [] n__law_caught
theorem ok__law_caught (T : Tx K mg) {f : Addr} {fd : FuncData} (F : FunD K "_law_caught" "_law_caught" (defArgs s__law_caught) (defBody s__law_caught) (defScope s__law_caught) [] [] f fd) : FnOk P w K mg base (L2.CX P w) 4 f fd ["_law_which", "_law_thing"] (spM K 2 f__law_caught) :=
  fn_ok F sc__law_caught fun cdv A outer s H E hr W tk => ⟨_, (Sms.cons (Sm.set 2 sc__law_caught.nd Ex.non) (Sms.cons (Sm.ofEx (Sm.tryAs (cs := KX) 3 16 T.xc sc__law_caught.nd (T.glo 9) tk (by exact fun W pn xe tk => ⟨_, (Sms.one (Sm.expr (Ex.fn (okAt__law_raise T) tk (hr.mono (by decide)) (T.glo 31) (T.keep 32) (bd__law_raise T) (As.cons (Ex.var 0) (As.cons (Ex.var 1) As.nil)))))⟩) (by exact fun z pn => ⟨_, (Sms.one (Sm.set 2 sc__law_caught.nd (Ex.var 3)))⟩))) (Sms.cons (Sm.set 4 sc__law_caught.nd (Ex.lst (As.cons (Ex.callB call_isX (cd_isx (cs := KX) T.xc) (T.free 3) bt_isinstance (As.cons (Ex.var 2) (As.cons (Ex.clsG (c := 17) (T.glo 30)) As.nil))) (As.cons (Ex.callB call_isX (cd_isx (cs := KX) T.xc) (T.free 3) bt_isinstance (As.cons (Ex.var 2) (As.cons (Ex.clsG (c := 24) (T.glo 29)) As.nil))) (As.cons (Ex.callB call_isX (cd_isx (cs := KX) T.xc) (T.free 3) bt_isinstance (As.cons (Ex.var 2) (As.cons (Ex.clsG (c := 25) (T.glo 28)) As.nil))) As.nil))))) (Sms.cons (Sm.set 4 sc__law_caught.nd (Ex.bin op_addAll od_add (Ex.var 4) (Ex.lst (As.cons (Ex.callB call_isX (cd_isx (cs := KX) T.xc) (T.free 3) bt_isinstance (As.cons (Ex.var 2) (As.cons (Ex.clsG (c := 31) (T.glo 27)) As.nil))) (As.cons (Ex.callB call_isX (cd_isx (cs := KX) T.xc) (T.free 3) bt_isinstance (As.cons (Ex.var 2) (As.cons (Ex.clsG (c := 44) (T.glo 26)) As.nil))) (As.cons (Ex.callB call_isX (cd_isx (cs := KX) T.xc) (T.free 3) bt_isinstance (As.cons (Ex.var 2) (As.cons (Ex.clsG (c := 21) (T.glo 25)) As.nil))) As.nil)))))) (Sms.cons (Sm.if_ (Tw.tst (Tw.or (Te.cmp (op_neD (u64 hr)) od_ne (Ex.lcnt (Ex.var 4) Ex.bl) Ex.int) (Tw.or1 (Te.cmp (op_neD (u64 hr)) od_ne (Ex.lidx (Ex.var 4) Ex.bl) (Ex.var 0))))) (Sms.one (Sm.ret Ex.bl)) Sms.nil) (Sms.cons (Sm.if_ (Te.cmp (op_eqD (u64 hr)) od_eq (Ex.var 0) Ex.int) (Sms.one (Sm.ret (Ex.cmp (op_eqY (cs := [0]) (u64 hr) (T.kie 0) (by simp only [List.forall_mem_cons, List.not_mem_nil, false_implies, implies_true, and_true]; exact ⟨_, _, _, _, okAt_Web___eq__ T, T.meth 1, bd_Web___eq__ T, hr.mono (by decide)⟩)) od_eqY (Ex.xfld (cs := KX) 8 T.xc (Ex.var 2)) (Ex.var 1)))) Sms.nil) (Sms.one (Sm.ret (Ex.ifE (Te.cmp (op_eqY (cs := [0]) (u64 hr) (T.kie 0) (by simp only [List.forall_mem_cons, List.not_mem_nil, false_implies, implies_true, and_true]; exact ⟨_, _, _, _, okAt_Web___eq__ T, T.meth 1, bd_Web___eq__ T, hr.mono (by decide)⟩)) od_eqY (Ex.var 0) Ex.int) (Ex.cmp (op_eqY (cs := [0]) (u64 hr) (T.kie 0) (by simp only [List.forall_mem_cons, List.not_mem_nil, false_implies, implies_true, and_true]; exact ⟨_, _, _, _, okAt_Web___eq__ T, T.meth 1, bd_Web___eq__ T, hr.mono (by decide)⟩)) od_eqY (Ex.xfld (cs := KX) 13 T.xc (Ex.var 2)) (Ex.var 1)) (Ex.or (Ex.cmp op_gt od_gt (Ex.var 0) Ex.int) (Ex.one (Ex.cmp (op_eqY (cs := [0]) (u64 hr) (T.kie 0) (by simp only [List.forall_mem_cons, List.not_mem_nil, false_implies, implies_true, and_true]; exact ⟨_, _, _, _, okAt_Web___eq__ T, T.meth 1, bd_Web___eq__ T, hr.mono (by decide)⟩)) od_eqY (Ex.xfld (cs := KX) 14 T.xc (Ex.var 2)) (Ex.var 1)))))))))))))⟩
theorem okAt__law_caught (T : Tx K mg) : FnOk P w K mg base (L2.CX P w) 4 (He.fAd K ("_law_caught", none)) (T.fd 1 rfl) ["_law_which", "_law_thing"] (spM K 2 f__law_caught) := ok__law_caught T (T.fun 1 rfl)
theorem bd__law_caught (T : Tx K mg) : Binds K (T.fd 1 rfl) ["_law_which", "_law_thing"] [] := bn__law_caught (T.fun 1 rfl)
/-! _law_of -/
theorem sc__law_of : FnScope ["_law_error", "_law_found"] ["_law_error"] (defScope s__law_of) := ⟨rfl, rfl, rfl, by decide +kernel, rfl, by decide +kernel, by decide +kernel⟩
theorem bn__law_of {f : Addr} {fd : FuncData} (F : FunD K "_law_of" "_law_of" (defArgs s__law_of) (defBody s__law_of) (defScope s__law_of) [] [] f fd) : Binds K fd ["_law_error"] [] := F.bindsN fun _ _ _ _ _ _ us hl => match us, hl with | [_], _ => rfl
def n__law_of : N := (sq (nSet 1 (mLst (mCons (mCall (isxC KX) (mCons (mV 0) (mCons (mC (.cls 17)) mNil))) (mCons (mCall (isxC KX) (mCons (mV 0) (mCons (mC (.cls 19)) mNil))) (mCons (mCall (isxC KX) (mCons (mV 0) (mCons (mC (.cls 21)) mNil))) mNil))))) (sq (nSet 1 (mBin addD (mV 1) (mLst (mCons (mCall (isxC KX) (mCons (mV 0) (mCons (mC (.cls 22)) mNil))) (mCons (mCall (isxC KX) (mCons (mV 0) (mCons (mC (.cls 23)) mNil))) (mCons (mCall (isxC KX) (mCons (mV 0) (mCons (mC (.cls 24)) mNil))) mNil)))))) (sq (nSet 1 (mBin addD (mV 1) (mLst (mCons (mCall (isxC KX) (mCons (mV 0) (mCons (mC (.cls 25)) mNil))) (mCons (mCall (isxC KX) (mCons (mV 0) (mCons (mC (.cls 18)) mNil))) (mCons (mCall (isxC KX) (mCons (mV 0) (mCons (mC (.cls 20)) mNil))) mNil)))))) (sq (nSet 1 (mBin addD (mV 1) (mLst (mCons (mCall (isxC KX) (mCons (mV 0) (mCons (mC (.cls 26)) mNil))) (mCons (mCall (isxC KX) (mCons (mV 0) (mCons (mC (.cls 27)) mNil))) (mCons (mCall (isxC KX) (mCons (mV 0) (mCons (mC (.cls 28)) mNil))) mNil)))))) (sq (nSet 1 (mBin addD (mV 1) (mLst (mCons (mCall (isxC KX) (mCons (mV 0) (mCons (mC (.cls 29)) mNil))) (mCons (mCall (isxC KX) (mCons (mV 0) (mCons (mC (.cls 30)) mNil))) (mCons (mCall (isxC KX) (mCons (mV 0) (mCons (mC (.cls 31)) mNil))) mNil)))))) (sq (nSet 1 (mBin addD (mV 1) (mLst (mCons (mCall (isxC KX) (mCons (mV 0) (mCons (mC (.cls 32)) mNil))) (mCons (mCall (isxC KX) (mCons (mV 0) (mCons (mC (.cls 33)) mNil))) (mCons (mCall (isxC KX) (mCons (mV 0) (mCons (mC (.cls 34)) mNil))) mNil)))))) (sq (nSet 1 (mBin addD (mV 1) (mLst (mCons (mCall (isxC KX) (mCons (mV 0) (mCons (mC (.cls 35)) mNil))) (mCons (mCall (isxC KX) (mCons (mV 0) (mCons (mC (.cls 36)) mNil))) (mCons (mCall (isxC KX) (mCons (mV 0) (mCons (mC (.cls 37)) mNil))) mNil)))))) (sq (nSet 1 (mBin addD (mV 1) (mLst (mCons (mCall (isxC KX) (mCons (mV 0) (mCons (mC (.cls 38)) mNil))) (mCons (mCall (isxC KX) (mCons (mV 0) (mCons (mC (.cls 39)) mNil))) (mCons (mCall (isxC KX) (mCons (mV 0) (mCons (mC (.cls 40)) mNil))) mNil)))))) (sq (nSet 1 (mBin addD (mV 1) (mLst (mCons (mCall (isxC KX) (mCons (mV 0) (mCons (mC (.cls 41)) mNil))) (mCons (mCall (isxC KX) (mCons (mV 0) (mCons (mC (.cls 42)) mNil))) (mCons (mCall (isxC KX) (mCons (mV 0) (mCons (mC (.cls 43)) mNil))) mNil)))))) (nRet (mBin addD (mV 1) (mLst (mCons (mCall (isxC KX) (mCons (mV 0) (mCons (mC (.cls 44)) mNil))) (mCons (mCall (isxC KX) (mCons (mV 0) (mCons (mC (.cls 45)) mNil))) mNil))))))))))))))
def f__law_of : Fn := runFn 2 [] n__law_of
theorem ok__law_of (T : Tx K mg) {f : Addr} {fd : FuncData} (F : FunD K "_law_of" "_law_of" (defArgs s__law_of) (defBody s__law_of) (defScope s__law_of) [] [] f fd) : FnOk P w K mg base (L2.CX P w) 1 f fd ["_law_error"] (spM K 1 f__law_of) :=
  fn_ok F sc__law_of fun cdv A outer s H E hr W tk => ⟨_, (Sms.cons (Sm.set 1 sc__law_of.nd (Ex.lst (As.cons (Ex.callB call_isX (cd_isx (cs := KX) T.xc) (T.free 3) bt_isinstance (As.cons (Ex.var 0) (As.cons (Ex.clsG (c := 17) (T.glo 30)) As.nil))) (As.cons (Ex.callB call_isX (cd_isx (cs := KX) T.xc) (T.free 3) bt_isinstance (As.cons (Ex.var 0) (As.cons (Ex.clsG (c := 19) (T.glo 61)) As.nil))) (As.cons (Ex.callB call_isX (cd_isx (cs := KX) T.xc) (T.free 3) bt_isinstance (As.cons (Ex.var 0) (As.cons (Ex.clsG (c := 21) (T.glo 25)) As.nil))) As.nil))))) (Sms.cons (Sm.set 1 sc__law_of.nd (Ex.bin op_addAll od_add (Ex.var 1) (Ex.lst (As.cons (Ex.callB call_isX (cd_isx (cs := KX) T.xc) (T.free 3) bt_isinstance (As.cons (Ex.var 0) (As.cons (Ex.clsG (c := 22) (T.glo 60)) As.nil))) (As.cons (Ex.callB call_isX (cd_isx (cs := KX) T.xc) (T.free 3) bt_isinstance (As.cons (Ex.var 0) (As.cons (Ex.clsG (c := 23) (T.glo 59)) As.nil))) (As.cons (Ex.callB call_isX (cd_isx (cs := KX) T.xc) (T.free 3) bt_isinstance (As.cons (Ex.var 0) (As.cons (Ex.clsG (c := 24) (T.glo 29)) As.nil))) As.nil)))))) (Sms.cons (Sm.set 1 sc__law_of.nd (Ex.bin op_addAll od_add (Ex.var 1) (Ex.lst (As.cons (Ex.callB call_isX (cd_isx (cs := KX) T.xc) (T.free 3) bt_isinstance (As.cons (Ex.var 0) (As.cons (Ex.clsG (c := 25) (T.glo 28)) As.nil))) (As.cons (Ex.callB call_isX (cd_isx (cs := KX) T.xc) (T.free 3) bt_isinstance (As.cons (Ex.var 0) (As.cons (Ex.clsG (c := 18) (T.glo 58)) As.nil))) (As.cons (Ex.callB call_isX (cd_isx (cs := KX) T.xc) (T.free 3) bt_isinstance (As.cons (Ex.var 0) (As.cons (Ex.clsG (c := 20) (T.glo 57)) As.nil))) As.nil)))))) (Sms.cons (Sm.set 1 sc__law_of.nd (Ex.bin op_addAll od_add (Ex.var 1) (Ex.lst (As.cons (Ex.callB call_isX (cd_isx (cs := KX) T.xc) (T.free 3) bt_isinstance (As.cons (Ex.var 0) (As.cons (Ex.clsG (c := 26) (T.glo 56)) As.nil))) (As.cons (Ex.callB call_isX (cd_isx (cs := KX) T.xc) (T.free 3) bt_isinstance (As.cons (Ex.var 0) (As.cons (Ex.clsG (c := 27) (T.glo 55)) As.nil))) (As.cons (Ex.callB call_isX (cd_isx (cs := KX) T.xc) (T.free 3) bt_isinstance (As.cons (Ex.var 0) (As.cons (Ex.clsG (c := 28) (T.glo 54)) As.nil))) As.nil)))))) (Sms.cons (Sm.set 1 sc__law_of.nd (Ex.bin op_addAll od_add (Ex.var 1) (Ex.lst (As.cons (Ex.callB call_isX (cd_isx (cs := KX) T.xc) (T.free 3) bt_isinstance (As.cons (Ex.var 0) (As.cons (Ex.clsG (c := 29) (T.glo 53)) As.nil))) (As.cons (Ex.callB call_isX (cd_isx (cs := KX) T.xc) (T.free 3) bt_isinstance (As.cons (Ex.var 0) (As.cons (Ex.clsG (c := 30) (T.glo 52)) As.nil))) (As.cons (Ex.callB call_isX (cd_isx (cs := KX) T.xc) (T.free 3) bt_isinstance (As.cons (Ex.var 0) (As.cons (Ex.clsG (c := 31) (T.glo 27)) As.nil))) As.nil)))))) (Sms.cons (Sm.set 1 sc__law_of.nd (Ex.bin op_addAll od_add (Ex.var 1) (Ex.lst (As.cons (Ex.callB call_isX (cd_isx (cs := KX) T.xc) (T.free 3) bt_isinstance (As.cons (Ex.var 0) (As.cons (Ex.clsG (c := 32) (T.glo 51)) As.nil))) (As.cons (Ex.callB call_isX (cd_isx (cs := KX) T.xc) (T.free 3) bt_isinstance (As.cons (Ex.var 0) (As.cons (Ex.clsG (c := 33) (T.glo 50)) As.nil))) (As.cons (Ex.callB call_isX (cd_isx (cs := KX) T.xc) (T.free 3) bt_isinstance (As.cons (Ex.var 0) (As.cons (Ex.clsG (c := 34) (T.glo 49)) As.nil))) As.nil)))))) (Sms.cons (Sm.set 1 sc__law_of.nd (Ex.bin op_addAll od_add (Ex.var 1) (Ex.lst (As.cons (Ex.callB call_isX (cd_isx (cs := KX) T.xc) (T.free 3) bt_isinstance (As.cons (Ex.var 0) (As.cons (Ex.clsG (c := 35) (T.glo 48)) As.nil))) (As.cons (Ex.callB call_isX (cd_isx (cs := KX) T.xc) (T.free 3) bt_isinstance (As.cons (Ex.var 0) (As.cons (Ex.clsG (c := 36) (T.glo 47)) As.nil))) (As.cons (Ex.callB call_isX (cd_isx (cs := KX) T.xc) (T.free 3) bt_isinstance (As.cons (Ex.var 0) (As.cons (Ex.clsG (c := 37) (T.glo 46)) As.nil))) As.nil)))))) (Sms.cons (Sm.set 1 sc__law_of.nd (Ex.bin op_addAll od_add (Ex.var 1) (Ex.lst (As.cons (Ex.callB call_isX (cd_isx (cs := KX) T.xc) (T.free 3) bt_isinstance (As.cons (Ex.var 0) (As.cons (Ex.clsG (c := 38) (T.glo 45)) As.nil))) (As.cons (Ex.callB call_isX (cd_isx (cs := KX) T.xc) (T.free 3) bt_isinstance (As.cons (Ex.var 0) (As.cons (Ex.clsG (c := 39) (T.glo 44)) As.nil))) (As.cons (Ex.callB call_isX (cd_isx (cs := KX) T.xc) (T.free 3) bt_isinstance (As.cons (Ex.var 0) (As.cons (Ex.clsG (c := 40) (T.glo 43)) As.nil))) As.nil)))))) (Sms.cons (Sm.set 1 sc__law_of.nd (Ex.bin op_addAll od_add (Ex.var 1) (Ex.lst (As.cons (Ex.callB call_isX (cd_isx (cs := KX) T.xc) (T.free 3) bt_isinstance (As.cons (Ex.var 0) (As.cons (Ex.clsG (c := 41) (T.glo 42)) As.nil))) (As.cons (Ex.callB call_isX (cd_isx (cs := KX) T.xc) (T.free 3) bt_isinstance (As.cons (Ex.var 0) (As.cons (Ex.clsG (c := 42) (T.glo 41)) As.nil))) (As.cons (Ex.callB call_isX (cd_isx (cs := KX) T.xc) (T.free 3) bt_isinstance (As.cons (Ex.var 0) (As.cons (Ex.clsG (c := 43) (T.glo 40)) As.nil))) As.nil)))))) (Sms.one (Sm.ret (Ex.bin op_addAll od_add (Ex.var 1) (Ex.lst (As.cons (Ex.callB call_isX (cd_isx (cs := KX) T.xc) (T.free 3) bt_isinstance (As.cons (Ex.var 0) (As.cons (Ex.clsG (c := 44) (T.glo 26)) As.nil))) (As.cons (Ex.callB call_isX (cd_isx (cs := KX) T.xc) (T.free 3) bt_isinstance (As.cons (Ex.var 0) (As.cons (Ex.clsG (c := 45) (T.glo 39)) As.nil))) As.nil)))))))))))))))⟩
theorem okAt__law_of (T : Tx K mg) : FnOk P w K mg base (L2.CX P w) 1 (He.fAd K ("_law_of", none)) (T.fd 2 rfl) ["_law_error"] (spM K 1 f__law_of) := ok__law_of T (T.fun 2 rfl)
theorem bd__law_of (T : Tx K mg) : Binds K (T.fd 2 rfl) ["_law_error"] [] := bn__law_of (T.fun 2 rfl)
/-! BadProgram.__init__ -/
theorem sc_BadProgram___init__ : FnScope ["self", "part", "at"] ["self", "part", "at"] (defScope s_BadProgram___init__) := ⟨rfl, rfl, rfl, by decide +kernel, rfl, by decide +kernel, by decide +kernel⟩
theorem noX_BadProgram (T : Tx K mg) (k : Nat) (h : k < 45 := by decide) : PySem.W.findIn K (.ref (cadr K 20)) (fname k) = some none := T.xc.fl 20 (by decide) k h
theorem okX_BadProgram (T : Tx K mg) : FnOk P w K mg base (L2.CX P w) 1 (He.fAd K ("BadProgram", some "__init__")) (T.fd 18 rfl) ["self", "part", "at"] (spXi (cadr K 20) ([8, 9].map fname)) :=
  xinit2 (T.oex 4) (T.fun 18 rfl) sc_BadProgram___init__ (noX_BadProgram T 8) (noX_BadProgram T 9) fun cdv A outer s H E => (pss_cons (ps_ost (Ex.var (W := WF) 0).pe (Ex.var (W := WF) 1).pe) (pss_one (ps_ost (Ex.var (W := WF) 0).pe (Ex.var (W := WF) 2).pe)))
theorem bdX_BadProgram (T : Tx K mg) : Binds K (T.fd 18 rfl) ["self", "part", "at"] [] := (T.fun 18 rfl).bindsN fun _ _ _ _ _ _ us hl => match us, hl with | [_, _, _], _ => rfl
/-! BadRecord.__init__ -/
theorem sc_BadRecord___init__ : FnScope ["self", "part", "at"] ["self", "part", "at"] (defScope s_BadRecord___init__) := ⟨rfl, rfl, rfl, by decide +kernel, rfl, by decide +kernel, by decide +kernel⟩
theorem noX_BadRecord (T : Tx K mg) (k : Nat) (h : k < 45 := by decide) : PySem.W.findIn K (.ref (cadr K 18)) (fname k) = some none := T.xc.fl 18 (by decide) k h
theorem okX_BadRecord (T : Tx K mg) : FnOk P w K mg base (L2.CX P w) 1 (He.fAd K ("BadRecord", some "__init__")) (T.fd 19 rfl) ["self", "part", "at"] (spXi (cadr K 18) ([8, 9].map fname)) :=
  xinit2 (T.oex 5) (T.fun 19 rfl) sc_BadRecord___init__ (noX_BadRecord T 8) (noX_BadRecord T 9) fun cdv A outer s H E => (pss_cons (ps_ost (Ex.var (W := WF) 0).pe (Ex.var (W := WF) 1).pe) (pss_one (ps_ost (Ex.var (W := WF) 0).pe (Ex.var (W := WF) 2).pe)))
theorem bdX_BadRecord (T : Tx K mg) : Binds K (T.fd 19 rfl) ["self", "part", "at"] [] := (T.fun 19 rfl).bindsN fun _ _ _ _ _ _ us hl => match us, hl with | [_, _, _], _ => rfl
/-! BadText.__init__ -/
theorem sc_BadText___init__ : FnScope ["self", "line"] ["self", "line"] (defScope s_BadText___init__) := ⟨rfl, rfl, rfl, by decide +kernel, rfl, by decide +kernel, by decide +kernel⟩
theorem noX_BadText (T : Tx K mg) (k : Nat) (h : k < 45 := by decide) : PySem.W.findIn K (.ref (cadr K 23)) (fname k) = some none := T.xc.fl 23 (by decide) k h
theorem okX_BadText (T : Tx K mg) : FnOk P w K mg base (L2.CX P w) 1 (He.fAd K ("BadText", some "__init__")) (T.fd 20 rfl) ["self", "line"] (spXi (cadr K 23) ([12].map fname)) :=
  xinit1 (T.oex 6) (T.fun 20 rfl) sc_BadText___init__ (noX_BadText T 12) fun cdv A outer s H E => (pss_one (ps_ost (Ex.var (W := WF) 0).pe (Ex.var (W := WF) 1).pe))
theorem bdX_BadText (T : Tx K mg) : Binds K (T.fd 20 rfl) ["self", "line"] [] := (T.fun 20 rfl).bindsN fun _ _ _ _ _ _ us hl => match us, hl with | [_, _], _ => rfl
/-! BadChoice.__init__ -/
theorem sc_BadChoice___init__ : FnScope ["self", "number"] ["self", "number"] (defScope s_BadChoice___init__) := ⟨rfl, rfl, rfl, by decide +kernel, rfl, by decide +kernel, by decide +kernel⟩
theorem noX_BadChoice (T : Tx K mg) (k : Nat) (h : k < 45 := by decide) : PySem.W.findIn K (.ref (cadr K 22)) (fname k) = some none := T.xc.fl 22 (by decide) k h
theorem okX_BadChoice (T : Tx K mg) : FnOk P w K mg base (L2.CX P w) 1 (He.fAd K ("BadChoice", some "__init__")) (T.fd 21 rfl) ["self", "number"] (spXi (cadr K 22) ([11].map fname)) :=
  xinit1 (T.oex 7) (T.fun 21 rfl) sc_BadChoice___init__ (noX_BadChoice T 11) fun cdv A outer s H E => (pss_one (ps_ost (Ex.var (W := WF) 0).pe (Ex.var (W := WF) 1).pe))
theorem bdX_BadChoice (T : Tx K mg) : Binds K (T.fd 21 rfl) ["self", "number"] [] := (T.fun 21 rfl).bindsN fun _ _ _ _ _ _ us hl => match us, hl with | [_, _], _ => rfl
/-! BadHall.__init__ -/
theorem sc_BadHall___init__ : FnScope ["self", "part"] ["self", "part"] (defScope s_BadHall___init__) := ⟨rfl, rfl, rfl, by decide +kernel, rfl, by decide +kernel, by decide +kernel⟩
theorem noX_BadHall (T : Tx K mg) (k : Nat) (h : k < 45 := by decide) : PySem.W.findIn K (.ref (cadr K 19)) (fname k) = some none := T.xc.fl 19 (by decide) k h
theorem okX_BadHall (T : Tx K mg) : FnOk P w K mg base (L2.CX P w) 1 (He.fAd K ("BadHall", some "__init__")) (T.fd 22 rfl) ["self", "part"] (spXi (cadr K 19) ([8].map fname)) :=
  xinit1 (T.oex 8) (T.fun 22 rfl) sc_BadHall___init__ (noX_BadHall T 8) fun cdv A outer s H E => (pss_one (ps_ost (Ex.var (W := WF) 0).pe (Ex.var (W := WF) 1).pe))
theorem bdX_BadHall (T : Tx K mg) : Binds K (T.fd 22 rfl) ["self", "part"] [] := (T.fun 22 rfl).bindsN fun _ _ _ _ _ _ us hl => match us, hl with | [_, _], _ => rfl
/-! _law_all -/
theorem sc__law_all : FnScope ["_law_thing", "_law_other", "_law_found"] ["_law_thing", "_law_other"] (defScope s__law_all) := ⟨rfl, rfl, rfl, by decide +kernel, rfl, by decide +kernel, by decide +kernel⟩
theorem bn__law_all {f : Addr} {fd : FuncData} (F : FunD K "_law_all" "_law_all" (defArgs s__law_all) (defBody s__law_all) (defScope s__law_all) [] [] f fd) : Binds K fd ["_law_thing", "_law_other"] [] := F.bindsN fun _ _ _ _ _ _ us hl => match us, hl with | [_, _], _ => rfl
def n__law_all : N := (sq (nSet 2 (mLst (mCons (mXmk 17 [8] (mCons (mV 0) mNil)) (mCons (mXmk 19 [8] (mCons (mV 0) mNil)) (mCons (mXmk 21 [10] (mCons (mV 0) mNil)) (mCons (mXmk 22 [11] (mCons (mV 0) mNil)) (mCons (mXmk 23 [12] (mCons (mV 0) mNil)) (mCons (mXmk 24 [13] (mCons (mV 0) mNil)) mNil)))))))) (sq (nSet 2 (mBin addD (mV 2) (mLst (mCons (mXmk 25 [14] (mCons (mV 0) mNil)) (mCons (mXmk 18 [8, 9] (mCons (mV 0) (mCons (mV 1) mNil))) (mCons (mXmk 20 [8, 9] (mCons (mV 0) (mCons (mV 1) mNil))) (mCons (mC (.xo 26 [])) (mCons (mC (.xo 27 [])) mNil)))))))) (sq (nSet 2 (mBin addD (mV 2) (mLst (mCons (mC (.xo 28 [])) (mCons (mC (.xo 29 [])) (mCons (mC (.xo 30 [])) (mCons (mC (.xo 31 [])) (mCons (mC (.xo 32 [])) (mCons (mC (.xo 33 [])) (mCons (mC (.xo 34 [])) (mCons (mC (.xo 35 [])) mNil))))))))))) (sq (nSet 2 (mBin addD (mV 2) (mLst (mCons (mC (.xo 36 [])) (mCons (mC (.xo 37 [])) (mCons (mC (.xo 38 [])) (mCons (mC (.xo 39 [])) (mCons (mC (.xo 40 [])) (mCons (mC (.xo 41 [])) (mCons (mC (.xo 42 [])) (mCons (mC (.xo 43 [])) mNil))))))))))) (nRet (mBin addD (mV 2) (mLst (mCons (mC (.xo 44 [])) (mCons (mC (.xo 45 [])) mNil)))))))))
def f__law_all : Fn := runFn 3 [] n__law_all
theorem ok__law_all (T : Tx K mg) {f : Addr} {fd : FuncData} (F : FunD K "_law_all" "_law_all" (defArgs s__law_all) (defBody s__law_all) (defScope s__law_all) [] [] f fd) : FnOk P w K mg base (L2.CX P w) 3 f fd ["_law_thing", "_law_other"] (spM K 2 f__law_all) :=
  fn_ok F sc__law_all fun cdv A outer s H E hr W tk => ⟨_, (Sms.cons (Sm.set 2 sc__law_all.nd (Ex.lst (As.cons (Ex.xmk 17 [8] (T.oex 3) (T.meth 38) (okX_BadWeb T) tk (hr.mono (by decide)) (T.glo 30) (bdX_BadWeb T) (As.cons (Ex.var 0) As.nil)) (As.cons (Ex.xmk 19 [8] (T.oex 8) (T.meth 84) (okX_BadHall T) tk (hr.mono (by decide)) (T.glo 61) (bdX_BadHall T) (As.cons (Ex.var 0) As.nil)) (As.cons (Ex.xmk 21 [10] (T.oex 0) (T.meth 33) (okX_BadStep T) tk (hr.mono (by decide)) (T.glo 25) (bdX_BadStep T) (As.cons (Ex.var 0) As.nil)) (As.cons (Ex.xmk 22 [11] (T.oex 7) (T.meth 83) (okX_BadChoice T) tk (hr.mono (by decide)) (T.glo 60) (bdX_BadChoice T) (As.cons (Ex.var 0) As.nil)) (As.cons (Ex.xmk 23 [12] (T.oex 6) (T.meth 82) (okX_BadText T) tk (hr.mono (by decide)) (T.glo 59) (bdX_BadText T) (As.cons (Ex.var 0) As.nil)) (As.cons (Ex.xmk 24 [13] (T.oex 2) (T.meth 37) (okX_NoName T) tk (hr.mono (by decide)) (T.glo 29) (bdX_NoName T) (As.cons (Ex.var 0) As.nil)) As.nil)))))))) (Sms.cons (Sm.set 2 sc__law_all.nd (Ex.bin op_addAll od_add (Ex.var 2) (Ex.lst (As.cons (Ex.xmk 25 [14] (T.oex 1) (T.meth 36) (okX_TooMany T) tk (hr.mono (by decide)) (T.glo 28) (bdX_TooMany T) (As.cons (Ex.var 0) As.nil)) (As.cons (Ex.xmk 18 [8, 9] (T.oex 5) (T.meth 81) (okX_BadRecord T) tk (hr.mono (by decide)) (T.glo 58) (bdX_BadRecord T) (As.cons (Ex.var 0) (As.cons (Ex.var 1) As.nil))) (As.cons (Ex.xmk 20 [8, 9] (T.oex 4) (T.meth 80) (okX_BadProgram T) tk (hr.mono (by decide)) (T.glo 57) (bdX_BadProgram T) (As.cons (Ex.var 0) (As.cons (Ex.var 1) As.nil))) (As.cons (Ex.xb 26 (T.exc 79).1 (T.exc 79).2.1 (T.glo 56)) (As.cons (Ex.xb 27 (T.exc 78).1 (T.exc 78).2.1 (T.glo 55)) As.nil)))))))) (Sms.cons (Sm.set 2 sc__law_all.nd (Ex.bin op_addAll od_add (Ex.var 2) (Ex.lst (As.cons (Ex.xb 28 (T.exc 77).1 (T.exc 77).2.1 (T.glo 54)) (As.cons (Ex.xb 29 (T.exc 76).1 (T.exc 76).2.1 (T.glo 53)) (As.cons (Ex.xb 30 (T.exc 75).1 (T.exc 75).2.1 (T.glo 52)) (As.cons (Ex.xb 31 (T.exc 35).1 (T.exc 35).2.1 (T.glo 27)) (As.cons (Ex.xb 32 (T.exc 74).1 (T.exc 74).2.1 (T.glo 51)) (As.cons (Ex.xb 33 (T.exc 73).1 (T.exc 73).2.1 (T.glo 50)) (As.cons (Ex.xb 34 (T.exc 72).1 (T.exc 72).2.1 (T.glo 49)) (As.cons (Ex.xb 35 (T.exc 71).1 (T.exc 71).2.1 (T.glo 48)) As.nil))))))))))) (Sms.cons (Sm.set 2 sc__law_all.nd (Ex.bin op_addAll od_add (Ex.var 2) (Ex.lst (As.cons (Ex.xb 36 (T.exc 70).1 (T.exc 70).2.1 (T.glo 47)) (As.cons (Ex.xb 37 (T.exc 69).1 (T.exc 69).2.1 (T.glo 46)) (As.cons (Ex.xb 38 (T.exc 68).1 (T.exc 68).2.1 (T.glo 45)) (As.cons (Ex.xb 39 (T.exc 67).1 (T.exc 67).2.1 (T.glo 44)) (As.cons (Ex.xb 40 (T.exc 66).1 (T.exc 66).2.1 (T.glo 43)) (As.cons (Ex.xb 41 (T.exc 65).1 (T.exc 65).2.1 (T.glo 42)) (As.cons (Ex.xb 42 (T.exc 64).1 (T.exc 64).2.1 (T.glo 41)) (As.cons (Ex.xb 43 (T.exc 63).1 (T.exc 63).2.1 (T.glo 40)) As.nil))))))))))) (Sms.one (Sm.ret (Ex.bin op_addAll od_add (Ex.var 2) (Ex.lst (As.cons (Ex.xb 44 (T.exc 34).1 (T.exc 34).2.1 (T.glo 26)) (As.cons (Ex.xb 45 (T.exc 62).1 (T.exc 62).2.1 (T.glo 39)) As.nil))))))))))⟩
theorem okAt__law_all (T : Tx K mg) : FnOk P w K mg base (L2.CX P w) 3 (He.fAd K ("_law_all", none)) (T.fd 3 rfl) ["_law_thing", "_law_other"] (spM K 2 f__law_all) := ok__law_all T (T.fun 3 rfl)
theorem bd__law_all (T : Tx K mg) : Binds K (T.fd 3 rfl) ["_law_thing", "_law_other"] [] := bn__law_all (T.fun 3 rfl)
/-! _law_draw -/
theorem sc__law_draw : FnScope ["_law_hand_here", "_law_many", "_law_number", "_law_cell", "_law_digit"] ["_law_hand_here", "_law_many"] (defScope s__law_draw) := ⟨rfl, rfl, rfl, by decide +kernel, rfl, by decide +kernel, by decide +kernel⟩
theorem bn__law_draw {f : Addr} {fd : FuncData} (F : FunD K "_law_draw" "_law_draw" (defArgs s__law_draw) (defBody s__law_draw) (defScope s__law_draw) [] [] f fd) : Binds K fd ["_law_hand_here", "_law_many"] [] := F.bindsN fun _ _ _ _ _ _ us hl => match us, hl with | [_, _], _ => rfl
def n__law_draw : N := (sq (nIf (mAnd (mB (mBin eqD (mIxO 0 (mC (.int 2))) (mC (.int 0)))) (mB (mBin ltD (mIxO 0 (mC (.int 1))) (mCall lenS (mSeq (mIxO 0 (mC (.int 0)))))))) (sq (nSet 3 (mBin ixD (mIxO 0 (mC (.int 0))) (mIxO 0 (mC (.int 1))))) (sq (nPutIx 0 (mBin addD (mIxO 0 (mC (.int 1))) (mC (.int 1))) (mC (.int 1))) (sq (nPutIx 0 (mBin modD (mCall intC (mCons (mBin addD (mBin addD (mBin mulD (mIxO 0 (mC (.int 3))) (mC (.int 69621))) (mV 3)) (mC (.int 11))) mNil)) (mC (.int 2147483629))) (mC (.int 3))) (nIf (mB (mBin geD (mV 3) (mBin powD (mC (.int 10)) (mC (.int 18))))) (nPutIx 0 (mV 3) (mC (.int 2))) nNx)))) nNx) (sq (nIf (mB (mBin gtD (mIxO 0 (mC (.int 2))) (mC (.int 0)))) (sq (nSet 4 (mBin modD (mCall intC (mCons (mIxO 0 (mC (.int 2))) mNil)) (mV 1))) (sq (nPutIx 0 (mBin divD (mIxO 0 (mC (.int 2))) (mV 1)) (mC (.int 2))) (nRet (mV 4)))) nNx) (sq (nPutIx 0 (mBin addD (mIxO 0 (mC (.int 4))) (mC (.int 1))) (mC (.int 4))) (sq (nSet 2 (mBin modD (mCall intC (mCons (mBin mulD (mCall intC (mCons (mBin addD (mIxO 0 (mC (.int 3))) (mBin mulD (mC (.int 7919)) (mIxO 0 (mC (.int 4))))) mNil)) (mC (.int 48271))) mNil)) (mC (.int 2147483647)))) (sq (nSet 2 (mBin modD (mCall intC (mCons (mBin mulD (mV 2) (mBin addD (mBin divD (mV 2) (mC (.int 1009))) (mC (.int 69621)))) mNil)) (mC (.int 2147483647)))) (sq (nSet 2 (mBin modD (mCall intC (mCons (mBin mulD (mV 2) (mBin addD (mBin divD (mV 2) (mC (.int 2003))) (mC (.int 40692)))) mNil)) (mC (.int 2147483399)))) (nRet (mBin modD (mCall intC (mCons (mBin divD (mV 2) (mC (.int 16))) mNil)) (mV 1)))))))))
def f__law_draw : Fn := runFn 5 [0] n__law_draw
theorem ok__law_draw (T : Tx K mg) {f : Addr} {fd : FuncData} (F : FunD K "_law_draw" "_law_draw" (defArgs s__law_draw) (defBody s__law_draw) (defScope s__law_draw) [] [] f fd) : FnOk P w K mg base (L2.CX P w) 1 f fd ["_law_hand_here", "_law_many"] (spM K 2 f__law_draw) :=
  fn_ok F sc__law_draw fun cdv A outer s H E hr W tk => ⟨_, (Sms.cons (Sm.if_ (Tw.tst (Tw.and (Te.cmp (op_eqD (u64 hr)) od_eq (Ex.ixOwn 0 Ex.int) Ex.int) (Tw.and1 (Te.cmp op_lt od_lt (Ex.ixOwn 0 Ex.int) (Ex.callBS call_len_seq cs_len (T.free 86) bt_len (Se.of (Ex.ixOwn 0 Ex.int))))))) (Sms.cons (Sm.set 3 sc__law_draw.nd (Ex.ix ix_seq od_ix (Ex.ixOwn 0 Ex.int) (Ex.ixOwn 0 Ex.int))) (Sms.cons (Sm.putIx 0 (Ex.bin op_addAll od_add (Ex.ixOwn 0 Ex.int) Ex.int) Ex.int) (Sms.cons (Sm.putIx 0 (Ex.bin op_mod od_mod (Ex.callTy call_int1 cd_int (T.free 85) bt_int (As.cons (Ex.bin op_addAll od_add (Ex.bin op_addAll od_add (Ex.bin op_mul od_mul (Ex.ixOwn 0 Ex.int) Ex.int) (Ex.var 3)) Ex.int) As.nil)) Ex.int) Ex.int) (Sms.one (Sm.if_ (Te.cmp op_ge od_ge (Ex.var 3) (Ex.bin op_pow od_pow Ex.int Ex.int)) (Sms.one (Sm.putIx 0 (Ex.var 3) Ex.int)) Sms.nil))))) Sms.nil) (Sms.cons (Sm.if_ (Te.cmp op_gt od_gt (Ex.ixOwn 0 Ex.int) Ex.int) (Sms.cons (Sm.set 4 sc__law_draw.nd (Ex.bin op_mod od_mod (Ex.callTy call_int1 cd_int (T.free 85) bt_int (As.cons (Ex.ixOwn 0 Ex.int) As.nil)) (Ex.var 1))) (Sms.cons (Sm.putIx 0 (Ex.bin op_fdiv od_div (Ex.ixOwn 0 Ex.int) (Ex.var 1)) Ex.int) (Sms.one (Sm.ret (Ex.var 4))))) Sms.nil) (Sms.cons (Sm.putIx 0 (Ex.bin op_addAll od_add (Ex.ixOwn 0 Ex.int) Ex.int) Ex.int) (Sms.cons (Sm.set 2 sc__law_draw.nd (Ex.bin op_mod od_mod (Ex.callTy call_int1 cd_int (T.free 85) bt_int (As.cons (Ex.bin op_mul od_mul (Ex.callTy call_int1 cd_int (T.free 85) bt_int (As.cons (Ex.bin op_addAll od_add (Ex.ixOwn 0 Ex.int) (Ex.bin op_mul od_mul Ex.int (Ex.ixOwn 0 Ex.int))) As.nil)) Ex.int) As.nil)) Ex.int)) (Sms.cons (Sm.set 2 sc__law_draw.nd (Ex.bin op_mod od_mod (Ex.callTy call_int1 cd_int (T.free 85) bt_int (As.cons (Ex.bin op_mul od_mul (Ex.var 2) (Ex.bin op_addAll od_add (Ex.bin op_fdiv od_div (Ex.var 2) Ex.int) Ex.int)) As.nil)) Ex.int)) (Sms.cons (Sm.set 2 sc__law_draw.nd (Ex.bin op_mod od_mod (Ex.callTy call_int1 cd_int (T.free 85) bt_int (As.cons (Ex.bin op_mul od_mul (Ex.var 2) (Ex.bin op_addAll od_add (Ex.bin op_fdiv od_div (Ex.var 2) Ex.int) Ex.int)) As.nil)) Ex.int)) (Sms.one (Sm.ret (Ex.bin op_mod od_mod (Ex.callTy call_int1 cd_int (T.free 85) bt_int (As.cons (Ex.bin op_fdiv od_div (Ex.var 2) Ex.int) As.nil)) (Ex.var 1))))))))))⟩
theorem okAt__law_draw (T : Tx K mg) : FnOk P w K mg base (L2.CX P w) 1 (He.fAd K ("_law_draw", none)) (T.fd 4 rfl) ["_law_hand_here", "_law_many"] (spM K 2 f__law_draw) := ok__law_draw T (T.fun 4 rfl)
theorem bd__law_draw (T : Tx K mg) : Binds K (T.fd 4 rfl) ["_law_hand_here", "_law_many"] [] := bn__law_draw (T.fun 4 rfl)
/-! _law_deep -/
theorem sc__law_deep : FnScope ["_law_hand_here", "_law_found", "_law_turn"] ["_law_hand_here"] (defScope s__law_deep) := ⟨rfl, rfl, rfl, by decide +kernel, rfl, by decide +kernel, by decide +kernel⟩
theorem bn__law_deep {f : Addr} {fd : FuncData} (F : FunD K "_law_deep" "_law_deep" (defArgs s__law_deep) (defBody s__law_deep) (defScope s__law_deep) [] [] f fd) : Binds K fd ["_law_hand_here"] [] := F.bindsN fun _ _ _ _ _ _ us hl => match us, hl with | [_], _ => rfl
def n__law_deep : N := (sq (nSet 1 (mBin ixD (mLst (mCons (mC .non) (mCons (mC (.str "a")) (mCons (mNeg (mC (.int 1))) (mCons (mC (.dk [])) mNil))))) (mFnO f__law_draw 0 (mCons (mC (.int 4)) mNil)))) (sq (nFor (mRng (mCons (mBin addD (mC (.int 1)) (mFnO f__law_draw 0 (mCons (mC (.int 30)) mNil))) mNil)) (bN 2) (nSet 1 (mBin ixD (mLst (mCons (mTup (mCons (mV 1) mNil)) (mCons (mLst (mCons (mV 1) mNil)) (mCons (mCut (mTup (mCons (mV 1) (mCons (mV 1) mNil))) mNo (mPart (mC (.int 1)))) (mCons (mDict1 (mC (.int 0)) (mV 1)) mNil))))) (mFnO f__law_draw 0 (mCons (mC (.int 4)) mNil))))) (nRet (mV 1))))
def f__law_deep : Fn := runFn 3 [0] n__law_deep
theorem ok__law_deep (T : Tx K mg) {f : Addr} {fd : FuncData} (F : FunD K "_law_deep" "_law_deep" (defArgs s__law_deep) (defBody s__law_deep) (defScope s__law_deep) [] [] f fd) : FnOk P w K mg base (L2.CX P w) 2 f fd ["_law_hand_here"] (spM K 1 f__law_deep) :=
  fn_ok F sc__law_deep fun cdv A outer s H E hr W tk => ⟨_, (Sms.cons (Sm.set 1 sc__law_deep.nd (Ex.ix ix_seq od_ix (Ex.lst (As.cons Ex.non (As.cons Ex.str (As.cons (Ex.neg Ex.int) (As.cons Ex.dict0 As.nil))))) (Ex.fnO (n := 1) 0 (okAt__law_draw T) tk (hr.mono (by decide)) (T.glo 14) (T.keep 15) (bd__law_draw T) (As.cons Ex.int As.nil)))) (Sms.cons (Sm.for_ (passes_of rfl) rfl (Src.range1 (T.free 0) (As.cons (Ex.bin op_addAll od_add Ex.int (Ex.fnO (n := 1) 0 (okAt__law_draw T) tk (hr.mono (by decide)) (T.glo 14) (T.keep 15) (bd__law_draw T) (As.cons Ex.int As.nil))) As.nil)) (Tg.name 2 sc__law_deep.nd) (Sms.one (Sm.set 1 sc__law_deep.nd (Ex.ix ix_seq od_ix (Ex.lst (As.cons (Ex.tup (As.cons (Ex.var 1) As.nil)) (As.cons (Ex.lst (As.cons (Ex.var 1) As.nil)) (As.cons (Ex.cut (Ex.tup (As.cons (Ex.var 1) (As.cons (Ex.var 1) As.nil))) Po.no (Po.part Ex.int)) (As.cons (Ex.dict1 Ex.int (Ex.var 1)) As.nil))))) (Ex.fnO (n := 1) 0 (okAt__law_draw T) tk (hr.mono (by decide)) (T.glo 14) (T.keep 15) (bd__law_draw T) (As.cons Ex.int As.nil)))))) (Sms.one (Sm.ret (Ex.var 1)))))⟩
theorem okAt__law_deep (T : Tx K mg) : FnOk P w K mg base (L2.CX P w) 2 (He.fAd K ("_law_deep", none)) (T.fd 5 rfl) ["_law_hand_here"] (spM K 1 f__law_deep) := ok__law_deep T (T.fun 5 rfl)
theorem bd__law_deep (T : Tx K mg) : Binds K (T.fd 5 rfl) ["_law_hand_here"] [] := bn__law_deep (T.fun 5 rfl)
/-! Web.keep -/
theorem sc_Web_keep : FnScope ["self", "machines", "wires"] ["self", "machines", "wires"] (defScope s_Web_keep) := ⟨rfl, rfl, rfl, by decide +kernel, rfl, by decide +kernel, by decide +kernel⟩
theorem bn_Web_keep {f : Addr} {fd : FuncData} (F : FunD K "keep" "Web.keep" (defArgs s_Web_keep) (defBody s_Web_keep) (defScope s_Web_keep) [] [] f fd) : Binds K fd ["self", "machines", "wires"] [] := F.bindsN fun _ _ _ _ _ _ us hl => match us, hl with | [_, _, _], _ => rfl
def n_Web_keep : N := (sq (nFldSet 0 0 [0] (mV 1)) (nFldSet 1 0 [0] (mV 2)))
def f_Web_keep : Fn := runFn 3 [0] n_Web_keep
theorem ok_Web_keep (T : Tx K mg) {f : Addr} {fd : FuncData} (F : FunD K "keep" "Web.keep" (defArgs s_Web_keep) (defBody s_Web_keep) (defScope s_Web_keep) [] [] f fd) : FnOk P w K mg base (L2.CX P w) 1 f fd ["self", "machines", "wires"] (spM K 3 f_Web_keep) :=
  fn_ok F sc_Web_keep fun cdv A outer s H E hr W tk => ⟨_, (Sms.cons (Sm.fldSet 0 0 [0] (Ex.var 1) (by simp only [List.forall_mem_cons, List.not_mem_nil, false_implies, implies_true, and_true]; exact ⟨T.cls 22, T.noat 24⟩)) (Sms.one (Sm.fldSet 1 0 [0] (Ex.var 2) (by simp only [List.forall_mem_cons, List.not_mem_nil, false_implies, implies_true, and_true]; exact ⟨T.cls 22, T.noat 23⟩))))⟩
theorem okAt_Web_keep (T : Tx K mg) : FnOk P w K mg base (L2.CX P w) 1 (He.fAd K ("Web", some "keep")) (T.fd 23 rfl) ["self", "machines", "wires"] (spM K 3 f_Web_keep) := ok_Web_keep T (T.fun 23 rfl)
theorem bd_Web_keep (T : Tx K mg) : Binds K (T.fd 23 rfl) ["self", "machines", "wires"] [] := bn_Web_keep (T.fun 23 rfl)
/-! is_integer -/
theorem sc_is_integer : FnScope ["thing"] ["thing"] (defScope s_is_integer) := ⟨rfl, rfl, rfl, by decide +kernel, rfl, by decide +kernel, by decide +kernel⟩
theorem bn_is_integer {f : Addr} {fd : FuncData} (F : FunD K "is_integer" "is_integer" (defArgs s_is_integer) (defBody s_is_integer) (defScope s_is_integer) [] [] f fd) : Binds K fd ["thing"] [] := F.bindsN fun _ _ _ _ _ _ us hl => match us, hl with | [_], _ => rfl
def n_is_integer : N := (nRet (mAndV (mCall (isiC KC) (mCons (mV 0) (mCons (mC (.ty .int)) mNil))) (mNotV (mCall (isiC KC) (mCons (mV 0) (mCons (mC (.ty .bl)) mNil))))))
def f_is_integer : Fn := runFn 1 [] n_is_integer
theorem ok_is_integer (T : Tx K mg) {f : Addr} {fd : FuncData} (F : FunD K "is_integer" "is_integer" (defArgs s_is_integer) (defBody s_is_integer) (defScope s_is_integer) [] [] f fd) : FnOk P w K mg base (L2.CX P w) 1 f fd ["thing"] (spM K 1 f_is_integer) :=
  fn_ok F sc_is_integer fun cdv A outer s H E hr W tk => ⟨_, (Sms.one (Sm.ret (Ex.and (Ex.callB call_isi (cd_isi (cs := KC) T.kit) (T.free 3) bt_isinstance (As.cons (Ex.var 0) (As.cons (Ex.tyB (n := .int) (T.free 85) bt_int) As.nil))) (Ex.one (Ex.not (Ex.callB call_isi (cd_isi (cs := KC) T.kit) (T.free 3) bt_isinstance (As.cons (Ex.var 0) (As.cons (Ex.tyB (n := .bl) (T.free 4) bt_bool) As.nil))))))))⟩
theorem okAt_is_integer (T : Tx K mg) : FnOk P w K mg base (L2.CX P w) 1 (He.fAd K ("is_integer", none)) (T.fd 6 rfl) ["thing"] (spM K 1 f_is_integer) := ok_is_integer T (T.fun 6 rfl)
theorem bd_is_integer (T : Tx K mg) : Binds K (T.fd 6 rfl) ["thing"] [] := bn_is_integer (T.fun 6 rfl)
/-! is_within -/
theorem sc_is_within : FnScope ["thing", "least", "most"] ["thing", "least", "most"] (defScope s_is_within) := ⟨rfl, rfl, rfl, by decide +kernel, rfl, by decide +kernel, by decide +kernel⟩
theorem bn_is_within {f : Addr} {fd : FuncData} (F : FunD K "is_within" "is_within" (defArgs s_is_within) (defBody s_is_within) (defScope s_is_within) [] [] f fd) : Binds K fd ["thing", "least", "most"] [] := F.bindsN fun _ _ _ _ _ _ us hl => match us, hl with | [_, _, _], _ => rfl
def n_is_within : N := (nRet (mAndV (mFn f_is_integer (mCons (mV 0) mNil)) (mChain leD leD (mV 1) (mV 0) (mV 2))))
def f_is_within : Fn := runFn 3 [] n_is_within
theorem ok_is_within (T : Tx K mg) {f : Addr} {fd : FuncData} (F : FunD K "is_within" "is_within" (defArgs s_is_within) (defBody s_is_within) (defScope s_is_within) [] [] f fd) : FnOk P w K mg base (L2.CX P w) 2 f fd ["thing", "least", "most"] (spM K 3 f_is_within) :=
  fn_ok F sc_is_within fun cdv A outer s H E hr W tk => ⟨_, (Sms.one (Sm.ret (Ex.and (Ex.fn (okAt_is_integer T) tk (hr.mono (by decide)) (T.glo 96) (T.keep 97) (bd_is_integer T) (As.cons (Ex.var 0) As.nil)) (Ex.one (Ex.chain op_le od_le op_le od_le (Ex.var 1) (Ex.var 0) (Ex.var 2))))))⟩
theorem okAt_is_within (T : Tx K mg) : FnOk P w K mg base (L2.CX P w) 2 (He.fAd K ("is_within", none)) (T.fd 7 rfl) ["thing", "least", "most"] (spM K 3 f_is_within) := ok_is_within T (T.fun 7 rfl)
theorem bd_is_within (T : Tx K mg) : Binds K (T.fd 7 rfl) ["thing", "least", "most"] [] := bn_is_within (T.fun 7 rfl)
/-! is_pair -/
theorem sc_is_pair : FnScope ["thing"] ["thing"] (defScope s_is_pair) := ⟨rfl, rfl, rfl, by decide +kernel, rfl, by decide +kernel, by decide +kernel⟩
theorem bn_is_pair {f : Addr} {fd : FuncData} (F : FunD K "is_pair" "is_pair" (defArgs s_is_pair) (defBody s_is_pair) (defScope s_is_pair) [] [] f fd) : Binds K fd ["thing"] [] := F.bindsN fun _ _ _ _ _ _ us hl => match us, hl with | [_], _ => rfl
def n_is_pair : N := (nRet (mAndV (mCall (isiC KC) (mCons (mV 0) (mCons (mC (.ty .tup)) mNil))) (mBin eqD (mCall lenS (mSeq (mV 0))) (mC (.int 2)))))
def f_is_pair : Fn := runFn 1 [] n_is_pair
theorem ok_is_pair (T : Tx K mg) {f : Addr} {fd : FuncData} (F : FunD K "is_pair" "is_pair" (defArgs s_is_pair) (defBody s_is_pair) (defScope s_is_pair) [] [] f fd) : FnOk P w K mg base (L2.CX P w) 1 f fd ["thing"] (spM K 1 f_is_pair) :=
  fn_ok F sc_is_pair fun cdv A outer s H E hr W tk => ⟨_, (Sms.one (Sm.ret (Ex.and (Ex.callB call_isi (cd_isi (cs := KC) T.kit) (T.free 3) bt_isinstance (As.cons (Ex.var 0) (As.cons (Ex.tyB (n := .tup) (T.free 90) bt_tuple) As.nil))) (Ex.one (Ex.cmp (op_eqD (u64 hr)) od_eq (Ex.callBS call_len_seq cs_len (T.free 86) bt_len (Se.of (Ex.var 0))) Ex.int)))))⟩
theorem okAt_is_pair (T : Tx K mg) : FnOk P w K mg base (L2.CX P w) 1 (He.fAd K ("is_pair", none)) (T.fd 8 rfl) ["thing"] (spM K 1 f_is_pair) := ok_is_pair T (T.fun 8 rfl)
theorem bd_is_pair (T : Tx K mg) : Binds K (T.fd 8 rfl) ["thing"] [] := bn_is_pair (T.fun 8 rfl)
/-! is_wire_pair -/
theorem sc_is_wire_pair : FnScope ["many", "thing", "machine"] ["many", "thing"] (defScope s_is_wire_pair) := ⟨rfl, rfl, rfl, by decide +kernel, rfl, by decide +kernel, by decide +kernel⟩
theorem bn_is_wire_pair {f : Addr} {fd : FuncData} (F : FunD K "is_wire_pair" "is_wire_pair" (defArgs s_is_wire_pair) (defBody s_is_wire_pair) (defScope s_is_wire_pair) [] [] f fd) : Binds K fd ["many", "thing"] [] := F.bindsN fun _ _ _ _ _ _ us hl => match us, hl with | [_, _], _ => rfl
def n_is_wire_pair : N := (sq (nIf (mOr (mNot (mB (mFn f_is_pair (mCons (mV 1) mNil)))) (mNot (mB (mCall allS (mList (mFz (mLcN (mSeq (mV 1)) [2] (bN 2) mYes (mFn f_is_within (mCons (mV 2) (mCons (mC (.int 0)) (mCons (mBin subD (mV 0) (mC (.int 1))) mNil))))))))))) (nRet (mC (.bl false))) nNx) (nRet (mBin neD (mBin ixD (mV 1) (mC (.int 0))) (mBin ixD (mV 1) (mC (.int 1))))))
def f_is_wire_pair : Fn := runFn 3 [] n_is_wire_pair
theorem ok_is_wire_pair (T : Tx K mg) {f : Addr} {fd : FuncData} (F : FunD K "is_wire_pair" "is_wire_pair" (defArgs s_is_wire_pair) (defBody s_is_wire_pair) (defScope s_is_wire_pair) [] [] f fd) : FnOk P w K mg base (L2.CX P w) 3 f fd ["many", "thing"] (spM K 2 f_is_wire_pair) :=
  fn_ok F sc_is_wire_pair fun cdv A outer s H E hr W tk => ⟨_, (Sms.cons (Sm.if_ (Tw.tst (Tw.or (Te.not (Te.val (Ex.fn (okAt_is_pair T) tk (hr.mono (by decide)) (T.glo 94) (T.keep 95) (bd_is_pair T) (As.cons (Ex.var 1) As.nil)))) (Tw.or1 (Te.not (Te.val (Ex.callBL (cr_all rfl) cl_all (T.free 2) bt_all (Li.of (Ex.fz (Nw.lcE rfl sc_is_wire_pair.nd (Src.seq (Ex.var 1)) (own := [("machine", 2)]) (by exact blkOk_by rfl) (by exact fun _ _ _ _ _ => ⟨_, (Tg.name 2 sc_is_wire_pair.nd)⟩) (by exact fun _ _ _ _ _ => ⟨_, Ts.nil⟩) (by exact fun _ _ _ _ _ => ⟨_, (Ex.fn (okAt_is_within T) takesF (hr.mono (by decide)) (T.glo 92) (T.keep 93) (bd_is_within T) (As.cons (Ex.var 2) (As.cons Ex.int (As.cons (Ex.bin op_sub od_sub (Ex.var 0) Ex.int) As.nil))))⟩) (by decide)))))))))) (Sms.one (Sm.ret Ex.bl)) Sms.nil) (Sms.one (Sm.ret (Ex.cmp (op_neD (u64 hr)) od_ne (Ex.ix ix_seq od_ix (Ex.var 1) Ex.int) (Ex.ix ix_seq od_ix (Ex.var 1) Ex.int)))))⟩
theorem okAt_is_wire_pair (T : Tx K mg) : FnOk P w K mg base (L2.CX P w) 3 (He.fAd K ("is_wire_pair", none)) (T.fd 9 rfl) ["many", "thing"] (spM K 2 f_is_wire_pair) := ok_is_wire_pair T (T.fun 9 rfl)
theorem bd_is_wire_pair (T : Tx K mg) : Binds K (T.fd 9 rfl) ["many", "thing"] [] := bn_is_wire_pair (T.fun 9 rfl)
/-! Web.__init__ -/
theorem sc_Web___init__ : FnScope ["self", "machines", "wires", "at", "wire"] ["self", "machines", "wires"] (defScope s_Web___init__) := ⟨rfl, rfl, rfl, by decide +kernel, rfl, by decide +kernel, by decide +kernel⟩
theorem bn_Web___init__ {f : Addr} {fd : FuncData} (F : FunD K "__init__" "Web.__init__" (defArgs s_Web___init__) (defBody s_Web___init__) (defScope s_Web___init__) [] [] f fd) : Binds K fd ["self", "machines", "wires"] [] := F.bindsN fun _ _ _ _ _ _ us hl => match us, hl with | [_, _, _], _ => rfl
def n_Web___init__ : N := (sq (nIf (mNot (mB (mFn f_is_within (mCons (mV 1) (mCons (mC (.int 1)) (mCons (mC (.int 7)) mNil)))))) (nRaise 17 [8] (mCons (mC (.str "machines")) mNil)) nNx) (sq (nIf (mNot (mB (mCall (isiC KC) (mCons (mV 2) (mCons (mC (.ty .tup)) mNil))))) (nRaise 17 [8] (mCons (mC (.str "wires")) mNil)) nNx) (sq (nFor (mEnum (mV 2)) (bT [(bN 3), (bN 4)]) (nIf (mOr (mNot (mB (mFn f_is_wire_pair (mCons (mV 1) (mCons (mV 4) mNil))))) (mAnd (mB (mBin gtD (mV 3) (mC (.int 0)))) (mNot (mB (mBin ltD (mBin ixD (mV 2) (mBin subD (mV 3) (mC (.int 1)))) (mV 4)))))) (nRaise 17 [8] (mCons (mV 3) mNil)) nNx)) (nDrop (mMethO f_Web_keep 0 0 0 (mCons (mV 1) (mCons (mV 2) mNil)))))))
def f_Web___init__ : Fn := runFn 5 [0] n_Web___init__
theorem ok_Web___init__ (T : Tx K mg) {f : Addr} {fd : FuncData} (F : FunD K "__init__" "Web.__init__" (defArgs s_Web___init__) (defBody s_Web___init__) (defScope s_Web___init__) [] [] f fd) : FnOk P w K mg base (L2.CX P w) 4 f fd ["self", "machines", "wires"] (spM K 3 f_Web___init__) :=
  fn_ok F sc_Web___init__ fun cdv A outer s H E hr W tk => ⟨_, (Sms.cons (Sm.if_ (Te.not (Te.val (Ex.fn (okAt_is_within T) tk (hr.mono (by decide)) (T.glo 92) (T.keep 93) (bd_is_within T) (As.cons (Ex.var 1) (As.cons Ex.int (As.cons (Ex.globI (T.int 91)) As.nil)))))) (Sms.one (Sm.raise 17 [8] (T.oex 3) (T.meth 38) (okX_BadWeb T) tk (hr.mono (by decide)) (T.glo 30) (bdX_BadWeb T) (As.cons Ex.str As.nil))) Sms.nil) (Sms.cons (Sm.if_ (Te.not (Te.val (Ex.callB call_isi (cd_isi (cs := KC) T.kit) (T.free 3) bt_isinstance (As.cons (Ex.var 2) (As.cons (Ex.tyB (n := .tup) (T.free 90) bt_tuple) As.nil))))) (Sms.one (Sm.raise 17 [8] (T.oex 3) (T.meth 38) (okX_BadWeb T) tk (hr.mono (by decide)) (T.glo 30) (bdX_BadWeb T) (As.cons Ex.str As.nil))) Sms.nil) (Sms.cons (Sm.for_ (passes_of rfl) rfl (Src.enum (T.free 7) (Ex.var 2)) (Tg.tup rfl (Tgs.cons (Tg.name 3 sc_Web___init__.nd) (Tgs.cons (Tg.name 4 sc_Web___init__.nd) Tgs.nil))) (Sms.one (Sm.if_ (Tw.tst (Tw.or (Te.not (Te.val (Ex.fn (okAt_is_wire_pair T) tk (hr.mono (by decide)) (T.glo 88) (T.keep 89) (bd_is_wire_pair T) (As.cons (Ex.var 1) (As.cons (Ex.var 4) As.nil))))) (Tw.or1 (Tw.tst (Tw.and (Te.cmp op_gt od_gt (Ex.var 3) Ex.int) (Tw.and1 (Te.not (Te.cmp op_lt od_lt (Ex.ix ix_seq od_ix (Ex.var 2) (Ex.bin op_sub od_sub (Ex.var 3) Ex.int)) (Ex.var 4))))))))) (Sms.one (Sm.raise 17 [8] (T.oex 3) (T.meth 38) (okX_BadWeb T) tk (hr.mono (by decide)) (T.glo 30) (bdX_BadWeb T) (As.cons (Ex.var 3) As.nil))) Sms.nil))) (Sms.one (Sm.expr (Ex.methO (n := 2) 0 0 (okAt_Web_keep T) tk (hr.mono (by decide)) (T.cls 22) (T.meth 87) (bd_Web_keep T) (As.cons (Ex.var 1) (As.cons (Ex.var 2) As.nil))))))))⟩
theorem okAt_Web___init__ (T : Tx K mg) : FnOk P w K mg base (L2.CX P w) 4 (He.fAd K ("Web", some "__init__")) (T.fd 13 rfl) ["self", "machines", "wires"] (spM K 3 f_Web___init__) := ok_Web___init__ T (T.fun 13 rfl)
theorem bd_Web___init__ (T : Tx K mg) : Binds K (T.fd 13 rfl) ["self", "machines", "wires"] [] := bn_Web___init__ (T.fun 13 rfl)
/-! _law_hand -/
theorem sc__law_hand : FnScope ["_law_script", "_law_cells", "_law_cell"] ["_law_script"] (defScope s__law_hand) := ⟨rfl, rfl, rfl, by decide +kernel, rfl, by decide +kernel, by decide +kernel⟩
theorem bn__law_hand {f : Addr} {fd : FuncData} (F : FunD K "_law_hand" "_law_hand" (defArgs s__law_hand) (defBody s__law_hand) (defScope s__law_hand) [] [] f fd) : Binds K fd ["_law_script"] [] := F.bindsN fun _ _ _ _ _ _ us hl => match us, hl with | [_], _ => rfl
def n__law_hand : N := (sq (nSet 1 (mFz (mLcN (mSeq (mCut (mV 0) mNo (mPart (mC (.int 63))))) [2] (bN 2) mYes (mCall absC (mCons (mCall intC (mCons (mV 2) mNil)) mNil))))) (nRetT (mFlat (mCons (mV 1) (mCons (mC (.int 0)) (mCons (mC (.int 0)) (mCons (mBin addD (mC (.int 1)) (mCall lenS (mSeq (mV 1)))) (mCons (mC (.int 0)) mNil))))))))
def f__law_hand : Fn := runFn 3 [] n__law_hand
theorem ok__law_hand (T : Tx K mg) {f : Addr} {fd : FuncData} (F : FunD K "_law_hand" "_law_hand" (defArgs s__law_hand) (defBody s__law_hand) (defScope s__law_hand) [] [] f fd) : FnOk P w K mg base (L2.CX P w) 1 f fd ["_law_script"] (spM K 1 f__law_hand) :=
  fn_ok F sc__law_hand fun cdv A outer s H E hr W tk => ⟨_, (Sms.cons (Sm.setLcE 1 rfl sc__law_hand.nd (Src.seq (Ex.cut (Ex.var 0) Po.no (Po.part Ex.int))) (own := [("_law_cell", 2)]) (by exact blkOk_by rfl) (by exact fun _ _ _ _ _ => ⟨_, (Tg.name 2 sc__law_hand.nd)⟩) (by exact fun _ _ _ _ _ => ⟨_, Ts.nil⟩) (by exact fun _ _ _ _ _ => ⟨_, (Ex.callB call_abs cd_abs (T.free 98) bt_abs (As.cons (Ex.callTy call_int1 cd_int (T.free 85) bt_int (As.cons (Ex.var 2) As.nil)) As.nil))⟩) (by decide)) (Sms.one (Sm.retT (Ot.nw (Nw.lst (As.cons (Ex.var 1) (As.cons Ex.int (As.cons Ex.int (As.cons (Ex.bin op_addAll od_add Ex.int (Ex.callBS call_len_seq cs_len (T.free 86) bt_len (Se.of (Ex.var 1)))) (As.cons Ex.int As.nil))))))))))⟩
theorem okAt__law_hand (T : Tx K mg) : FnOk P w K mg base (L2.CX P w) 1 (He.fAd K ("_law_hand", none)) (T.fd 10 rfl) ["_law_script"] (spM K 1 f__law_hand) := ok__law_hand T (T.fun 10 rfl)
theorem bd__law_hand (T : Tx K mg) : Binds K (T.fd 10 rfl) ["_law_script"] [] := bn__law_hand (T.fun 10 rfl)
/-! law -/
theorem sc_law : FnScope ["_law_script", "_law_hand_here", "_law_turn", "_law_things", "_law_errors", "_law_fields", "_law_thing", "_law_other", "_law_at", "_law_error", "_law_flags", "_law_which", "_law_field"] ["_law_script"] (defScope s_law) := ⟨rfl, rfl, rfl, by decide +kernel, rfl, by decide +kernel, by decide +kernel⟩
theorem bn_law {f : Addr} {fd : FuncData} (F : FunD K "law" "law" (defArgs s_law) (defBody s_law) (defScope s_law) [] [] f fd) : Binds K fd ["_law_script"] [] := F.bindsN fun _ _ _ _ _ _ us hl => match us, hl with | [_], _ => rfl
def n_law : N := (sq (nSetT 1 (mFnT f__law_hand (mCons (mV 0) mNil))) (sq (nFor (mRng (mCons (mC (.int 2)) mNil)) (bN 2) (sq (nSet 3 (mLst (mCons (mC .non) (mCons (mNeg (mC (.int 1))) (mCons (mC (.bl true)) (mCons (mC (.str "part")) (mCons (mTup (mCons (mC (.int 0)) (mCons (mC (.str "a")) mNil))) (mCons (mLst (mCons (mC (.int 0)) mNil)) (mCons (mDict1 (mC (.int 0)) (mC (.str "a"))) (mCons (mBin powD (mC (.int 10)) (mC (.int 30))) (mCons (mMake 0 f_Web___init__ (mCons (mC (.int 2)) (mCons (mTup (mCons (mTup (mCons (mC (.int 0)) (mCons (mC (.int 1)) mNil))) mNil)) mNil))) (mCons (mFnO f__law_deep 1 mNil) mNil)))))))))))) (sq (nAsg (bT [(bN 6), (bN 7)]) (mTup (mCons (mBin ixD (mV 3) (mFnO f__law_draw 1 (mCons (mC (.int 10)) mNil))) (mCons (mBin ixD (mV 3) (mFnO f__law_draw 1 (mCons (mC (.int 10)) mNil))) mNil)))) (sq (nSet 4 (mFn f__law_all (mCons (mV 6) (mCons (mV 7) mNil)))) (sq (nFor (mEnum (mV 4)) (bT [(bN 8), (bN 9)]) (sq (nSet 10 (mFn f__law_of (mCons (mV 9) mNil))) (sq (nIf (mOr (mB (mBin neD (mLM cntD (mV 10) (mC (.bl true))) (mC (.int 1)))) (mB (mBin neD (mLM fidxD (mV 10) (mC (.bl true))) (mV 8)))) (nRet (mC (.bl false))) nNx) (nIf (mOr (mNot (mB (mCall (isxC KX) (mCons (mV 9) (mCons (mC (.cls 16)) mNil))))) (mNot (mB (mIsVE KX (mV 9))))) (nRet (mC (.bl false))) nNx)))) (sq (nIf (mNot (mB (mCall allS (mList (mFz (mLcN (mRng (mCons (mC (.int 6)) mNil)) [11] (bN 11) mYes (mFn f__law_caught (mCons (mV 11) (mCons (mV 6) mNil))))))))) (nRet (mC (.bl false))) nNx) (sq (nSet 5 (mLst (mCons (mXf 8 KX (mBin ixD (mV 4) (mC (.int 0)))) (mCons (mXf 8 KX (mBin ixD (mV 4) (mC (.int 1)))) (mCons (mXf 10 KX (mBin ixD (mV 4) (mC (.int 2)))) (mCons (mXf 11 KX (mBin ixD (mV 4) (mC (.int 3)))) (mCons (mXf 12 KX (mBin ixD (mV 4) (mC (.int 4)))) (mCons (mXf 13 KX (mBin ixD (mV 4) (mC (.int 5)))) mNil)))))))) (sq (nSet 5 (mBin addD (mV 5) (mLst (mCons (mXf 14 KX (mBin ixD (mV 4) (mC (.int 6)))) (mCons (mXf 8 KX (mBin ixD (mV 4) (mC (.int 7)))) (mCons (mXf 8 KX (mBin ixD (mV 4) (mC (.int 8)))) mNil)))))) (sq (nIf (mNot (mB (mCall allS (mList (mFz (mLcN (mSeq (mV 5)) [12] (bN 12) mYes (mAndV (mBin (eqY [0] f_Web___eq__) (mV 12) (mV 6)) (mBin (eqY [0] f_Web___eq__) (mCall (isiC KC) (mCons (mV 12) (mCons (mC (.ty .bl)) mNil))) (mCall (isiC KC) (mCons (mV 6) (mCons (mC (.ty .bl)) mNil))))))))))) (nRet (mC (.bl false))) nNx) (nIf (mOr (mB (mBin (neY [0] f_Web___eq__) (mXf 9 KX (mBin ixD (mV 4) (mC (.int 7)))) (mV 7))) (mB (mBin (neY [0] f_Web___eq__) (mXf 9 KX (mBin ixD (mV 4) (mC (.int 8)))) (mV 7)))) (nRet (mC (.bl false))) nNx)))))))))) (nRet (mC (.bl true)))))
def f_law : Fn := runFn 13 [] n_law
theorem ok_law (T : Tx K mg) {f : Addr} {fd : FuncData} (F : FunD K "law" "law" (defArgs s_law) (defBody s_law) (defScope s_law) [] [] f fd) : FnOk P w K mg base (L2.CX P w) 6 f fd ["_law_script"] (spM K 1 f_law) :=
  fn_ok F sc_law fun cdv A outer s H E hr W tk => ⟨_, (Sms.cons (Sm.setT 1 sc_law.nd (Ot.fn (okAt__law_hand T) tk (hr.mono (by decide)) (T.glo 20) (T.keep 21) (bd__law_hand T) (As.cons (Ex.var 0) As.nil))) (Sms.cons (Sm.for_ (passes_of rfl) rfl (Src.range1 (T.free 0) (As.cons Ex.int As.nil)) (Tg.name 2 sc_law.nd) (Sms.cons (Sm.set 3 sc_law.nd (Ex.lst (As.cons Ex.non (As.cons (Ex.neg Ex.int) (As.cons Ex.bl (As.cons Ex.str (As.cons (Ex.tup (As.cons Ex.int (As.cons Ex.str As.nil))) (As.cons (Ex.lst (As.cons Ex.int As.nil)) (As.cons (Ex.dict1 Ex.int Ex.str) (As.cons (Ex.bin op_pow od_pow Ex.int Ex.int) (As.cons (Ex.make (n := 2) 0 (T.mkr 18) (okAt_Web___init__ T) tk (hr.mono (by decide)) (T.glo 19) (bd_Web___init__ T) (As.cons Ex.int (As.cons (Ex.tup (As.cons (Ex.tup (As.cons Ex.int (As.cons Ex.int As.nil))) As.nil)) As.nil))) (As.cons (Ex.fnO (n := 0) 1 (okAt__law_deep T) tk (hr.mono (by decide)) (T.glo 16) (T.keep 17) (bd__law_deep T) As.nil) As.nil)))))))))))) (Sms.cons (Sm.asg (Ex.tup (As.cons (Ex.ix ix_seq od_ix (Ex.var 3) (Ex.fnO (n := 1) 1 (okAt__law_draw T) tk (hr.mono (by decide)) (T.glo 14) (T.keep 15) (bd__law_draw T) (As.cons Ex.int As.nil))) (As.cons (Ex.ix ix_seq od_ix (Ex.var 3) (Ex.fnO (n := 1) 1 (okAt__law_draw T) tk (hr.mono (by decide)) (T.glo 14) (T.keep 15) (bd__law_draw T) (As.cons Ex.int As.nil))) As.nil))) (Tg.tup rfl (Tgs.cons (Tg.name 6 sc_law.nd) (Tgs.cons (Tg.name 7 sc_law.nd) Tgs.nil)))) (Sms.cons (Sm.set 4 sc_law.nd (Ex.fn (okAt__law_all T) tk (hr.mono (by decide)) (T.glo 12) (T.keep 13) (bd__law_all T) (As.cons (Ex.var 6) (As.cons (Ex.var 7) As.nil)))) (Sms.cons (Sm.for_ (passes_of rfl) rfl (Src.enum (T.free 7) (Ex.var 4)) (Tg.tup rfl (Tgs.cons (Tg.name 8 sc_law.nd) (Tgs.cons (Tg.name 9 sc_law.nd) Tgs.nil))) (Sms.cons (Sm.set 10 sc_law.nd (Ex.fn (okAt__law_of T) tk (hr.mono (by decide)) (T.glo 10) (T.keep 11) (bd__law_of T) (As.cons (Ex.var 9) As.nil))) (Sms.cons (Sm.if_ (Tw.tst (Tw.or (Te.cmp (op_neD (u64 hr)) od_ne (Ex.lcnt (Ex.var 10) Ex.bl) Ex.int) (Tw.or1 (Te.cmp (op_neD (u64 hr)) od_ne (Ex.lidx (Ex.var 10) Ex.bl) (Ex.var 8))))) (Sms.one (Sm.ret Ex.bl)) Sms.nil) (Sms.one (Sm.if_ (Tw.tst (Tw.or (Te.not (Te.val (Ex.callB call_isX (cd_isx (cs := KX) T.xc) (T.free 3) bt_isinstance (As.cons (Ex.var 9) (As.cons (Ex.clsG (c := 16) (T.glo 9)) As.nil))))) (Tw.or1 (Te.not (Te.val (Ex.isVE (cs := KX) T.xc (T.free 3) (T.free 8) bt_isinstance bt_ValueError (Ex.var 9))))))) (Sms.one (Sm.ret Ex.bl)) Sms.nil))))) (Sms.cons (Sm.if_ (Te.not (Te.val (Ex.callBL (cr_all rfl) cl_all (T.free 2) bt_all (Li.of (Ex.fz (Nw.lcE rfl sc_law.nd (Src.range1 (T.free 0) (As.cons Ex.int As.nil)) (own := [("_law_which", 11)]) (by exact blkOk_by rfl) (by exact fun _ _ _ _ _ => ⟨_, (Tg.name 11 sc_law.nd)⟩) (by exact fun _ _ _ _ _ => ⟨_, Ts.nil⟩) (by exact fun _ _ _ _ _ => ⟨_, (Ex.fn (okAt__law_caught T) takesF (hr.mono (by decide)) (T.glo 5) (T.keep 6) (bd__law_caught T) (As.cons (Ex.var 11) (As.cons (Ex.var 6) As.nil)))⟩) (by decide))))))) (Sms.one (Sm.ret Ex.bl)) Sms.nil) (Sms.cons (Sm.set 5 sc_law.nd (Ex.lst (As.cons (Ex.xfld (cs := KX) 8 T.xc (Ex.ix ix_seq od_ix (Ex.var 4) Ex.int)) (As.cons (Ex.xfld (cs := KX) 8 T.xc (Ex.ix ix_seq od_ix (Ex.var 4) Ex.int)) (As.cons (Ex.xfld (cs := KX) 10 T.xc (Ex.ix ix_seq od_ix (Ex.var 4) Ex.int)) (As.cons (Ex.xfld (cs := KX) 11 T.xc (Ex.ix ix_seq od_ix (Ex.var 4) Ex.int)) (As.cons (Ex.xfld (cs := KX) 12 T.xc (Ex.ix ix_seq od_ix (Ex.var 4) Ex.int)) (As.cons (Ex.xfld (cs := KX) 13 T.xc (Ex.ix ix_seq od_ix (Ex.var 4) Ex.int)) As.nil)))))))) (Sms.cons (Sm.set 5 sc_law.nd (Ex.bin op_addAll od_add (Ex.var 5) (Ex.lst (As.cons (Ex.xfld (cs := KX) 14 T.xc (Ex.ix ix_seq od_ix (Ex.var 4) Ex.int)) (As.cons (Ex.xfld (cs := KX) 8 T.xc (Ex.ix ix_seq od_ix (Ex.var 4) Ex.int)) (As.cons (Ex.xfld (cs := KX) 8 T.xc (Ex.ix ix_seq od_ix (Ex.var 4) Ex.int)) As.nil)))))) (Sms.cons (Sm.if_ (Te.not (Te.val (Ex.callBL (cr_all rfl) cl_all (T.free 2) bt_all (Li.of (Ex.fz (Nw.lcE rfl sc_law.nd (Src.seq (Ex.var 5)) (own := [("_law_field", 12)]) (by exact blkOk_by rfl) (by exact fun _ _ _ _ _ => ⟨_, (Tg.name 12 sc_law.nd)⟩) (by exact fun _ _ _ _ _ => ⟨_, Ts.nil⟩) (by exact fun _ _ _ _ _ => ⟨_, (Ex.and (Ex.cmp (op_eqY (cs := [0]) (u64 hr) (T.kie 0) (by simp only [List.forall_mem_cons, List.not_mem_nil, false_implies, implies_true, and_true]; exact ⟨_, _, _, _, okAt_Web___eq__ T, T.meth 1, bd_Web___eq__ T, hr.mono (by decide)⟩)) od_eqY (Ex.var 12) (Ex.var 6)) (Ex.one (Ex.cmp (op_eqY (cs := [0]) (u64 hr) (T.kie 0) (by simp only [List.forall_mem_cons, List.not_mem_nil, false_implies, implies_true, and_true]; exact ⟨_, _, _, _, okAt_Web___eq__ T, T.meth 1, bd_Web___eq__ T, hr.mono (by decide)⟩)) od_eqY (Ex.callB call_isi (cd_isi (cs := KC) T.kit) (T.free 3) bt_isinstance (As.cons (Ex.var 12) (As.cons (Ex.tyB (n := .bl) (T.free 4) bt_bool) As.nil))) (Ex.callB call_isi (cd_isi (cs := KC) T.kit) (T.free 3) bt_isinstance (As.cons (Ex.var 6) (As.cons (Ex.tyB (n := .bl) (T.free 4) bt_bool) As.nil))))))⟩) (by decide))))))) (Sms.one (Sm.ret Ex.bl)) Sms.nil) (Sms.one (Sm.if_ (Tw.tst (Tw.or (Te.cmp (op_neY (cs := [0]) (u64 hr) (T.kie 0) (by simp only [List.forall_mem_cons, List.not_mem_nil, false_implies, implies_true, and_true]; exact ⟨_, _, _, _, okAt_Web___eq__ T, T.meth 1, bd_Web___eq__ T, hr.mono (by decide)⟩)) od_neY (Ex.xfld (cs := KX) 9 T.xc (Ex.ix ix_seq od_ix (Ex.var 4) Ex.int)) (Ex.var 7)) (Tw.or1 (Te.cmp (op_neY (cs := [0]) (u64 hr) (T.kie 0) (by simp only [List.forall_mem_cons, List.not_mem_nil, false_implies, implies_true, and_true]; exact ⟨_, _, _, _, okAt_Web___eq__ T, T.meth 1, bd_Web___eq__ T, hr.mono (by decide)⟩)) od_neY (Ex.xfld (cs := KX) 9 T.xc (Ex.ix ix_seq od_ix (Ex.var 4) Ex.int)) (Ex.var 7))))) (Sms.one (Sm.ret Ex.bl)) Sms.nil))))))))))) (Sms.one (Sm.ret Ex.bl))))⟩
theorem okAt_law (T : Tx K mg) : FnOk P w K mg base (L2.CX P w) 6 (He.fAd K ("law", none)) (T.fd 11 rfl) ["_law_script"] (spM K 1 f_law) := ok_law T (T.fun 11 rfl)
theorem bd_law (T : Tx K mg) : Binds K (T.fd 11 rfl) ["_law_script"] [] := bn_law (T.fun 11 rfl)
end
end K00

namespace K00
open MX
open L2 (atI ixN)
def handT (cells : List Int) (i v m c : Int) : T := .lst [.im (.lst (cells.map .int)), .im (.int i), .im (.int v), .im (.int m), .im (.int c)]
def Hd (t : T) : Prop := ∃ cells i v m c, t = handT cells i v m c ∧ (∀ x ∈ cells, 0 ≤ x) ∧ 0 ≤ i ∧ 0 ≤ v
abbrev dA : N := nIf (mAnd (mB (mBin eqD (mIxO 0 (mC (.int 2))) (mC (.int 0)))) (mB (mBin ltD (mIxO 0 (mC (.int 1))) (mCall lenS (mSeq (mIxO 0 (mC (.int 0)))))))) (sq (nSet 3 (mBin ixD (mIxO 0 (mC (.int 0))) (mIxO 0 (mC (.int 1))))) (sq (nPutIx 0 (mBin addD (mIxO 0 (mC (.int 1))) (mC (.int 1))) (mC (.int 1))) (sq (nPutIx 0 (mBin modD (mCall intC (mCons (mBin addD (mBin addD (mBin mulD (mIxO 0 (mC (.int 3))) (mC (.int 69621))) (mV 3)) (mC (.int 11))) mNil)) (mC (.int 2147483629))) (mC (.int 3))) (nIf (mB (mBin geD (mV 3) (mBin powD (mC (.int 10)) (mC (.int 18))))) (nPutIx 0 (mV 3) (mC (.int 2))) nNx)))) nNx
abbrev dB : N := nIf (mB (mBin gtD (mIxO 0 (mC (.int 2))) (mC (.int 0)))) (sq (nSet 4 (mBin modD (mCall intC (mCons (mIxO 0 (mC (.int 2))) mNil)) (mV 1))) (sq (nPutIx 0 (mBin divD (mIxO 0 (mC (.int 2))) (mV 1)) (mC (.int 2))) (nRet (mV 4)))) nNx
abbrev dC : N := (sq (nPutIx 0 (mBin addD (mIxO 0 (mC (.int 4))) (mC (.int 1))) (mC (.int 4))) (sq (nSet 2 (mBin modD (mCall intC (mCons (mBin mulD (mCall intC (mCons (mBin addD (mIxO 0 (mC (.int 3))) (mBin mulD (mC (.int 7919)) (mIxO 0 (mC (.int 4))))) mNil)) (mC (.int 48271))) mNil)) (mC (.int 2147483647)))) (sq (nSet 2 (mBin modD (mCall intC (mCons (mBin mulD (mV 2) (mBin addD (mBin divD (mV 2) (mC (.int 1009))) (mC (.int 69621)))) mNil)) (mC (.int 2147483647)))) (sq (nSet 2 (mBin modD (mCall intC (mCons (mBin mulD (mV 2) (mBin addD (mBin divD (mV 2) (mC (.int 2003))) (mC (.int 40692)))) mNil)) (mC (.int 2147483399)))) (nRet (mBin modD (mCall intC (mCons (mBin divD (mV 2) (mC (.int 16))) mNil)) (mV 1)))))))
theorem mulOk_l {a b : Int} (h : -(2 ^ 64) < a ∧ a < 2 ^ 64) : mulOk a b = true := by simp only [mulOk, decide_eq_true h.1, decide_eq_true h.2]; rfl
theorem mulOk_r {a b : Int} (h : -(2 ^ 64) < b ∧ b < 2 ^ 64) : mulOk a b = true := by simp only [mulOk, decide_eq_true h.1, decide_eq_true h.2]; simp
theorem l5 {α : Type} (a b c d e : α) : atI [a, b, c, d, e] 0 = some a ∧ atI [a, b, c, d, e] 1 = some b ∧ atI [a, b, c, d, e] 2 = some c ∧ atI [a, b, c, d, e] 3 = some d ∧ atI [a, b, c, d, e] 4 = some e := ⟨rfl, rfl, rfl, rfl, rfl⟩
theorem i5 : ixN 5 1 = some 1 ∧ ixN 5 2 = some 2 ∧ ixN 5 3 = some 3 ∧ ixN 5 4 = some 4 := ⟨rfl, rfl, rfl, rfl⟩
theorem own5 (cells : List Int) (i v m c : Int) : imAll [.im (.lst (cells.map .int)), .im (.int i), .im (.int v), .im (.int m), .im (.int c)] = some [.lst (cells.map .int), .int i, .int v, .int m, .int c] := rfl
theorem e_dA {cells : List Int} {i v m c : Int} (hc : ∀ x ∈ cells, 0 ≤ x) (hi : 0 ≤ i) (hv : 0 ≤ v) (many : D) : ∃ i' v' m' s, dA [some (handT cells i v m c), some (.im many), none, none, none] = some (.nx, [some (handT cells i' v' m' c), some (.im many), none, s, none]) ∧ 0 ≤ i' ∧ 0 ≤ v' := by
  by_cases h1 : v = 0
  · subst h1
    by_cases h2 : i < (cells.length : Int)
    · obtain ⟨k, rfl⟩ : ∃ k : Nat, i = (k : Int) := ⟨i.toNat, by omega⟩
      have hk : k < cells.length := by omega
      have e1 : atI (cells.map D.int) (k : Int) = some (.int cells[k]) := by
        rw [atI_nat _ k (by simpa using hk), List.getElem_map]
      have m1 : mulOk m 69621 = true := mulOk_r (by decide)
      have c0 := hc _ (List.getElem_mem hk)
      by_cases h3 : (1000000000000000000 : Int) ≤ cells[k]
      · refine ⟨(k : Int) + 1, cells[k], (m * 69621 + cells[k] + 11) % 2147483629, some (.im (.int cells[k])), ?_, by omega, c0⟩
        simp [-List.map_map, handT, own5, l5, i5, e1, h2, h3, m1]
      · refine ⟨(k : Int) + 1, 0, (m * 69621 + cells[k] + 11) % 2147483629, some (.im (.int cells[k])), ?_, by omega, by omega⟩
        simp [-List.map_map, handT, own5, l5, i5, e1, h2, h3, m1]
    · refine ⟨i, 0, m, none, ?_, hi, hv⟩
      simp [-List.map_map, handT, own5, l5, i5, h2]
  · refine ⟨i, v, m, none, ?_, hi, hv⟩
    simp [-List.map_map, handT, own5, l5, i5, h1]
theorem e_dB1 {cells : List Int} {i v m c many : Int} (hv : 0 < v) (h1 : 1 ≤ many) (h2 : many ≤ 1000000) (s : Option T) : dB [some (handT cells i v m c), some (.im (.int many)), none, s, none] = some (.rt (.im (.int (v % many))), [some (handT cells i (v / many) m c), some (.im (.int many)), none, s, some (.im (.int (v % many)))]) := by
  have a1 : (0 : Int) < many := by omega
  have a2 : many < 1073741824 := by omega
  simp [-List.map_map, handT, own5, l5, i5, hv, a1, a2]
theorem e_dB0 {cells : List Int} {i v m c many : Int} (hv : ¬ 0 < v) (s : Option T) : dB [some (handT cells i v m c), some (.im (.int many)), none, s, none] = some (.nx, [some (handT cells i v m c), some (.im (.int many)), none, s, none]) := by
  simp [-List.map_map, handT, own5, l5, i5, hv]
theorem e_dC {cells : List Int} {i v m c many : Int} (h1 : 1 ≤ many) (s : Option T) : ∃ r x, dC [some (handT cells i v m c), some (.im (.int many)), none, s, none] = some (.rt (.im (.int r)), [some (handT cells i v m (c + 1)), some (.im (.int many)), x, s, none]) ∧ 0 ≤ r ∧ r < many := by
  have a1 : (0 : Int) < many := by omega
  have m1 : mulOk 7919 (c + 1) = true := mulOk_l (by decide)
  have m2 : mulOk (m + 7919 * (c + 1)) 48271 = true := mulOk_r (by decide)
  have b1 := Int.emod_nonneg ((m + 7919 * (c + 1)) * 48271) (b := 2147483647) (by decide)
  have b2 := Int.emod_lt_of_pos ((m + 7919 * (c + 1)) * 48271) (b := 2147483647) (by decide)
  generalize hx : (m + 7919 * (c + 1)) * 48271 % 2147483647 = x at b1 b2
  have m3 : mulOk x (x / 1009 + 69621) = true := mulOk_l (by omega)
  have d1 := Int.emod_nonneg (x * (x / 1009 + 69621)) (b := 2147483647) (by decide)
  have d2 := Int.emod_lt_of_pos (x * (x / 1009 + 69621)) (b := 2147483647) (by decide)
  generalize hy : x * (x / 1009 + 69621) % 2147483647 = y at d1 d2
  have m4 : mulOk y (y / 2003 + 40692) = true := mulOk_l (by omega)
  refine ⟨y * (y / 2003 + 40692) % 2147483399 / 16 % many, some (.im (.int (y * (y / 2003 + 40692) % 2147483399))), ?_, Int.emod_nonneg _ (by omega), Int.emod_lt_of_pos _ a1⟩
  simp [-List.map_map, handT, own5, l5, i5, m1, m2, hx, m3, hy, m4, a1]
theorem e_draw {t : T} (ht : Hd t) {many : Int} (h1 : 1 ≤ many) (h2 : many ≤ 1000000) : ∃ r t', f__law_draw [t, .im (.int many)] = some (.ok (.im (.int r)), [t', .im (.int many)]) ∧ (0 ≤ r ∧ r < many) ∧ Hd t' := by
  obtain ⟨cells, i, v, m, c, rfl, hc, hi, hv⟩ := ht
  obtain ⟨i', v', m', s, e1, hi', hv'⟩ := e_dA (m := m) (c := c) hc hi hv (.int many)
  show ∃ r t', endFn [0] _ (sq dA (sq dB dC) [some (handT cells i v m c), some (.im (.int many)), none, none, none]) = _ ∧ _ ∧ _
  rw [sq_nx e1]
  by_cases q : 0 < v'
  · rw [sq_rt (e_dB1 q h1 h2 s)]
    exact ⟨v' % many, handT cells i' (v' / many) m' c, rfl, ⟨Int.emod_nonneg _ (by omega), Int.emod_lt_of_pos _ (by omega)⟩, _, _, _, _, _, rfl, hc, hi', Int.ediv_nonneg hv' (by omega)⟩
  · rw [sq_nx (e_dB0 q s)]
    obtain ⟨r, x, e2, r1, r2⟩ := e_dC (cells := cells) (i := i') (v := v') (m := m') (c := c) h1 s
    rw [e2]
    exact ⟨r, handT cells i' v' m' (c + 1), rfl, ⟨r1, r2⟩, _, _, _, _, _, rfl, hc, hi', hv'⟩
theorem e_hand (ns : List Int) : ∃ t, f__law_hand [.im (.scr ns)] = some (.ok t, [.im (.scr ns)]) ∧ Hd t := by
  have e1 : cutD none (some 63) (.scr ns) = some (.lst ((cutL ns none (some 63)).map .int)) := rfl
  have h := lc_map D.int (fun x => .int (if x < 0 then -x else x)) (ms := mSeq (mCut (mV 0) mNo (mPart (mC (.int 63))))) (vs := [2]) (bd := bN 2) (me := mCall absC (mCons (mCall intC (mCons (mV 2) mNil)) mNil)) (ρ := [some (.im (.scr ns)), none, none]) (l := cutL ns none (some 63))
    (by simp [-List.map_map, e1]) (by intro v hv t; simp at hv; subst hv; simp)
    (fun x _ => ⟨[some (.im (.scr ns)), none, some (.im (.int x))], rfl, by simp, rfl⟩)
  have e2 : ((cutL ns none (some 63)).map fun x => D.int (if x < 0 then -x else x)) = ((cutL ns none (some 63)).map fun x : Int => if x < 0 then -x else x).map D.int := by rw [List.map_map]; rfl
  rw [e2] at h
  refine ⟨handT ((cutL ns none (some 63)).map fun x : Int => if x < 0 then -x else x) 0 0 (1 + ((((cutL ns none (some 63)).map fun x : Int => if x < 0 then -x else x).map D.int).length : Nat)) 0, ?_, _, _, _, _, _, rfl, fun x hx => ?_, by omega, by omega⟩
  · simp [-List.map_map, -List.length_map, f__law_hand, n__law_hand, h, handT]
  · obtain ⟨y, _, rfl⟩ := List.mem_map.mp hx
    split <;> omega
end K00

namespace K00
open MX
open L2 (atI ixN)
theorem dr {ρ : Env} {i : Nat} {t : T} {k : Int} {ms : M (List D)} (h : ρ[i]? = some (some t)) (ht : Hd t) (h1 : 1 ≤ k) (h2 : k ≤ 1000000) (hm : ms ρ = some (.ok [.int k], ρ)) : ∃ r t', mFnO f__law_draw i ms ρ = some (.ok (.int r), ρ.set i (some t')) ∧ (0 ≤ r ∧ r < k) ∧ Hd t' := by
  obtain ⟨r, t', e, hr, ht'⟩ := e_draw ht h1 h2
  refine ⟨r, t', ?_, hr, ht'⟩
  rw [mFnO_ev, ownA_ev, h]
  show bnd (ms ρ) (fun ds ρ1 => bnd (retO (ownA i ρ1) ρ1) fun t ρ2 => resO i (f__law_draw (t :: ds.map .im)) ρ2) = _
  rw [hm, bnd_some, ownA_ev, h]
  show resO i (f__law_draw [t, .im (.int k)]) ρ = _
  rw [e]; rfl
theorem atI_in {α : Type} {l : List α} {r : Int} (h0 : 0 ≤ r) (h1 : r < (l.length : Int)) : ∃ d, atI l r = some d ∧ d ∈ l := by
  obtain ⟨k, rfl⟩ : ∃ k : Nat, r = (k : Int) := ⟨r.toNat, by omega⟩
  have hk : k < l.length := by omega
  exact ⟨l[k], atI_nat l k hk, List.getElem_mem hk⟩
/-! ### things -/
structure Th (d : D) : Prop where
  eq : eqY [0] f_Web___eq__ d d = some (.bl true)
  ne : neY [0] f_Web___eq__ d d = some (.bl false)
  bl : ∃ b, isiC KC [d, .ty .bl] = some (.bl b)
theorem Th.co {d : D} (h : isCo d = true) (s : sameB 40 d d = true) : Th d := by
  have z : (isCo d && sameB 40 d d) = true := by rw [h, s]; rfl
  refine ⟨?_, ?_, ?_⟩
  · unfold eqY sameD
    rw [if_pos z]; rfl
  · unfold neY sameD
    rw [if_pos z]; rfl
  · cases d <;> first | exact ⟨_, rfl⟩ | cases h
def webT : D := .obj 0 [(0, .int 2), (1, .tup [.tup [.int 0, .int 1]])]
theorem th_non : Th .non := ⟨by kernel_rfl, by kernel_rfl, _, rfl⟩
theorem th_m1 : Th (.int (-1)) := ⟨by kernel_rfl, by kernel_rfl, _, rfl⟩
theorem th_big : Th (.int (10 ^ 30)) := ⟨by kernel_rfl, by kernel_rfl, _, rfl⟩
theorem th_true : Th (.bl true) := ⟨by kernel_rfl, by kernel_rfl, _, rfl⟩
theorem th_part : Th (.str "part") := ⟨by kernel_rfl, by kernel_rfl, _, rfl⟩
theorem th_a : Th (.str "a") := ⟨by kernel_rfl, by kernel_rfl, _, rfl⟩
theorem th_web : Th webT := ⟨by kernel_rfl, by kernel_rfl, _, rfl⟩
theorem th_tup : Th (.tup [.int 0, .str "a"]) := Th.co rfl (by kernel_rfl)
theorem th_lst : Th (.lst [.int 0]) := Th.co rfl (by kernel_rfl)
theorem th_dk : Th (.dk [(.inl 0, .str "a")]) := Th.co rfl (by kernel_rfl)
theorem e_web0 : f_Web___init__ [.obj 0 [], .im (.int 2), .im (.tup [.tup [.int 0, .int 1]])] = some (.ok (.im .non), [.obj 0 [(0, .im (.int 2)), (1, .im (.tup [.tup [.int 0, .int 1]]))], .im (.int 2), .im (.tup [.tup [.int 0, .int 1]])]) := by kernel_rfl
/-! ### deep things -/
def Jd (j : Nat) (d : D) : Prop := (∀ n, j < n → sameB n d d = true) ∧ (isCo d = true ∨ d = .non ∨ d = .str "a" ∨ d = .int (-1))
theorem Jd.th {j : Nat} {d : D} (h : Jd j d) (hj : j < 40) : Th d := by
  rcases h.2 with h2 | rfl | rfl | rfl
  · exact Th.co h2 (h.1 40 hj)
  · exact th_non
  · exact th_a
  · exact th_m1
theorem Jd.one {j : Nat} {d d' : D} (h : Jd j d) (hm : d' ∈ [D.tup [d], .lst [d], .tup [d], .dk [(.inl 0, d)]]) : Jd (j + 1) d' := by
  have co : isCo d' = true := by
    simp at hm
    rcases hm with rfl | rfl | rfl | rfl <;> rfl
  refine ⟨fun n hn => ?_, .inl co⟩
  obtain ⟨m, rfl⟩ : ∃ m, n = m + 1 := ⟨n - 1, by omega⟩
  have s := h.1 m (by omega)
  have a : allB2 (sameB m) [d] [d] = true := by
    show (sameB m d d && true) = true
    rw [s]; rfl
  simp at hm
  rcases hm with rfl | rfl | rfl | rfl
  · exact a
  · exact a
  · exact a
  · simp [sameB, allB2, s]
abbrev pBody : N := (nSet 1 (mBin ixD (mLst (mCons (mTup (mCons (mV 1) mNil)) (mCons (mLst (mCons (mV 1) mNil)) (mCons (mCut (mTup (mCons (mV 1) (mCons (mV 1) mNil))) mNo (mPart (mC (.int 1)))) (mCons (mDict1 (mC (.int 0)) (mV 1)) mNil))))) (mFnO f__law_draw 0 (mCons (mC (.int 4)) mNil))))
theorem e_pBody {t : T} {d : D} {o : Option T} {k : Nat} (ht : Hd t) (hd : Jd k d) : ∃ t' d', pBody [some t, some (.im d), o] = some (.nx, [some t', some (.im d'), o]) ∧ Hd t' ∧ Jd (k + 1) d' := by
  have items : (mCons (mTup (mCons (mV 1) mNil)) (mCons (mLst (mCons (mV 1) mNil)) (mCons (mCut (mTup (mCons (mV 1) (mCons (mV 1) mNil))) mNo (mPart (mC (.int 1)))) (mCons (mDict1 (mC (.int 0)) (mV 1)) mNil)))) [some t, some (.im d), o] = some (.ok [.tup [d], .lst [d], .tup [d], .dk [(.inl 0, d)]], [some t, some (.im d), o]) := rfl
  obtain ⟨r, t', e, hr, ht'⟩ := dr (ρ := [some t, some (.im d), o]) (i := 0) (ms := mCons (mC (.int 4)) mNil) rfl ht (by decide : (1 : Int) ≤ 4) (by decide) rfl
  obtain ⟨d', e2, hm⟩ := atI_in (l := [D.tup [d], .lst [d], .tup [d], .dk [(.inl 0, d)]]) hr.1 (by simpa using hr.2)
  refine ⟨t', d', ?_, ht', hd.one hm⟩
  show bndS (bnd (mLst _ _) _) _ = _
  rw [mLst_ev, items]
  simp only [bnd_some, ret_eq]
  rw [e, bnd_some, ixD_lst, e2]
  rfl
theorem e_deep {t : T} (ht : Hd t) : ∃ d t', f__law_deep [t] = some (.ok (.im d), [t']) ∧ Hd t' ∧ Th d := by
  obtain ⟨r, t1, e1, hr, ht1⟩ := dr (ρ := [some t, none, none]) (i := 0) (ms := mCons (mC (.int 4)) mNil) rfl ht (by decide : (1 : Int) ≤ 4) (by decide) rfl
  have items : (mCons (mC .non) (mCons (mC (.str "a")) (mCons (mNeg (mC (.int 1))) (mCons (mC (.dk [])) mNil)))) [some t, none, none] = some (.ok [.non, .str "a", .int (-1), .dk []], [some t, none, none]) := rfl
  obtain ⟨d0, e2, hm⟩ := atI_in (l := [D.non, .str "a", .int (-1), .dk []]) hr.1 (by simpa using hr.2)
  have hd0 : Jd 0 d0 := by
    simp at hm
    refine ⟨fun n hn => ?_, ?_⟩
    · obtain ⟨m, rfl⟩ : ∃ m, n = m + 1 := ⟨n - 1, by omega⟩
      rcases hm with rfl | rfl | rfl | rfl <;> rfl
    · rcases hm with rfl | rfl | rfl | rfl
      · exact .inr (.inl rfl)
      · exact .inr (.inr (.inl rfl))
      · exact .inr (.inr (.inr rfl))
      · exact .inl rfl
  have a1 : nSet 1 (mBin ixD (mLst (mCons (mC .non) (mCons (mC (.str "a")) (mCons (mNeg (mC (.int 1))) (mCons (mC (.dk [])) mNil))))) (mFnO f__law_draw 0 (mCons (mC (.int 4)) mNil))) [some t, none, none] = some (.nx, [some t1, some (.im d0), none]) := by
    show bndS (bnd (mLst _ _) _) _ = _
    rw [mLst_ev, items]
    simp only [bnd_some, ret_eq]
    rw [e1, bnd_some, ixD_lst, e2]
    rfl
  obtain ⟨m, t2, e3, hm2, ht2⟩ := dr (ρ := [some t1, some (.im d0), none]) (i := 0) (ms := mCons (mC (.int 30)) mNil) rfl ht1 (by decide : (1 : Int) ≤ 30) (by decide) rfl
  obtain ⟨c, rfl⟩ : ∃ c : Nat, m = (c : Int) := ⟨m.toNat, by omega⟩
  have loop := forL_inv (fun k : Nat => D.int (k : Int)) (bd := bN 2) (n := pBody)
    (fun j ρ => ∃ t d o, Hd t ∧ Jd j d ∧ ρ = [some t, some (.im d), o]) (l := List.range (1 + c)) (ρ := [some t2, some (.im d0), none]) 0 ⟨t2, d0, none, ht2, hd0, rfl⟩ (by
      rintro j a ρ hj ⟨t, d, o, ht, hd, rfl⟩
      rw [Nat.zero_add] at hd ⊢
      obtain ⟨t', d', e, ht', hd'⟩ := e_pBody (o := some (.im (.int (a : Int)))) ht hd
      exact ⟨_, _, rfl, .inl e, t', d', _, ht', hd', rfl⟩)
  obtain ⟨ρ', h1, t3, d, o, ht3, hd, rfl⟩ := loop
  rw [Nat.zero_add, List.length_range] at hd
  have hc : rngC [.int (1 + (c : Int))] = some ((List.range (1 + c)).map fun k => .int (k : Int)) := by
    have := rngC_nat (n := 1 + c) (by omega)
    rw [show ((1 + c : Nat) : Int) = 1 + (c : Int) by omega] at this
    exact this
  have a2 : nFor (mRng (mCons (mBin addD (mC (.int 1)) (mFnO f__law_draw 0 (mCons (mC (.int 30)) mNil))) mNil)) (bN 2) pBody [some t1, some (.im d0), none] = some (.nx, [some t3, some (.im d), o]) := by
    show bndS (bnd (bnd (bnd _ _) _) _) _ = _
    rw [mC_ev]
    simp only [ret_eq, bnd_some]
    rw [e3]
    simp only [bnd_some, addD_int, retO_some, mNil_ev, ret_eq, hc, bndS_some]
    exact h1
  refine ⟨d, t3, ?_, ht3, hd.th (by omega)⟩
  show endFn [0] _ (n__law_deep [some t, none, none]) = _
  unfold n__law_deep
  rw [sq_nx a1, sq_nx a2]
  rfl
/-! ### the law's turn -/
abbrev zA : N := nSet 3 (mLst (mCons (mC .non) (mCons (mNeg (mC (.int 1))) (mCons (mC (.bl true)) (mCons (mC (.str "part")) (mCons (mTup (mCons (mC (.int 0)) (mCons (mC (.str "a")) mNil))) (mCons (mLst (mCons (mC (.int 0)) mNil)) (mCons (mDict1 (mC (.int 0)) (mC (.str "a"))) (mCons (mBin powD (mC (.int 10)) (mC (.int 30))) (mCons (mMake 0 f_Web___init__ (mCons (mC (.int 2)) (mCons (mTup (mCons (mTup (mCons (mC (.int 0)) (mCons (mC (.int 1)) mNil))) mNil)) mNil))) (mCons (mFnO f__law_deep 1 mNil) mNil)))))))))))
abbrev zB : N := nAsg (bT [(bN 6), (bN 7)]) (mTup (mCons (mBin ixD (mV 3) (mFnO f__law_draw 1 (mCons (mC (.int 10)) mNil))) (mCons (mBin ixD (mV 3) (mFnO f__law_draw 1 (mCons (mC (.int 10)) mNil))) mNil)))
abbrev zC : N := nSet 4 (mFn f__law_all (mCons (mV 6) (mCons (mV 7) mNil)))
abbrev zD : N := nFor (mEnum (mV 4)) (bT [(bN 8), (bN 9)]) (sq (nSet 10 (mFn f__law_of (mCons (mV 9) mNil))) (sq (nIf (mOr (mB (mBin neD (mLM cntD (mV 10) (mC (.bl true))) (mC (.int 1)))) (mB (mBin neD (mLM fidxD (mV 10) (mC (.bl true))) (mV 8)))) (nRet (mC (.bl false))) nNx) (nIf (mOr (mNot (mB (mCall (isxC KX) (mCons (mV 9) (mCons (mC (.cls 16)) mNil))))) (mNot (mB (mIsVE KX (mV 9))))) (nRet (mC (.bl false))) nNx)))
abbrev zE : N := nIf (mNot (mB (mCall allS (mList (mFz (mLcN (mRng (mCons (mC (.int 6)) mNil)) [11] (bN 11) mYes (mFn f__law_caught (mCons (mV 11) (mCons (mV 6) mNil))))))))) (nRet (mC (.bl false))) nNx
abbrev zF : N := nSet 5 (mLst (mCons (mXf 8 KX (mBin ixD (mV 4) (mC (.int 0)))) (mCons (mXf 8 KX (mBin ixD (mV 4) (mC (.int 1)))) (mCons (mXf 10 KX (mBin ixD (mV 4) (mC (.int 2)))) (mCons (mXf 11 KX (mBin ixD (mV 4) (mC (.int 3)))) (mCons (mXf 12 KX (mBin ixD (mV 4) (mC (.int 4)))) (mCons (mXf 13 KX (mBin ixD (mV 4) (mC (.int 5)))) mNil)))))))
abbrev zG : N := nSet 5 (mBin addD (mV 5) (mLst (mCons (mXf 14 KX (mBin ixD (mV 4) (mC (.int 6)))) (mCons (mXf 8 KX (mBin ixD (mV 4) (mC (.int 7)))) (mCons (mXf 8 KX (mBin ixD (mV 4) (mC (.int 8)))) mNil)))))
abbrev zH : N := nIf (mNot (mB (mCall allS (mList (mFz (mLcN (mSeq (mV 5)) [12] (bN 12) mYes (mAndV (mBin (eqY [0] f_Web___eq__) (mV 12) (mV 6)) (mBin (eqY [0] f_Web___eq__) (mCall (isiC KC) (mCons (mV 12) (mCons (mC (.ty .bl)) mNil))) (mCall (isiC KC) (mCons (mV 6) (mCons (mC (.ty .bl)) mNil))))))))))) (nRet (mC (.bl false))) nNx
abbrev zI : N := nIf (mOr (mB (mBin (neY [0] f_Web___eq__) (mXf 9 KX (mBin ixD (mV 4) (mC (.int 7)))) (mV 7))) (mB (mBin (neY [0] f_Web___eq__) (mXf 9 KX (mBin ixD (mV 4) (mC (.int 8)))) (mV 7)))) (nRet (mC (.bl false))) nNx
abbrev zBody : N := sq zA (sq zB (sq zC (sq zD (sq zE (sq zF (sq zG (sq zH zI)))))))
def ers (x y : D) : List D := [.xo 17 [(8, x)], .xo 19 [(8, x)], .xo 21 [(10, x)], .xo 22 [(11, x)], .xo 23 [(12, x)], .xo 24 [(13, x)], .xo 25 [(14, x)], .xo 18 [(9, y), (8, x)], .xo 20 [(9, y), (8, x)], .xo 26 [], .xo 27 [], .xo 28 [], .xo 29 [], .xo 30 [], .xo 31 [], .xo 32 [], .xo 33 [], .xo 34 [], .xo 35 [], .xo 36 [], .xo 37 [], .xo 38 [], .xo 39 [], .xo 40 [], .xo 41 [], .xo 42 [], .xo 43 [], .xo 44 [], .xo 45 []]
theorem e_all (x y : D) : f__law_all [.im x, .im y] = some (.ok (.im (.lst (ers x y))), [.im x, .im y]) := by kernel_rfl
theorem e_zC (a b c o4 o5 : Option T) (th : D) (x y : D) (o8 o9 o10 : Option T) : zC [a, b, c, some (.im th), o4, o5, some (.im x), some (.im y), o8, o9, o10, none, none] = some (.nx, [a, b, c, some (.im th), some (.im (.lst (ers x y))), o5, some (.im x), some (.im y), o8, o9, o10, none, none]) := by kernel_rfl
theorem e_zD (a b c o5 : Option T) (th : D) (x y : D) (o8 o9 o10 : Option T) : ∃ p8 p9 p10, zD [a, b, c, some (.im th), some (.im (.lst (ers x y))), o5, some (.im x), some (.im y), o8, o9, o10, none, none] = some (.nx, [a, b, c, some (.im th), some (.im (.lst (ers x y))), o5, some (.im x), some (.im y), p8, p9, p10, none, none]) :=
  ⟨some (.im (.int 28)), some (.im (.xo 45 [])), some (.im (.lst ((List.range 29).map fun i => .bl (i == 28)))), by kernel_rfl⟩
def fds (x : D) : List D := [x, x, x, x, x, x, x, x, x]
theorem e_zFG (a b c o5 : Option T) (th : D) (x y : D) (o8 o9 o10 : Option T) : sq zF zG [a, b, c, some (.im th), some (.im (.lst (ers x y))), o5, some (.im x), some (.im y), o8, o9, o10, none, none] = some (.nx, [a, b, c, some (.im th), some (.im (.lst (ers x y))), some (.im (.lst (fds x))), some (.im x), some (.im y), o8, o9, o10, none, none]) := by kernel_rfl
theorem e_zI (a b c o5 : Option T) (th : D) {x y : D} (hy : Th y) (o8 o9 o10 : Option T) : zI [a, b, c, some (.im th), some (.im (.lst (ers x y))), o5, some (.im x), some (.im y), o8, o9, o10, none, none] = some (.nx, [a, b, c, some (.im th), some (.im (.lst (ers x y))), o5, some (.im x), some (.im y), o8, o9, o10, none, none]) := by
  have h1 : atI (ers x y) 7 = some (.xo 18 [(9, y), (8, x)]) := rfl
  have h2 : atI (ers x y) 8 = some (.xo 20 [(9, y), (8, x)]) := rfl
  have h3 : xfD 9 KX (.xo 18 [(9, y), (8, x)]) = some y := rfl
  have h4 : xfD 9 KX (.xo 20 [(9, y), (8, x)]) = some y := rfl
  simp [h1, h2, h3, h4, hy.ne]
theorem e_zH (a b c o4 : Option T) (th : D) {x : D} (hx : Th x) (y : D) (o8 o9 o10 : Option T) : zH [a, b, c, some (.im th), o4, some (.im (.lst (fds x))), some (.im x), some (.im y), o8, o9, o10, none, none] = some (.nx, [a, b, c, some (.im th), o4, some (.im (.lst (fds x))), some (.im x), some (.im y), o8, o9, o10, none, none]) := by
  obtain ⟨bb, hb⟩ := hx.bl
  have hq : eqY [0] f_Web___eq__ (.bl bb) (.bl bb) = some (.bl true) := by cases bb <;> kernel_rfl
  have lc := lc_map (fun a : D => a) (fun _ => .bl true) (ms := mSeq (mV 5)) (vs := [12]) (bd := bN 12) (me := (mAndV (mBin (eqY [0] f_Web___eq__) (mV 12) (mV 6)) (mBin (eqY [0] f_Web___eq__) (mCall (isiC KC) (mCons (mV 12) (mCons (mC (.ty .bl)) mNil))) (mCall (isiC KC) (mCons (mV 6) (mCons (mC (.ty .bl)) mNil))))))
    (ρ := [a, b, c, some (.im th), o4, some (.im (.lst (fds x))), some (.im x), some (.im y), o8, o9, o10, none, none]) (l := fds x)
    (by simp) (by intro v hv t; simp at hv; subst hv; simp)
    (fun d hd => by
      have e : d = x := by simpa [fds] using hd
      subst e
      exact ⟨[a, b, c, some (.im th), o4, some (.im (.lst (fds d))), some (.im d), some (.im y), o8, o9, o10, none, some (.im d)], rfl, by simp [hx.eq, hb, hq], rfl⟩)
  have h2 : blsD ((fds x).map fun _ => D.bl true) = some [true, true, true, true, true, true, true, true, true] := rfl
  simp [-List.map_map, lc, h2]
end K00

namespace K00
open MX
open L2 (atI ixN)
abbrev y1 : N := nSet 2 (mC .non)
abbrev y2 : N := nTry 3 16 KX (nDrop (mFn f__law_raise (mCons (mV 0) (mCons (mV 1) mNil)))) (nSet 2 (mV 3))
abbrev y3 : N := nSet 4 (mLst (mCons (mCall (isxC KX) (mCons (mV 2) (mCons (mC (.cls 17)) mNil))) (mCons (mCall (isxC KX) (mCons (mV 2) (mCons (mC (.cls 24)) mNil))) (mCons (mCall (isxC KX) (mCons (mV 2) (mCons (mC (.cls 25)) mNil))) mNil))))
abbrev y4 : N := nSet 4 (mBin addD (mV 4) (mLst (mCons (mCall (isxC KX) (mCons (mV 2) (mCons (mC (.cls 31)) mNil))) (mCons (mCall (isxC KX) (mCons (mV 2) (mCons (mC (.cls 44)) mNil))) (mCons (mCall (isxC KX) (mCons (mV 2) (mCons (mC (.cls 21)) mNil))) mNil)))))
abbrev y5 : N := nIf (mOr (mB (mBin neD (mLM cntD (mV 4) (mC (.bl true))) (mC (.int 1)))) (mB (mBin neD (mLM fidxD (mV 4) (mC (.bl true))) (mV 0)))) (nRet (mC (.bl false))) nNx
abbrev y6 : N := nIf (mB (mBin eqD (mV 0) (mC (.int 0)))) (nRet (mBin (eqY [0] f_Web___eq__) (mXf 8 KX (mV 2)) (mV 1))) nNx
abbrev y7 : N := nRet (mIf (mB (mBin (eqY [0] f_Web___eq__) (mV 0) (mC (.int 1)))) (mBin (eqY [0] f_Web___eq__) (mXf 13 KX (mV 2)) (mV 1)) (mOrV (mBin gtD (mV 0) (mC (.int 2))) (mBin (eqY [0] f_Web___eq__) (mXf 14 KX (mV 2)) (mV 1))))
def fl6 (j : Nat) : D := .lst ((List.range 6).map fun i => .bl (i == j))
theorem e_y5 (k : Nat) (hk : k < 6) (x : D) (c : Nat) (fs : List (Nat × D)) (h1 : sq y1 (sq y2 (sq y3 (sq y4 y5))) [some (.im (.int k)), some (.im x), none, none, none] = some (.nx, [some (.im (.int k)), some (.im x), some (.im (.xo c fs)), none, some (.im (fl6 k))])) :
    f__law_caught [.im (.int k), .im x] = endFn [] [.im (.int k), .im x] (sq y6 y7 [some (.im (.int k)), some (.im x), some (.im (.xo c fs)), none, some (.im (fl6 k))]) := by
  have assoc : ∀ (a b n : N) (ρ : Env), sq (sq a b) n ρ = sq a (sq b n) ρ := by
    intro a b n ρ
    rw [sq_ev, sq_ev, sq_ev]
    cases a ρ with
    | none => rfl
    | some r =>
      obtain ⟨f, ρ1⟩ := r
      cases f <;> first | rfl | simp
  have e : n__law_caught [some (.im (.int k)), some (.im x), none, none, none] = sq (sq y1 (sq y2 (sq y3 (sq y4 y5)))) (sq y6 y7) [some (.im (.int k)), some (.im x), none, none, none] := by
    have q : ∀ (a b n : N), sq (sq a b) n = sq a (sq b n) := fun a b n => funext fun ρ => assoc a b n ρ
    rw [q, q, q, q]; rfl
  show endFn [] _ (n__law_caught [some (.im (.int k)), some (.im x), none, none, none]) = _
  rw [e, sq_nx h1]
theorem e_c0 {x : D} (hx : Th x) : f__law_caught [.im (.int 0), .im x] = some (.ok (.im (.bl true)), [.im (.int 0), .im x]) := by
  rw [show (0 : Int) = ((0 : Nat) : Int) from rfl, e_y5 0 (by decide) x 17 [(8, x)] (by kernel_rfl)]
  have h1 : xfD 8 KX (.xo 17 [(8, x)]) = some x := rfl
  have h2 : eqB (.int 0) (.int 0) = some true := by kernel_rfl
  simp [h1, h2, hx.eq]
theorem e_c1 {x : D} (hx : Th x) : f__law_caught [.im (.int 1), .im x] = some (.ok (.im (.bl true)), [.im (.int 1), .im x]) := by
  rw [show (1 : Int) = ((1 : Nat) : Int) from rfl, e_y5 1 (by decide) x 24 [(13, x)] (by kernel_rfl)]
  have h1 : xfD 13 KX (.xo 24 [(13, x)]) = some x := rfl
  have h2 : eqB (.int 1) (.int 0) = some false := by kernel_rfl
  have h3 : eqY [0] f_Web___eq__ (.int 1) (.int 1) = some (.bl true) := by kernel_rfl
  simp [h1, h2, h3, hx.eq]
theorem e_c2 {x : D} (hx : Th x) : f__law_caught [.im (.int 2), .im x] = some (.ok (.im (.bl true)), [.im (.int 2), .im x]) := by
  rw [show (2 : Int) = ((2 : Nat) : Int) from rfl, e_y5 2 (by decide) x 25 [(14, x)] (by kernel_rfl)]
  have h1 : xfD 14 KX (.xo 25 [(14, x)]) = some x := rfl
  have h2 : eqB (.int 2) (.int 0) = some false := by kernel_rfl
  have h3 : eqY [0] f_Web___eq__ (.int 2) (.int 1) = some (.bl false) := by kernel_rfl
  simp [h1, h2, h3, hx.eq]
theorem e_c3 (x : D) : f__law_caught [.im (.int 3), .im x] = some (.ok (.im (.bl true)), [.im (.int 3), .im x]) := by kernel_rfl
theorem e_c4 (x : D) : f__law_caught [.im (.int 4), .im x] = some (.ok (.im (.bl true)), [.im (.int 4), .im x]) := by kernel_rfl
theorem e_c5 (x : D) : f__law_caught [.im (.int 5), .im x] = some (.ok (.im (.bl true)), [.im (.int 5), .im x]) := by kernel_rfl
theorem e_ck {x : D} (hx : Th x) (k : Nat) (hk : k < 6) : f__law_caught [.im (.int k), .im x] = some (.ok (.im (.bl true)), [.im (.int k), .im x]) := by
  match k, hk with
  | 0, _ => exact e_c0 hx
  | 1, _ => exact e_c1 hx
  | 2, _ => exact e_c2 hx
  | 3, _ => exact e_c3 x
  | 4, _ => exact e_c4 x
  | 5, _ => exact e_c5 x
theorem e_zE (a b c o3 o4 o5 : Option T) {x : D} (hx : Th x) (y : D) (o8 o9 o10 : Option T) : zE [a, b, c, o3, o4, o5, some (.im x), some (.im y), o8, o9, o10, none, none] = some (.nx, [a, b, c, o3, o4, o5, some (.im x), some (.im y), o8, o9, o10, none, none]) := by
  have hr : rngC [.int 6] = some ((List.range 6).map fun k => .int (k : Int)) := rngC_nat (n := 6) (by decide)
  have lc := lc_map (fun k : Nat => D.int k) (fun _ => .bl true) (ms := mRng (mCons (mC (.int 6)) mNil)) (vs := [11]) (bd := bN 11) (me := mFn f__law_caught (mCons (mV 11) (mCons (mV 6) mNil)))
    (ρ := [a, b, c, o3, o4, o5, some (.im x), some (.im y), o8, o9, o10, none, none]) (l := List.range 6)
    (by simp [-List.map_map, hr]) (by intro v hv t; simp at hv; subst hv; simp)
    (fun k hk => by
      have hk' := List.mem_range.mp hk
      exact ⟨[a, b, c, o3, o4, o5, some (.im x), some (.im y), o8, o9, o10, some (.im (.int k)), none], rfl, by simp [e_ck hx k hk'], rfl⟩)
  have h2 : blsD ((List.range 6).map fun _ => D.bl true) = some [true, true, true, true, true, true] := rfl
  simp [-List.map_map, lc, h2]
def things (d : D) : List D := [.non, .int (-1), .bl true, .str "part", .tup [.int 0, .str "a"], .lst [.int 0], .dk [(.inl 0, .str "a")], .int (10 ^ 30), webT, d]
theorem th_things {d x : D} (hd : Th d) (h : x ∈ things d) : Th x := by
  simp only [things, List.mem_cons, List.not_mem_nil, or_false] at h
  rcases h with rfl | rfl | rfl | rfl | rfl | rfl | rfl | rfl | rfl | rfl
  · exact th_non
  · exact th_m1
  · exact th_true
  · exact th_part
  · exact th_tup
  · exact th_lst
  · exact th_dk
  · exact th_big
  · exact th_web
  · exact hd
theorem e_zA {a c o3 o4 o5 o6 o7 o8 o9 o10 : Option T} {t : T} (ht : Hd t) : ∃ d t', zA [a, some t, c, o3, o4, o5, o6, o7, o8, o9, o10, none, none] = some (.nx, [a, some t', c, some (.im (.lst (things d))), o4, o5, o6, o7, o8, o9, o10, none, none]) ∧ Hd t' ∧ Th d := by
  obtain ⟨d, t', e, ht', hd⟩ := e_deep ht
  have web : mMake 0 f_Web___init__ (mCons (mC (.int 2)) (mCons (mTup (mCons (mTup (mCons (mC (.int 0)) (mCons (mC (.int 1)) mNil))) mNil)) mNil)) [a, some t, c, o3, o4, o5, o6, o7, o8, o9, o10, none, none] = some (.ok webT, [a, some t, c, o3, o4, o5, o6, o7, o8, o9, o10, none, none]) := by
    simp [e_web0, webT]
  have dp : mFnO f__law_deep 1 mNil [a, some t, c, o3, o4, o5, o6, o7, o8, o9, o10, none, none] = some (.ok d, [a, some t', c, o3, o4, o5, o6, o7, o8, o9, o10, none, none]) := by
    simp [e]
  refine ⟨d, t', ?_, ht', hd⟩
  have hk : keyD (.int 0) = some (.inl 0) := rfl
  have hn : negD (.int 1) = some (.int (-1)) := rfl
  simp [-mMake_ev, -mFnO_ev, web, dp, hk, hn, things]
theorem e_zB {a c o4 o5 o6 o7 o8 o9 o10 : Option T} {t : T} {d : D} (ht : Hd t) : ∃ x y t', zB [a, some t, c, some (.im (.lst (things d))), o4, o5, o6, o7, o8, o9, o10, none, none] = some (.nx, [a, some t', c, some (.im (.lst (things d))), o4, o5, some (.im x), some (.im y), o8, o9, o10, none, none]) ∧ Hd t' ∧ x ∈ things d ∧ y ∈ things d := by
  obtain ⟨r1, t1, e1, hr1, ht1⟩ := dr (ρ := [a, some t, c, some (.im (.lst (things d))), o4, o5, o6, o7, o8, o9, o10, none, none]) (i := 1) (ms := mCons (mC (.int 10)) mNil) rfl ht (by decide : (1 : Int) ≤ 10) (by decide) rfl
  obtain ⟨r2, t2, e2, hr2, ht2⟩ := dr (ρ := [a, some t1, c, some (.im (.lst (things d))), o4, o5, o6, o7, o8, o9, o10, none, none]) (i := 1) (ms := mCons (mC (.int 10)) mNil) rfl ht1 (by decide : (1 : Int) ≤ 10) (by decide) rfl
  have hl : (things d).length = 10 := rfl
  obtain ⟨x, a1, m1⟩ := atI_in (l := things d) hr1.1 (by rw [hl]; exact hr1.2)
  obtain ⟨y, a2, m2⟩ := atI_in (l := things d) hr2.1 (by rw [hl]; exact hr2.2)
  have e1' : mFnO f__law_draw 1 (mCons (mC (.int 10)) mNil) [a, some t, c, some (.im (.lst (things d))), o4, o5, o6, o7, o8, o9, o10, none, none] = some (.ok (.int r1), [a, some t1, c, some (.im (.lst (things d))), o4, o5, o6, o7, o8, o9, o10, none, none]) := e1
  have e2' : mFnO f__law_draw 1 (mCons (mC (.int 10)) mNil) [a, some t1, c, some (.im (.lst (things d))), o4, o5, o6, o7, o8, o9, o10, none, none] = some (.ok (.int r2), [a, some t2, c, some (.im (.lst (things d))), o4, o5, o6, o7, o8, o9, o10, none, none]) := e2
  refine ⟨x, y, t2, ?_, ht2, m1, m2⟩
  simp [-mFnO_ev, e1', e2', a1, a2]
theorem e_body {a c o3 o4 o5 o6 o7 o8 o9 o10 : Option T} {t : T} (ht : Hd t) : ∃ t' o3' o4' o5' o6' o7' o8' o9' o10', zBody [a, some t, c, o3, o4, o5, o6, o7, o8, o9, o10, none, none] = some (.nx, [a, some t', c, o3', o4', o5', o6', o7', o8', o9', o10', none, none]) ∧ Hd t' := by
  obtain ⟨d, t1, e1, ht1, hd⟩ := e_zA (a := a) (c := c) (o3 := o3) (o4 := o4) (o5 := o5) (o6 := o6) (o7 := o7) (o8 := o8) (o9 := o9) (o10 := o10) ht
  obtain ⟨x, y, t2, e2, ht2, mx, my⟩ := e_zB (a := a) (c := c) (o4 := o4) (o5 := o5) (o6 := o6) (o7 := o7) (o8 := o8) (o9 := o9) (o10 := o10) (d := d) ht1
  have hx := th_things hd mx
  have hy := th_things hd my
  obtain ⟨p8, p9, p10, e4⟩ := e_zD a (some t2) c o5 (.lst (things d)) x y o8 o9 o10
  refine ⟨t2, some (.im (.lst (things d))), some (.im (.lst (ers x y))), some (.im (.lst (fds x))), some (.im x), some (.im y), p8, p9, p10, ?_, ht2⟩
  show sq zA (sq zB (sq zC (sq zD (sq zE (sq zF (sq zG (sq zH zI))))))) _ = _
  rw [sq_nx e1, sq_nx e2, sq_nx (e_zC a (some t2) c o4 o5 (.lst (things d)) x y o8 o9 o10), sq_nx e4, sq_nx (e_zE a (some t2) c _ _ o5 hx y p8 p9 p10)]
  have fg := e_zFG a (some t2) c o5 (.lst (things d)) x y p8 p9 p10
  have as : ∀ (u v n : N) (ρ ρ1 : Env), sq u v ρ = some (.nx, ρ1) → sq u (sq v n) ρ = n ρ1 := by
    intro u v n ρ ρ1 h
    rw [sq_ev] at h ⊢
    revert h
    cases u ρ with
    | none => intro h; cases h
    | some r =>
      obtain ⟨f, ρ2⟩ := r
      cases f with
      | nx => intro h; exact sq_nx h
      | _ => intro h; cases h
  rw [as _ _ _ _ _ fg, sq_nx (e_zH a (some t2) c _ (.lst (things d)) hx y p8 p9 p10)]
  exact e_zI a (some t2) c _ (.lst (things d)) hy p8 p9 p10
theorem hmath (ns : List Int) (hl : ns.length ≤ 63) (hb : ∀ k ∈ ns, PySem.Builtin.Int.intBits k ≤ 1048576) : ∃ ts, f_law [.im (.scr ns)] = some (.ok (.im (.bl true)), ts) := by
  obtain ⟨t, e0, ht⟩ := e_hand ns
  have s0' : nSetT 1 (mFnT f__law_hand (mCons (mV 0) mNil)) [some (.im (.scr ns)), none, none, none, none, none, none, none, none, none, none, none, none] = some (.nx, [some (.im (.scr ns)), some t, none, none, none, none, none, none, none, none, none, none, none]) := by
    simp [-List.map_map, e0]
  have loop := forL_inv (fun k : Nat => D.int (k : Int)) (bd := bN 2) (n := zBody)
    (fun _ ρ => ∃ t o2 b3 b4 b5 b6 b7 b8 b9 b10, Hd t ∧ ρ = [some (.im (.scr ns)), some t, o2, b3, b4, b5, b6, b7, b8, b9, b10, none, none]) (l := List.range 2) (ρ := [some (.im (.scr ns)), some t, none, none, none, none, none, none, none, none, none, none, none]) 0 ⟨t, _, _, _, _, _, _, _, _, _, ht, rfl⟩ (by
      rintro j k ρ hj ⟨t, o2, b3, b4, b5, b6, b7, b8, b9, b10, ht, rfl⟩
      obtain ⟨t', c3, c4, c5, c6, c7, c8, c9, c10, e, ht'⟩ := e_body (a := some (.im (.scr ns))) (c := some (.im (.int (k : Int)))) (o3 := b3) (o4 := b4) (o5 := b5) (o6 := b6) (o7 := b7) (o8 := b8) (o9 := b9) (o10 := b10) ht
      exact ⟨_, _, rfl, .inl e, t', _, _, _, _, _, _, _, _, _, ht', rfl⟩)
  obtain ⟨ρ', h1, t', o2, b3, b4, b5, b6, b7, b8, b9, b10, ht', rfl⟩ := loop
  have s1 : nFor (mRng (mCons (mC (.int 2)) mNil)) (bN 2) zBody [some (.im (.scr ns)), some t, none, none, none, none, none, none, none, none, none, none, none] = some (.nx, [some (.im (.scr ns)), some t', o2, b3, b4, b5, b6, b7, b8, b9, b10, none, none]) := h1
  refine ⟨[.im (.scr ns)], ?_⟩
  show endFn [] _ (n_law [some (.im (.scr ns)), none, none, none, none, none, none, none, none, none, none, none, none]) = _
  unfold n_law
  rw [sq_nx s0', sq_nx s1]
  rfl
end K00

namespace K00
open MX PySem PySem.Spec PyProof.Rows L2

abbrev R : PySem.W.OpenRow := PySem.W.OpenLaw.row PySem.Challenge.rw_growalong_k00_errors_of_the_package
abbrev hk : PySem.W.Hook := hookM 5 FA FN KC KE KX KO
def ob (s : PySem.W.SharedT) : AlM := obsMG 5 FA FN KC KE KX KO (HandSHeadRun.getT s)
theorem ob_eq (s : PySem.W.SharedT) : ob s = hk.obs s.abs := obsMG_eq (HandSHeadRun.getT_eq s)
abbrev LO : List Str := (["__name__", "GrowError", "BadWeb", "BadRecord", "BadHall", "BadProgram", "BadStep", "BadChoice", "BadText", "NoName", "TooMany", "NoNumber", "NoPairs", "NoOrder", "NoWire", "NoMachine", "NoPut", "NoWriters", "OtherMachines", "NotMade", "NoDays", "NoWeb", "NotWhole", "NoSights", "NoPlaces"] : List Str) ++ (["NoStep", "NoRow", "IsDown", "IsUp", "NothingDone", "NoLine", "is_integer", "is_within", "is_pair", "MOST_MACHINES", "is_wire_pair", "Web", "_law_hand", "_law_draw", "_law_deep", "_law_all", "_law_of", "_law_raise", "_law_caught"] : List Str)
theorem run (w : World) : HandSHeadRun.RunEq R (PySem.W.view R.prog [47]) hk ob 12000 LO w := by
  intro os
  kernel_rfl
theorem tx {K : Frg} {h : Heap} {mg : Str → Option Value} (X : K.In h) (G : h.Ns mainGlobals mg) (c : He.SaysD FA FN K) (kc : kcB K KC = true) (ke : KE.all (keB K) = true) (kx : xcB K KX = true) (ko : (KO.all fun c => oexB K (cadr K c)) = true) : Tx K mg where
  glo := fun i _ h => He.glo_ok X G (c.fact i h)
  free := fun i _ h => He.free_ok X G (c.fact i h)
  int := fun i _ _ h => He.int_ok X G (c.fact i h)
  cls := fun i _ h => He.cls_ok (c.fact i h)
  noat := fun i _ _ h => He.noat_ok (c.fact i h)
  meth := fun i _ _ h => He.meth_ok (c.fact i h)
  mkr := fun i _ h => He.mkr_ok (c.fact i h)
  keep := fun i _ h => He.keep_ok (c.fact i h)
  exc := fun i _ h => He.exc_ok (c.fact i h)
  xc := xcB_ok kx
  oex := fun i _ h => oexB_ok (List.all_eq_true.mp ko _ (List.mem_of_getElem? h))
  dfn := fun i _ h => c.def_ i h
  kit := kcB_ok kc
  kie := fun i _ h => keB_ok (List.all_eq_true.mp ke _ (List.mem_of_getElem? h))
end K00
open PySem PySem.W PySem.Calls PyProof.Rows
theorem PySem.Challenge.cw_growalong_k00_errors_of_the_package_holds : PySem.Challenge.rw_growalong_k00_errors_of_the_package.Holds := by
  w_on; o_law
  refine HandSHeadRun.head_any (r := OpenLaw.row PySem.Challenge.rw_growalong_k00_errors_of_the_package) (q := view (OpenLaw.row PySem.Challenge.rw_growalong_k00_errors_of_the_package).prog [47]) (H := K00.hk) (ob := K00.ob) (M := 12000) (loose := K00.LO) (d := HandSHeadRun.topDef (OpenLaw.row PySem.Challenge.rw_growalong_k00_errors_of_the_package).prog 47) (kwd := []) K00.ob_eq
    (by kernel_rfl) (fun s => by kernel_rfl) K00.run (by kernel_rfl) (by kernel_rfl) (by kernel_rfl) (by rfl) (by first | assumption | decide +kernel) (by decide +kernel) ⟨rfl, rfl, rfl, rfl, rfl, by decide +kernel⟩ ?hw ?hc
  case hw => w_witness2
  case hc =>
    refine MX.walk_ofM (l := PySem.Challenge.rw_growalong_k00_errors_of_the_package) (n := 63) (k := 6) (x := "_law_script") (CX := fun w => L2.CX (OpenLaw.row PySem.Challenge.rw_growalong_k00_errors_of_the_package).prog w) rfl (by decide) (by kernel_rfl) ⟨rfl, by decide, by decide⟩ ?F (fun w H s e s' => MX.cx_no _ w H s e s')
    intro w mg fa h Y G hmg0
    obtain ⟨K, KI, c, kc, ke, kx, ko⟩ := Y
    have T := K00.tx KI G c kc ke kx ko
    have hmg : mg ("law" : PySem.Str) = some (.ref fa) := by
      have e : (HandSHeadRun.topDef (OpenLaw.row PySem.Challenge.rw_growalong_k00_errors_of_the_package).prog 47).name = ("law" : PySem.Str) := by kernel_rfl
      rw [← e]
      exact hmg0
    have e := hmg.symm.trans (T.glo 99)
    cases e
    have b := L2.FunD.bindsA (T.fun 11 rfl) (ps := ["_law_script"]) fun _ _ _ _ _ _ us hl => match us, hl with | [_], _ => rfl
    exact ⟨K, _, _, KI, fun s v => b s [v] rfl, fun H a ns hl hbits hO hS => MX.spM_true hO hS (K00.hmath ns hl hbits), fun base _ _ => K00.okAt_law T⟩

