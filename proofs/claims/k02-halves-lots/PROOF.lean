import PyProof.Rows.All
import Wide.All
import OpenK.AllK
import Wide.FinOn
import HandS.ForMost
import HandS.Exc
import HandS.TryMany
import HandS.CallSlots
import HandS.WordsExc
import HandS.ExcInit
import HandS.Defaults
import HandS.ExcOwn
import HandS.IsInst
import HandS.Star
import HandS.SortInts
import HandS.Conv
import HandS.DictComp
import HandS.ExcField
import HandS.ExcIs
import KE.KExcIs
import KE.KSuper
import HandS.MakeKwOnly
import HandS.MakeKw
import KE.GoesMore
import HandS.Iter
import HandS.TupSets
import HandS.HeadHook4
import HandS.HeadEnd
import HandS.Head0
import HandS.Head1
import HandS.Head2
import PySem.Challenge.RW_keptparts_k02_halves_and_lots
set_option Elab.async false
set_option linter.all false
set_option maxRecDepth 100000
set_option maxHeartbeats 4000000
/-! FnA: plain data, what it is in the heap, the slots of a def, what changes. -/
namespace L2.Fn
open PySem PySem.Spec PyProof.Rows L2

inductive D where
  | non
  | bl (b : Bool)
  | int (i : Int)
  | str (x : Str)
  | tup (xs : List D)
  | ktp (xs : List D)
  | lst (xs : List D)
  | scr (xs : List D)
  | dK (kvs : List (Key × D))
  | dT (kvs : List (List Key × D))
  | obj (C : Str) (fs : List (Str × D))
  deriving Inhabited

section
variable (K : PySem.W.Frag) (cm : Str → Addr) (F : Hp)
mutual
inductive Rep : V → D → Prop where
  | non : Rep .non .non
  | bl {b} : Rep (.bl b) (.bl b)
  | int {i} : Rep (.int i) (.int i)
  | str {x} : Rep (.str x) (.str x)
  | tup {a vs xs} : F a = some (.tup vs) → RepL vs xs → Rep (.ref a) (.tup xs)
  | ktp {a vs xs} : SqT K F a vs → RepL vs xs → Rep (.ref a) (.ktp xs)
  | lst {a vs xs} : F a = some (.lst vs) → RepL vs xs → Rep (.ref a) (.lst xs)
  | scr {a vs xs} : SqL K F a vs → RepL vs xs → Rep (.ref a) (.scr xs)
  | dK {a vs xs} : F a = some (.dK vs) → RepK vs xs → Rep (.ref a) (.dK xs)
  | dT {a vs xs} : F a = some (.dT vs) → RepT vs xs → Rep (.ref a) (.dT xs)
  | obj {a C dx vs fs} : F a = some (.ins (cm C) dx vs) → RepF vs fs → Rep (.ref a) (.obj C fs)
inductive RepL : List V → List D → Prop where
  | nil : RepL [] []
  | cons {v d vs ds} : Rep v d → RepL vs ds → RepL (v :: vs) (d :: ds)
inductive RepK : List (Key × V) → List (Key × D) → Prop where
  | nil : RepK [] []
  | cons {k v d vs ds} : Rep v d → RepK vs ds → RepK ((k, v) :: vs) ((k, d) :: ds)
inductive RepT : List (List Key × V) → List (List Key × D) → Prop where
  | nil : RepT [] []
  | cons {k v d vs ds} : Rep v d → RepT vs ds → RepT ((k, v) :: vs) ((k, d) :: ds)
inductive RepF : List (Str × V) → List (Str × D) → Prop where
  | nil : RepF [] []
  | cons {k v d vs ds} : Rep v d → RepF vs ds → RepF ((k, v) :: vs) ((k, d) :: ds)
end
end

section
variable {K : PySem.W.Frag} {cm : Str → Addr} {F F' : Hp}
theorem SqT.mono (m : ∀ a o, F a = some o → F' a = some o) {a : Addr} {xs : List V} (h : SqT K F a xs) : SqT K F' a xs := by
  rcases h with (h | ⟨o, h⟩) | h
  · exact .inl (.inl (m _ _ h))
  · exact .inl (.inr ⟨o, m _ _ h⟩)
  · exact .inr h
theorem SqL.mono (m : ∀ a o, F a = some o → F' a = some o) {a : Addr} {xs : List V} (h : SqL K F a xs) : SqL K F' a xs := by
  rcases h with (h | ⟨o, h⟩) | h
  · exact .inl (.inl (m _ _ h))
  · exact .inl (.inr ⟨o, m _ _ h⟩)
  · exact .inr h
mutual
theorem Rep.mono (m : ∀ a o, F a = some o → F' a = some o) {v : V} {d : D} : Rep K cm F v d → Rep K cm F' v d
  | .non => .non
  | .bl => .bl
  | .int => .int
  | .str => .str
  | .tup h r => .tup (m _ _ h) (RepL.mono m r)
  | .ktp h r => .ktp (SqT.mono m h) (RepL.mono m r)
  | .lst h r => .lst (m _ _ h) (RepL.mono m r)
  | .scr h r => .scr (SqL.mono m h) (RepL.mono m r)
  | .dK h r => .dK (m _ _ h) (RepK.mono m r)
  | .dT h r => .dT (m _ _ h) (RepT.mono m r)
  | .obj h r => .obj (m _ _ h) (RepF.mono m r)
theorem RepL.mono (m : ∀ a o, F a = some o → F' a = some o) {v : List V} {d : List D} : RepL K cm F v d → RepL K cm F' v d
  | .nil => .nil
  | .cons h r => .cons (Rep.mono m h) (RepL.mono m r)
theorem RepK.mono (m : ∀ a o, F a = some o → F' a = some o) {v : List (Key × V)} {d : List (Key × D)} : RepK K cm F v d → RepK K cm F' v d
  | .nil => .nil
  | .cons h r => .cons (Rep.mono m h) (RepK.mono m r)
theorem RepT.mono (m : ∀ a o, F a = some o → F' a = some o) {v : List (List Key × V)} {d : List (List Key × D)} : RepT K cm F v d → RepT K cm F' v d
  | .nil => .nil
  | .cons h r => .cons (Rep.mono m h) (RepT.mono m r)
theorem RepF.mono (m : ∀ a o, F a = some o → F' a = some o) {v : List (Str × V)} {d : List (Str × D)} : RepF K cm F v d → RepF K cm F' v d
  | .nil => .nil
  | .cons h r => .cons (Rep.mono m h) (RepF.mono m r)
end
theorem RepL.length {vs : List V} {ds : List D} (h : RepL K cm F vs ds) : vs.length = ds.length := by
  induction vs generalizing ds with
  | nil => cases h; rfl
  | cons v vs ih => cases h with | cons a b => simp [ih b]
theorem RepL.get {vs : List V} {ds : List D} (h : RepL K cm F vs ds) {i : Nat} {d : D} (e : ds[i]? = some d) : ∃ v, vs[i]? = some v ∧ Rep K cm F v d := by
  induction vs generalizing ds i with
  | nil => cases h; simp at e
  | cons v vs ih =>
    cases h with
    | cons a b =>
      cases i with
      | zero => simp at e; subst e; exact ⟨v, by simp, a⟩
      | succ i => simp at e; obtain ⟨v', h1, h2⟩ := ih b e; exact ⟨v', by simpa using h1, h2⟩
theorem RepL.append {vs ws : List V} {ds es : List D} (h : RepL K cm F vs ds) (g : RepL K cm F ws es) : RepL K cm F (vs ++ ws) (ds ++ es) := by
  induction vs generalizing ds with
  | nil => cases h; exact g
  | cons v vs ih => cases h with | cons a b => exact .cons a (ih b)
theorem RepL.one {v : V} {d : D} (h : Rep K cm F v d) : RepL K cm F [v] [d] := .cons h .nil
theorem RepL.take {vs : List V} {ds : List D} (h : RepL K cm F vs ds) (n : Nat) : RepL K cm F (vs.take n) (ds.take n) := by
  induction vs generalizing ds n with
  | nil => cases h; simp; exact .nil
  | cons v vs ih =>
    cases h with
    | cons a b => cases n with
      | zero => exact .nil
      | succ n => exact .cons a (ih b n)
theorem RepL.drop {vs : List V} {ds : List D} (h : RepL K cm F vs ds) (n : Nat) : RepL K cm F (vs.drop n) (ds.drop n) := by
  induction vs generalizing ds n with
  | nil => cases h; simp; exact .nil
  | cons v vs ih =>
    cases h with
    | cons a b => cases n with
      | zero => exact .cons a b
      | succ n => exact ih b n
theorem RepL.set {vs : List V} {ds : List D} (h : RepL K cm F vs ds) {v : V} {d : D} (r : Rep K cm F v d) (n : Nat) : RepL K cm F (vs.set n v) (ds.set n d) := by
  induction vs generalizing ds n with
  | nil => cases h; simp; exact .nil
  | cons w vs ih =>
    cases h with
    | cons a b => cases n with
      | zero => exact .cons r b
      | succ n => exact .cons a (ih b n)
theorem RepL.reverse {vs : List V} {ds : List D} (h : RepL K cm F vs ds) : RepL K cm F vs.reverse ds.reverse := by
  induction vs generalizing ds with
  | nil => cases h; exact .nil
  | cons w vs ih =>
    cases h with
    | cons a b => simp only [List.reverse_cons]; exact (ih b).append (.one a)
theorem RepL.dropLast {vs : List V} {ds : List D} (h : RepL K cm F vs ds) : RepL K cm F vs.dropLast ds.dropLast := by
  have e := h.length
  rw [List.dropLast_eq_take, List.dropLast_eq_take, e]
  exact h.take _
theorem RepL.get_lt {vs : List V} {ds : List D} (h : RepL K cm F vs ds) {i : Nat} {v : V} (e : vs[i]? = some v) : ∃ d, ds[i]? = some d ∧ Rep K cm F v d := by
  induction vs generalizing ds i with
  | nil => simp at e
  | cons w vs ih =>
    cases h with
    | cons a b => cases i with
      | zero => simp at e; subst e; exact ⟨_, by simp, a⟩
      | succ i => simp at e; obtain ⟨v', h1, h2⟩ := ih b e; exact ⟨v', by simpa using h1, h2⟩
theorem RepF.look {vs : List (Str × V)} {ds : List (Str × D)} (h : RepF K cm F vs ds) {f : Str} {d : D} (e : ds.lookup f = some d) : ∃ v, vs.lookup f = some v ∧ Rep K cm F v d := by
  induction vs generalizing ds with
  | nil => cases h; simp at e
  | cons w vs ih =>
    cases h with
    | @cons k v d' vs ds' a b =>
      rw [List.lookup_cons] at e ⊢
      cases q : (f == k) with
      | true => rw [q] at e; cases e; exact ⟨v, rfl, a⟩
      | false => rw [q] at e; exact ih b e
theorem RepF.lookN {vs : List (Str × V)} {ds : List (Str × D)} (h : RepF K cm F vs ds) {f : Str} (e : ds.lookup f = none) : vs.lookup f = none := by
  induction vs generalizing ds with
  | nil => rfl
  | cons w vs ih =>
    cases h with
    | @cons k v d' vs ds' a b =>
      rw [List.lookup_cons] at e ⊢
      cases q : (f == k) with
      | true => rw [q] at e; cases e
      | false => rw [q] at e; exact ih b e
theorem RepF.length {vs : List (Str × V)} {ds : List (Str × D)} (h : RepF K cm F vs ds) : vs.length = ds.length := by
  induction vs generalizing ds with
  | nil => cases h; rfl
  | cons v vs ih => cases h with | cons a b => simp [ih b]
end

/-- an exception's own dict -/
def ExR (K : PySem.W.Frag) (cm : Str → Addr) (F : Hp) (od : Option Addr) (fs : List (Str × D)) : Prop := (od = none ∧ fs = []) ∨ ∃ dd ws, od = some dd ∧ F dd = some (.xd ws) ∧ RepF K cm F ws fs
/-! ### slots -/
inductive S where
  | no
  | val (d : D)
  | lst (xs : List D)
  | dK (kvs : List (Key × D))
  | dT (kvs : List (List Key × D))
  | ins (C : Str) (fs : List (Str × D))
  | err (C : Str) (fs : List (Str × D))
  deriving Inhabited
/-- where the classes stand; a caught error -/
structure Wd where
  cls : Str → Addr
  err : Hp → Addr → Str → List (Str × D) → Prop
instance : CoeFun Wd (fun _ => Str → Addr) := ⟨Wd.cls⟩
instance : Coe Wd (Str → Addr) := ⟨Wd.cls⟩
abbrev Slots := List S
def S.own : S → Bool
  | .no => false
  | .val _ => false
  | .err _ _ => false
  | _ => true
/-- an own object given up: plain data -/
def S.cold : S → Option D
  | .no => none
  | .val d => some d
  | .lst xs => some (.lst xs)
  | .dK k => some (.dK k)
  | .dT k => some (.dT k)
  | .ins C fs => some (.obj C fs)
  | .err _ _ => none

section
variable (K : PySem.W.Frag) (cm : Wd) (F H : Hp)
inductive RepO : HO → S → Prop where
  | lst {vs xs} : RepL K cm F vs xs → RepO (.lst vs) (.lst xs)
  | dK {vs xs} : RepK K cm F vs xs → RepO (.dK vs) (.dK xs)
  | dT {vs xs} : RepT K cm F vs xs → RepO (.dT vs) (.dT xs)
  | ins {C dx vs fs} : RepF K cm F vs fs → RepO (.ins (cm C) dx vs) (.ins C fs)
inductive RepS : V → S → Prop where
  | val {v d} : Rep K cm F v d → RepS v (.val d)
  | own {a o s} : H a = some o → F a = none → RepO K cm F o s → RepS (.ref a) s
  | err {a C fs F0} : (∀ b o, F0 b = some o → F b = some o) → cm.err F0 a C fs → RepS (.ref a) (.err C fs)
end
def ownAt (σ : St) (ρ : Slots) (i : Nat) (a : Addr) : Prop := ∃ s, ρ[i]? = some s ∧ s.own = true ∧ σ[i]? = some (some (.ref a))
def owns (σ : St) (ρ : Slots) (a : Addr) : Prop := ∃ i, ownAt σ ρ i a
structure Rel (K : PySem.W.Frag) (cm : Wd) (F : Hp) (σ : St) (H : Hp) (ρ : Slots) : Prop where
  len : σ.length = ρ.length
  sub : ∀ a o, F a = some o → H a = some o
  slot : ∀ (i : Nat) (s : S), ρ[i]? = some s → s ≠ .no → ∃ v, σ[i]? = some (some v) ∧ RepS K cm F H v s
  sep : ∀ (i j : Nat) (a : Addr), ownAt σ ρ i a → ownAt σ ρ j a → i = j
structure Post (K : PySem.W.Frag) (cm : Wd) (P : Nat → Bool) (F : Hp) (σ : St) (H : Hp) (ρ : Slots) (F' : Hp) (σ' : St) (H' : Hp) (ρ' : Slots) : Prop where
  rel : Rel K cm F' σ' H' ρ'
  mono : ∀ a o, F a = some o → F' a = some o
  lim : ∀ a, F' a ≠ none → F a ≠ none ∨ owns σ ρ a ∨ H a = none
  keep : ∀ a o, H a = some o → ¬ owns σ ρ a → H' a = some o
  new : ∀ a, owns σ' ρ' a → owns σ ρ a ∨ H a = none
  pin : ∀ i, P i = true → σ'[i]? = σ[i]?
  sl : σ'.length = σ.length

section
variable {K : PySem.W.Frag} {cm : Wd} {P : Nat → Bool} {F F' F'' : Hp} {σ σ' σ'' : St} {H H' H'' : Hp} {ρ ρ' ρ'' : Slots} {a b : Addr} {v : V} {s : S} {o : HO} {i j : Nat}
theorem RepO.own (h : RepO K cm F o s) : s.own = true := by cases h <;> rfl
theorem RepO.mono (m : ∀ a o, F a = some o → F' a = some o) (h : RepO K cm F o s) : RepO K cm F' o s := by
  cases h with
  | lst r => exact .lst (r.mono m)
  | dK r => exact .dK (r.mono m)
  | dT r => exact .dT (r.mono m)
  | ins r => exact .ins (r.mono m)
theorem RepS.of_own (h : RepS K cm F H v s) (e : s.own = true) : ∃ a o, v = .ref a ∧ H a = some o ∧ F a = none ∧ RepO K cm F o s := by
  cases h with
  | val r => cases e
  | own h1 h2 h3 => exact ⟨_, _, rfl, h1, h2, h3⟩
  | err q r => cases e
theorem RepS.of_val {d : D} (h : RepS K cm F H v (.val d)) : Rep K cm F v d := by
  cases h with
  | val r => exact r
  | own _ _ r => cases r
theorem RepS.no (h : RepS K cm F H v .no) : False := by
  cases h with
  | own _ _ r => cases r
/-- the cold form of an own object -/
theorem RepO.cold {d : D} (h : RepO K cm F o s) (e : s.cold = some d) (h1 : F' a = some o) (m : ∀ a o, F a = some o → F' a = some o) : Rep K cm F' (.ref a) d := by
  cases h with
  | lst r => cases e; exact .lst h1 (r.mono m)
  | dK r => cases e; exact .dK h1 (r.mono m)
  | dT r => cases e; exact .dT h1 (r.mono m)
  | ins r => cases e; exact .obj h1 (r.mono m)
theorem Rel.owned (R : Rel K cm F σ H ρ) (h : ownAt σ ρ i a) : ∃ s o, ρ[i]? = some s ∧ H a = some o ∧ F a = none ∧ RepO K cm F o s := by
  obtain ⟨s, h1, h2, h3⟩ := h
  obtain ⟨v, h4, h5⟩ := R.slot i s h1 (by rintro rfl; cases h2)
  obtain ⟨a', o, rfl, h6, h7, h8⟩ := h5.of_own h2
  rw [h3] at h4
  cases h4
  exact ⟨s, o, h1, h6, h7, h8⟩
theorem Rel.owned' (R : Rel K cm F σ H ρ) (h : owns σ ρ a) : H a ≠ none ∧ F a = none := by
  obtain ⟨i, h⟩ := h
  obtain ⟨_, o, _, h1, h2, _⟩ := R.owned h
  exact ⟨by rw [h1]; simp, h2⟩
theorem Post.refl (R : Rel K cm F σ H ρ) : Post K cm P F σ H ρ F σ H ρ :=
  ⟨R, fun _ _ h => h, fun _ h => .inl h, fun _ _ h _ => h, fun _ h => .inl h, fun _ _ => rfl, rfl⟩
theorem Post.gone (p : Post K cm P F σ H ρ F' σ' H' ρ') (h : H' a = none) : owns σ ρ a ∨ H a = none := by
  by_cases q : owns σ ρ a
  · exact .inl q
  · cases e : H a with
    | none => exact .inr rfl
    | some o => rw [p.keep a o e q] at h; cases h
theorem Post.trans (p : Post K cm P F σ H ρ F' σ' H' ρ') (q : Post K cm P F' σ' H' ρ' F'' σ'' H'' ρ'') : Post K cm P F σ H ρ F'' σ'' H'' ρ'' where
  rel := q.rel
  mono := fun a o h => q.mono a o (p.mono a o h)
  lim := fun a h => by
    rcases q.lim a h with h | h | h
    · exact p.lim a h
    · exact .inr (p.new a h)
    · exact .inr (p.gone h)
  keep := fun a o h n => by
    refine q.keep a o (p.keep a o h n) fun z => ?_
    rcases p.new a z with z | z
    · exact n z
    · rw [h] at z; cases z
  new := fun a h => by
    rcases q.new a h with h | h
    · exact p.new a h
    · exact p.gone h
  pin := fun i h => (q.pin i h).trans (p.pin i h)
  sl := q.sl.trans p.sl
/-- expressions pin everything: to any pin -/
theorem Post.any {P' : Nat → Bool} (p : Post K cm P F σ H ρ F' σ H' ρ') : Post K cm P' F σ H ρ F' σ H' ρ' :=
  ⟨p.rel, p.mono, p.lim, p.keep, p.new, fun _ _ => rfl, rfl⟩
theorem RepS.post (p : Post K cm P F σ H ρ F' σ' H' ρ') (r : RepS K cm F H v s) (h : ∀ a, v = .ref a → s.own = true → ¬ owns σ ρ a) : RepS K cm F' H' v s := by
  cases r with
  | val r => exact .val (r.mono p.mono)
  | err q r => exact .err (fun b o h => p.mono b o (q b o h)) r
  | @own a o s h1 h2 h3 =>
    have n := h a rfl h3.own
    refine .own (p.keep a o h1 n) ?_ (h3.mono p.mono)
    cases e : F' a with
    | none => rfl
    | some u =>
      rcases p.lim a (by rw [e]; simp) with z | z | z
      · exact absurd h2 z
      · exact absurd z n
      · rw [h1] at z; cases z
/-- nothing known is lost where nothing is owned -/
theorem upd_none_ne {H : Hp} {a b : Addr} {o : HO} (h : H a = some o) (n : H b = none) : a ≠ b := ne_of_none h n
/-- a new cold object -/
theorem Post.cold (R : Rel K cm F σ H ρ) (n : H a = none) : Post K cm P F σ H ρ (upd F a o) σ (upd H a o) ρ := by
  have nF : F a = none := by
    cases e : F a with
    | none => rfl
    | some u => rw [R.sub a u e] at n; cases n
  have m : ∀ b u, F b = some u → upd F a o b = some u := fun b u h => by rw [upd_ne (ne_of_none h nF)]; exact h
  refine ⟨⟨R.len, fun b u h => ?_, fun i s h1 h2 => ?_, R.sep⟩, m, fun b h => ?_, fun b u h _ => ?_, fun b h => .inl h, fun _ _ => rfl, rfl⟩
  · by_cases q : b = a
    · subst q; rw [upd_same] at h ⊢; exact h
    · rw [upd_ne q] at h ⊢; exact R.sub b u h
  · obtain ⟨v, h3, h4⟩ := R.slot i s h1 h2
    refine ⟨v, h3, ?_⟩
    cases h4 with
    | val r => exact .val (r.mono m)
    | err q r => exact .err (fun b o h => m b o (q b o h)) r
    | @own b o' s h5 h6 h7 =>
      have q : b ≠ a := ne_of_none h5 n
      exact .own (by rw [upd_ne q]; exact h5) (by rw [upd_ne q]; exact h6) (h7.mono m)
  · by_cases q : b = a
    · subst q; exact .inr (.inr n)
    · rw [upd_ne q] at h; exact .inl h
  · rw [upd_ne (ne_of_none h n)]; exact h
/-- a new object that is not given a place yet -/
theorem Post.warm (R : Rel K cm F σ H ρ) (n : H a = none) : Post K cm P F σ H ρ F σ (upd H a o) ρ := by
  refine ⟨⟨R.len, fun b u h => ?_, fun i s h1 h2 => ?_, R.sep⟩, fun _ _ h => h, fun b h => .inl h, fun b u h _ => ?_, fun b h => .inl h, fun _ _ => rfl, rfl⟩
  · rw [upd_ne (ne_of_none (R.sub b u h) n)]; exact R.sub b u h
  · obtain ⟨v, h3, h4⟩ := R.slot i s h1 h2
    refine ⟨v, h3, ?_⟩
    cases h4 with
    | val r => exact .val r
    | err q r => exact .err q r
    | @own b o' s h5 h6 h7 => exact .own (by rw [upd_ne (ne_of_none h5 n)]; exact h5) h6 h7
  · rw [upd_ne (ne_of_none h n)]; exact h
theorem Rel.noF (R : Rel K cm F σ H ρ) (n : H a = none) : F a = none := by
  cases e : F a with
  | none => rfl
  | some u => rw [R.sub a u e] at n; cases n
/-- an object that no slot owns is given up -/
theorem Post.chill (R : Rel K cm F σ H ρ) (h : H a = some o) (hF : F a = none) (no : ¬ owns σ ρ a) : Rel K cm (upd F a o) σ H ρ := by
  have m : ∀ b u, F b = some u → upd F a o b = some u := fun b u h => by rw [upd_ne (ne_of_none h hF)]; exact h
  refine ⟨R.len, fun b u h' => ?_, fun i s h1 h2 => ?_, R.sep⟩
  · by_cases q : b = a
    · subst q; rw [upd_same] at h'; rw [← h']; exact h
    · rw [upd_ne q] at h'; exact R.sub b u h'
  · obtain ⟨v, h3, h4⟩ := R.slot i s h1 h2
    refine ⟨v, h3, ?_⟩
    cases h4 with
    | val r => exact .val (r.mono m)
    | err q r => exact .err (fun b o h => m b o (q b o h)) r
    | @own b o' s h5 h6 h7 =>
      have q : b ≠ a := fun e => no ⟨i, s, h1, h7.own, by rw [← e]; exact h3⟩
      exact .own h5 (by rw [upd_ne q]; exact h6) (h7.mono m)
theorem ownAt_set_ne {ρ : Slots} {i j : Nat} {s : S} (h : j ≠ i) : ownAt σ (ρ.set i s) j a ↔ ownAt σ ρ j a := by
  unfold ownAt
  rw [List.getElem?_set_ne (Ne.symm h)]
/-- a slot's object given up -/
theorem Post.freeze {d : D} (R : Rel K cm F σ H ρ) (h1 : ρ[i]? = some s) (h2 : s.own = true) (h3 : s.cold = some d) :
    ∃ a F', σ[i]? = some (some (.ref a)) ∧ Post K cm P F σ H ρ F' σ H (ρ.set i (.val d)) ∧ Rep K cm F' (.ref a) d := by
  obtain ⟨v, h4, h5⟩ := R.slot i s h1 (by rintro rfl; cases h2)
  obtain ⟨a, o, rfl, h6, h7, h8⟩ := h5.of_own h2
  have hi : i < ρ.length := (List.getElem?_eq_some_iff.mp h1).1
  have m : ∀ b u, F b = some u → upd F a o b = some u := fun b u h => by rw [upd_ne (ne_of_none h h7)]; exact h
  have rd : Rep K cm (upd F a o) (.ref a) d := h8.cold h3 upd_same m
  have oi : ∀ j b, ownAt σ (ρ.set i (.val d)) j b → j ≠ i ∧ ownAt σ ρ j b := fun j b q => by
    by_cases e : j = i
    · subst e
      obtain ⟨s', q1, q2, _⟩ := q
      rw [List.getElem?_set_self hi] at q1
      cases q1; cases q2
    · exact ⟨e, (ownAt_set_ne e).mp q⟩
  refine ⟨a, upd F a o, h4, ⟨⟨by simpa using R.len, fun b u h' => ?_, fun j s' q1 q2 => ?_, fun j k b q1 q2 => R.sep j k b (oi j b q1).2 (oi k b q2).2⟩, m, fun b h' => ?_, fun b u h' _ => h', fun b ⟨j, q⟩ => .inl ⟨j, (oi j b q).2⟩, fun _ _ => rfl, rfl⟩, rd⟩
  · by_cases q : b = a
    · subst q; rw [upd_same] at h'; rw [← h']; exact h6
    · rw [upd_ne q] at h'; exact R.sub b u h'
  · by_cases e : j = i
    · subst e
      rw [List.getElem?_set_self hi] at q1
      cases q1
      exact ⟨_, h4, .val rd⟩
    · rw [List.getElem?_set_ne (Ne.symm e)] at q1
      obtain ⟨v', h9, h10⟩ := R.slot j s' q1 q2
      refine ⟨v', h9, ?_⟩
      cases h10 with
      | val r => exact .val (r.mono m)
      | err q r => exact .err (fun b o h => m b o (q b o h)) r
      | @own b o' s' h5 h6' h7' =>
        have q : b ≠ a := fun z => e (R.sep j i a ⟨s', q1, h7'.own, by rw [← z]; exact h9⟩ ⟨s, h1, h2, h4⟩)
        exact .own h5 (by rw [upd_ne q]; exact h6') (h7'.mono m)
  · by_cases q : b = a
    · subst q; exact .inr (.inl ⟨i, s, h1, h2, h4⟩)
    · rw [upd_ne q] at h'; exact .inl h'
/-- a slot's object written -/
theorem Post.write {s' : S} {o' : HO} (R : Rel K cm F σ H ρ) (h1 : ρ[i]? = some s) (h2 : s.own = true) (h4 : σ[i]? = some (some (.ref a))) (r : RepO K cm F o' s') :
    Post K cm P F σ H ρ F σ (upd H a o') (ρ.set i s') := by
  obtain ⟨v, h4', h5⟩ := R.slot i s h1 (by rintro rfl; cases h2)
  rw [h4] at h4'
  cases h4'
  obtain ⟨a', o, e, h6, h7, h8⟩ := h5.of_own h2
  cases e
  have hi : i < ρ.length := (List.getElem?_eq_some_iff.mp h1).1
  have oi : ∀ j b, ownAt σ (ρ.set i s') j b → ownAt σ ρ j b := fun j b q => by
    by_cases e : j = i
    · subst e
      obtain ⟨s'', q1, q2, q3⟩ := q
      exact ⟨s, h1, h2, q3⟩
    · exact (ownAt_set_ne e).mp q
  refine ⟨⟨by simpa using R.len, fun b u h' => ?_, fun j s'' q1 q2 => ?_, fun j k b q1 q2 => R.sep j k b (oi j b q1) (oi k b q2)⟩, fun _ _ h => h, fun b h => .inl h, fun b u h' n => ?_, fun b ⟨j, q⟩ => .inl ⟨j, oi j b q⟩, fun _ _ => rfl, rfl⟩
  · rw [upd_ne (ne_of_none h' h7)]; exact R.sub b u h'
  · by_cases e : j = i
    · subst e
      rw [List.getElem?_set_self hi] at q1
      cases q1
      exact ⟨_, h4, .own upd_same h7 r⟩
    · rw [List.getElem?_set_ne (Ne.symm e)] at q1
      obtain ⟨v', h9, h10⟩ := R.slot j s'' q1 q2
      refine ⟨v', h9, ?_⟩
      cases h10 with
      | val r => exact .val r
      | err q r => exact .err q r
      | @own b o'' s'' h5' h6' h7' =>
        have q : b ≠ a := fun z => e (R.sep j i a ⟨s'', q1, h7'.own, by rw [← z]; exact h9⟩ ⟨s, h1, h2, h4⟩)
        exact .own (by rw [upd_ne q]; exact h5') h6' h7'
  · have q : b ≠ a := fun z => n ⟨i, s, h1, h2, by rw [z]; exact h4⟩
    rw [upd_ne q]; exact h'
/-- a slot forgotten -/
theorem Rel.forget (R : Rel K cm F σ H ρ) : Rel K cm F σ H (ρ.set i .no) := by
  have oi : ∀ j b, ownAt σ (ρ.set i .no) j b → ownAt σ ρ j b := fun j b q => by
    by_cases e : j = i
    · subst e
      obtain ⟨s'', q1, q2, q3⟩ := q
      have hi : j < (ρ.set j S.no).length := (List.getElem?_eq_some_iff.mp q1).1
      rw [List.length_set] at hi
      rw [List.getElem?_set_self hi] at q1
      cases q1; cases q2
    · exact (ownAt_set_ne e).mp q
  refine ⟨by simpa using R.len, R.sub, fun j s q1 q2 => ?_, fun j k b q1 q2 => R.sep j k b (oi j b q1) (oi k b q2)⟩
  by_cases e : j = i
  · subst e
    have hi : j < (ρ.set j S.no).length := (List.getElem?_eq_some_iff.mp q1).1
    rw [List.length_set] at hi
    rw [List.getElem?_set_self hi] at q1
    cases q1; exact absurd rfl q2
  · rw [List.getElem?_set_ne (Ne.symm e)] at q1
    exact R.slot j s q1 q2
/-- a name is given a value -/
theorem Post.store (R : Rel K cm F σ H ρ) (r : RepS K cm F H v s) (hf : ∀ a, v = .ref a → s.own = true → ¬ owns σ ρ a) (hi : i < ρ.length) (hP : P i = false) :
    Rel K cm F (σ.set i (some v)) H (ρ.set i s) ∧ (∀ k, P k = true → (σ.set i (some v))[k]? = σ[k]?) ∧ ∀ a, owns (σ.set i (some v)) (ρ.set i s) a → owns σ ρ a ∨ (v = .ref a ∧ s.own = true) := by
  have hσ : i < σ.length := by rw [R.len]; exact hi
  have oi : ∀ j b, ownAt (σ.set i (some v)) (ρ.set i s) j b → (j ≠ i ∧ ownAt σ ρ j b) ∨ (j = i ∧ v = .ref b ∧ s.own = true) := fun j b q => by
    by_cases e : j = i
    · subst e
      obtain ⟨s'', q1, q2, q3⟩ := q
      rw [List.getElem?_set_self hi] at q1
      rw [List.getElem?_set_self hσ] at q3
      cases q1; cases q3
      exact .inr ⟨rfl, rfl, q2⟩
    · obtain ⟨s'', q1, q2, q3⟩ := q
      rw [List.getElem?_set_ne (Ne.symm e)] at q1 q3
      exact .inl ⟨e, s'', q1, q2, q3⟩
  refine ⟨⟨by simpa using R.len, R.sub, fun j s' q1 q2 => ?_, fun j k b q1 q2 => ?_⟩, fun k hk => ?_, fun b ⟨j, q⟩ => ?_⟩
  · by_cases e : j = i
    · subst e
      rw [List.getElem?_set_self hi] at q1
      cases q1
      exact ⟨v, List.getElem?_set_self hσ, r⟩
    · rw [List.getElem?_set_ne (Ne.symm e)] at q1
      obtain ⟨v', h9, h10⟩ := R.slot j s' q1 q2
      exact ⟨v', by rw [List.getElem?_set_ne (Ne.symm e)]; exact h9, h10⟩
  · rcases oi j b q1 with ⟨n1, z1⟩ | ⟨n1, z1, z2⟩
    · rcases oi k b q2 with ⟨n2, w1⟩ | ⟨n2, w1, w2⟩
      · exact R.sep j k b z1 w1
      · exact absurd ⟨j, z1⟩ (hf b w1 w2)
    · rcases oi k b q2 with ⟨n2, w1⟩ | ⟨n2, w1, w2⟩
      · exact absurd ⟨k, w1⟩ (hf b z1 z2)
      · rw [n1, n2]
  · rw [List.getElem?_set_ne]
    rintro rfl
    rw [hP] at hk; cases hk
  · rcases oi j b q with ⟨_, z⟩ | ⟨_, z1, z2⟩
    · exact .inl ⟨j, z⟩
    · exact .inr ⟨z1, z2⟩
end
end L2.Fn
set_option maxRecDepth 100000
set_option maxHeartbeats 4000000
/-! FnB: a reading computes; names, constants, operators, comparisons, tests. -/
namespace L2.Fn
open PySem PySem.Spec PyProof.Rows L2

/-- an expression's end: a value, or an error of a class with its fields -/
inductive Ex (α : Type) where
  | ok (a : α) (ρ : Slots)
  | ex (C : Str) (fs : List (Str × D)) (ρ : Slots)
abbrev ME (α : Type) := Slots → Option (Ex α)
def ME.bnd {α β : Type} (m : ME α) (k : α → ME β) : ME β := fun ρ =>
  match m ρ with
  | none => none
  | some (.ok a ρ') => k a ρ'
  | some (.ex C fs ρ') => some (.ex C fs ρ')
def ret {α : Type} (a : α) : ME α := fun ρ => some (.ok a ρ)
/-- a result that may not be there (then nothing is promised) -/
def opt {α : Type} (o : Option α) : ME α := fun ρ => match o with
  | none => none
  | some a => some (.ok a ρ)

abbrev pinAll : Nat → Bool := fun _ => true
/-- what a result is -/
abbrev RR (β α : Type) := Hp → St → Hp → Slots → Hp → Hp → Slots → β → α → Prop

section
variable (K : PySem.W.Frag) (cm : Wd) (W : WX)
def EPost {β α : Type} (R : RR β α) (F : Hp) (σ : St) (H : Hp) (ρ : Slots) (Q : β → Hp → Prop) : Ex α → Prop
  | .ok d ρ' => ∀ v F' H', Post K cm pinAll F σ H ρ F' σ H' ρ' → R F σ H ρ F' H' ρ' v d → Q v H'
  | .ex C fs ρ' => ∀ od F' H', Post K cm pinAll F σ H ρ F' σ H' ρ' → ExR K cm F' od fs → W (.ref (cm C)) od σ H'
def Sim {β α : Type} (R : RR β α) (t : St → Hp → (β → Hp → Prop) → Prop) (m : ME α) : Prop :=
  ∀ ρ r, m ρ = some r → ∀ F σ H Q, Rel K cm F σ H ρ → EPost K cm W R F σ H ρ Q r → t σ H Q
/-- what a relation of results leans on ahead may be moved forward -/
def Tr {β α : Type} (R : RR β α) : Prop := ∀ F σ H ρ F1 H1 ρ1 F2 H2 ρ2 v d, Post K cm pinAll F σ H ρ F1 σ H1 ρ1 → R F1 σ H1 ρ1 F2 H2 ρ2 v d → R F σ H ρ F2 H2 ρ2 v d
def RD : RR V D := fun _ _ _ _ F' _ _ v d => Rep K cm F' v d
/-- a value of one's own: plain data, or a new object that no slot owns -/
def RO : RR V S := fun F σ H ρ F' H' ρ' v s => RepS K cm F' H' v s ∧ ∀ a, v = .ref a → s.own = true → ¬ owns σ ρ' a ∧ (owns σ ρ a ∨ H a = none)
/-- a value that may be a slot's own -/
def RP : RR V S := fun _ _ _ _ F' H' _ v s => RepS K cm F' H' v s
def RB : RR Bool Bool := fun _ _ _ _ _ _ _ b c => b = c
def RDs : RR (List V) (List D) := fun _ _ _ _ F' _ _ vs ds => RepL K cm F' vs ds
def ROp : RR (Option Int) (Option Int) := fun _ _ _ _ _ _ _ b c => b = c
end

section
variable {K : PySem.W.Frag} {cm : Wd} {W : WX} {β β' α α' : Type} {R : RR β α} {R' : RR β' α'} {F F1 : Hp} {σ : St} {H H1 : Hp} {ρ ρ1 : Slots}
theorem tr_D : Tr K cm (RD K cm) := fun _ _ _ _ _ _ _ _ _ _ _ _ _ h => h
theorem tr_P : Tr K cm (RP K cm) := fun _ _ _ _ _ _ _ _ _ _ _ _ _ h => h
theorem tr_B : Tr K cm RB := fun _ _ _ _ _ _ _ _ _ _ _ _ _ h => h
theorem tr_Ds : Tr K cm (RDs K cm) := fun _ _ _ _ _ _ _ _ _ _ _ _ _ h => h
theorem tr_Op : Tr K cm ROp := fun _ _ _ _ _ _ _ _ _ _ _ _ _ h => h
theorem tr_O : Tr K cm (RO K cm) := fun F σ H ρ F1 H1 ρ1 F2 H2 ρ2 v s p h => ⟨h.1, fun a e o => ⟨(h.2 a e o).1, by
  rcases (h.2 a e o).2 with z | z
  · exact p.new a z
  · exact p.gone z⟩⟩
theorem EPost.trans {Q : β → Hp → Prop} {r : Ex α} (tr : Tr K cm R) (h : EPost K cm W R F σ H ρ Q r) (p : Post K cm pinAll F σ H ρ F1 σ H1 ρ1) : EPost K cm W R F1 σ H1 ρ1 Q r := by
  cases r with
  | ok d ρ' => exact fun v F' H' q x => h v F' H' (p.trans q) (tr _ _ _ _ _ _ _ _ _ _ _ _ p x)
  | ex C fs ρ' => exact fun od F' H' q x => h od F' H' (p.trans q) x
theorem Sim.step {t : St → Hp → (β' → Hp → Prop) → Prop} {m : ME α'} {k : α' → ME α} {r : Ex α} {Q : β → Hp → Prop} {Q' : β' → Hp → Prop} (h : Sim K cm W R' t m) (e : m.bnd k ρ = some r) (hr : Rel K cm F σ H ρ) (hp : EPost K cm W R F σ H ρ Q r)
    (hQ : ∀ d ρ1 v F1 H1, k d ρ1 = some r → Post K cm pinAll F σ H ρ F1 σ H1 ρ1 → R' F σ H ρ F1 H1 ρ1 v d → Q' v H1) : t σ H Q' := by
  unfold ME.bnd at e
  cases q : m ρ with
  | none => rw [q] at e; cases e
  | some x =>
    rw [q] at e
    cases x with
    | ok a ρ' => exact h ρ _ q F σ H Q' hr fun v F' H' p x => hQ a ρ' v F' H' e p x
    | ex C fs ρ' =>
      cases e
      exact h ρ _ q F σ H Q' hr hp
theorem opt_ok {o : Option α} {r : Ex α} (e : opt o ρ = some r) : ∃ a, o = some a ∧ r = .ok a ρ := by
  unfold opt at e
  cases o with
  | none => cases e
  | some a => exact ⟨a, rfl, (Option.some.inj e).symm⟩
theorem ret_ok {a : α} {r : Ex α} (e : ret a ρ = some r) : r = .ok a ρ := (Option.some.inj e).symm
end

/-! ### judgements -/
section
variable (X : Cx) (cm : Wd) (W : WX)
/-- an expression as plain data -/
structure DE (e : Expr) (t : TE) (m : ME D) : Prop where
  pe : PE X e t
  sim : Sim X.K cm W (RD X.K cm) t m
/-- .. as a value of one's own -/
structure OE (e : Expr) (t : TE) (m : ME S) : Prop where
  pe : PE X e t
  sim : Sim X.K cm W (RO X.K cm) t m
/-- .. looked at -/
structure BE (e : Expr) (t : TE) (m : ME S) : Prop where
  pe : PE X e t
  sim : Sim X.K cm W (RP X.K cm) t m
structure TEs (e : Expr) (t : TT) (m : ME Bool) : Prop where
  pt : PT X e t
  sim : Sim X.K cm W RB t m
structure WEs (e : Expr) (t : TT) (m : ME Bool) : Prop where
  pw : PW X e t
  sim : Sim X.K cm W RB t m
structure AE (es : List Expr) (t : TA) (m : ME (List D)) : Prop where
  pa : PA X es t
  sim : Sim X.K cm W (RDs X.K cm) t m
end

section
variable {X : Cx} {cm : Wd} {W : WX} {e a b c : Expr} {t ta tb tc : TE} {m ma mb mc : ME D} {pos : Pos}
/-! ### from one to another -/
def mCold (m : ME S) : ME D := m.bnd fun s => opt s.cold
theorem de_cold {mo : ME S} (h : OE X cm W e t mo) : DE X cm W e t (mCold mo) := by
  refine ⟨h.pe, fun ρ r e F σ H Q hr hp => ?_⟩
  refine h.sim.step (Q' := Q) e hr hp fun s ρ1 v F1 H1 e1 p1 r1 => ?_
  obtain ⟨d, h1, rfl⟩ := opt_ok e1
  obtain ⟨r1, r2⟩ := r1
  cases r1 with
  | err q r => cases h1
  | val rd => cases h1; exact hp v F1 H1 p1 rd
  | @own a o s h3 h4 h5 =>
    have no := (r2 a rfl h5.own).1
    have nw := (r2 a rfl h5.own).2
    have rl := Post.chill p1.rel h3 h4 no
    have mm : ∀ b u, F1 b = some u → upd F1 a o b = some u := fun b u h => by rw [upd_ne (ne_of_none h h4)]; exact h
    refine hp _ (upd F1 a o) H1 ⟨rl, fun b u h => mm b u (p1.mono b u h), fun b h => ?_, p1.keep, p1.new, p1.pin, rfl⟩ (h5.cold h1 upd_same mm)
    by_cases q : b = a
    · subst q; exact .inr nw
    · rw [upd_ne q] at h; exact p1.lim b h
def mWarm (m : ME D) : ME S := m.bnd fun d => ret (.val d)
theorem oe_val (h : DE X cm W e t m) : OE X cm W e t (mWarm m) := by
  refine ⟨h.pe, fun ρ r e F σ H Q hr hp => ?_⟩
  refine h.sim.step (Q' := Q) e hr hp fun d ρ1 v F1 H1 e1 p1 r1 => ?_
  cases ret_ok e1
  exact hp v F1 H1 p1 ⟨.val r1, fun _ _ z => by cases z⟩
theorem be_val (h : DE X cm W e t m) : BE X cm W e t (mWarm m) := by
  refine ⟨h.pe, fun ρ r e F σ H Q hr hp => ?_⟩
  refine h.sim.step (Q' := Q) e hr hp fun d ρ1 v F1 H1 e1 p1 r1 => ?_
  cases ret_ok e1
  exact hp v F1 H1 p1 (.val r1)
theorem be_own {mo : ME S} (h : OE X cm W e t mo) : BE X cm W e t mo :=
  ⟨h.pe, fun ρ r e F σ H Q hr hp => h.sim ρ r e F σ H Q hr (by
    cases r with
    | ok s ρ' => exact fun v F' H' p x => hp v F' H' p x.1
    | ex C fs ρ' => exact hp)⟩

/-! ### names, constants -/
def mVar (i : Nat) : ME D := fun ρ => match ρ[i]? with
  | some s => (match s with
    | .val d => some (.ok d ρ)
    | s => (match s.cold with
      | some d => some (.ok d (ρ.set i (.val d)))
      | none => none))
  | none => none
theorem de_var {i : Nat} {x : Str} (hN : X.N[i]? = some x) (hv : Vis X.env.scope x) (hd : (x == ("__debug__" : Str)) = false := by decide) (hcd : (x == ("__classdict__" : Str)) = false := by decide) : DE X cm W (.Name x pos) (tVar i) (mVar i) := by
  refine ⟨pe_var hN hv hd hcd, fun ρ r e F σ H Q hr hp => ?_⟩
  unfold mVar at e
  cases q : ρ[i]? with
  | none => rw [q] at e; cases e
  | some s =>
    rw [q] at e
    cases ho : s.own with
    | false =>
      cases s with
      | val d =>
        cases e
        obtain ⟨v, h1, h2⟩ := hr.slot i _ q (by simp)
        exact ⟨v, h1, hp v F H (Post.refl hr) h2.of_val⟩
      | no => cases e
      | err _ _ => cases e
      | _ => cases ho
    | true =>
      cases hc : s.cold with
      | none => cases s <;> simp_all [S.cold, S.own]
      | some d =>
        have e' : some (Ex.ok d (ρ.set i (.val d))) = some r := by
          cases s <;> simp_all [S.cold, S.own]
        cases e'
        obtain ⟨a, F', h1, p, rd⟩ := Post.freeze (P := pinAll) hr q ho hc
        exact ⟨_, h1, hp _ F' H p rd⟩
/-- a name's slot, looked at -/
def mPeek (i : Nat) : ME S := fun ρ => match ρ[i]? with
  | some s => (match s with
    | .no => none
    | s => some (.ok s ρ))
  | none => none
theorem mPeek_ok {i : Nat} {ρ : Slots} {r : Ex S} (e : mPeek i ρ = some r) : ∃ s, ρ[i]? = some s ∧ s ≠ .no ∧ r = .ok s ρ := by
  unfold mPeek at e
  cases q : ρ[i]? with
  | none => rw [q] at e; cases e
  | some s =>
    rw [q] at e
    cases s with
    | no => cases e
    | _ => cases e; exact ⟨_, rfl, by simp, rfl⟩
theorem be_var {i : Nat} {x : Str} (hN : X.N[i]? = some x) (hv : Vis X.env.scope x) (hd : (x == ("__debug__" : Str)) = false := by decide) (hcd : (x == ("__classdict__" : Str)) = false := by decide) : BE X cm W (.Name x pos) (tVar i) (mPeek i) := by
  refine ⟨pe_var hN hv hd hcd, fun ρ r e F σ H Q hr hp => ?_⟩
  obtain ⟨s, q, ns, rfl⟩ := mPeek_ok e
  obtain ⟨v, h1, h2⟩ := hr.slot i s q ns
  exact ⟨v, h1, hp v F H (Post.refl hr) h2⟩
/-- a name's own object, given away (the name is not read again) -/
def mMove (i : Nat) : ME S := fun ρ => match ρ[i]? with
  | some s => (match s with
    | .no => none
    | s => some (.ok s (ρ.set i .no)))
  | none => none
theorem mMove_ok {i : Nat} {ρ : Slots} {r : Ex S} (e : mMove i ρ = some r) : ∃ s, ρ[i]? = some s ∧ s ≠ .no ∧ r = .ok s (ρ.set i .no) := by
  unfold mMove at e
  cases q : ρ[i]? with
  | none => rw [q] at e; cases e
  | some s =>
    rw [q] at e
    cases s with
    | no => cases e
    | _ => cases e; exact ⟨_, rfl, by simp, rfl⟩
theorem owns_forget {σ : St} {ρ : Slots} {i : Nat} {a : Addr} (h : owns σ (ρ.set i .no) a) : ∃ j, j ≠ i ∧ ownAt σ ρ j a := by
  obtain ⟨j, s, q1, q2, q3⟩ := h
  by_cases e : j = i
  · subst e
    have hi : j < (ρ.set j S.no).length := (List.getElem?_eq_some_iff.mp q1).1
    rw [List.length_set] at hi
    rw [List.getElem?_set_self hi] at q1
    cases q1; cases q2
  · rw [List.getElem?_set_ne (Ne.symm e)] at q1
    exact ⟨j, e, s, q1, q2, q3⟩
theorem oe_move {i : Nat} {x : Str} (hN : X.N[i]? = some x) (hv : Vis X.env.scope x) (hd : (x == ("__debug__" : Str)) = false := by decide) (hcd : (x == ("__classdict__" : Str)) = false := by decide) : OE X cm W (.Name x pos) (tVar i) (mMove i) := by
  refine ⟨pe_var hN hv hd hcd, fun ρ r e F σ H Q hr hp => ?_⟩
  obtain ⟨s, q, ns, rfl⟩ := mMove_ok e
  obtain ⟨v, h1, h2⟩ := hr.slot i s q ns
  refine ⟨v, h1, hp v F H ⟨hr.forget, fun _ _ h => h, fun _ h => .inl h, fun _ _ h _ => h, fun a h => ?_, fun _ _ => rfl, rfl⟩ ⟨h2, fun a e o => ⟨fun z => ?_, .inl ⟨i, s, q, o, by rw [h1, e]⟩⟩⟩⟩
  · obtain ⟨j, _, z⟩ := owns_forget h; exact .inl ⟨j, z⟩
  · obtain ⟨j, n, z⟩ := owns_forget z
    exact n (hr.sep j i a z ⟨s, q, o, by rw [h1, e]⟩)
theorem de_const {v : V} {d : D} (h : PE X e (tC v)) (r : ∀ F, Rep X.K cm F v d) : DE X cm W e (tC v) (ret d) := by
  refine ⟨h, fun ρ r' e F σ H Q hr hp => ?_⟩
  cases ret_ok e
  exact hp v F H (Post.refl hr) (r F)
theorem de_int {i j} : DE X cm W (.Constant (.int i) j pos) (tC (.int i)) (ret (.int i)) := de_const pe_int fun _ => .int
theorem de_bl {i j} : DE X cm W (.Constant (.bool i) j pos) (tC (.bl i)) (ret (.bl i)) := de_const pe_bl fun _ => .bl
theorem de_non {j} : DE X cm W (.Constant .none j pos) (tC .non) (ret .non) := de_const pe_non fun _ => .non
theorem de_str {x j} : DE X cm W (.Constant (.str x) j pos) (tC (.str x)) (ret (.str x)) := de_const pe_str fun _ => .str

/-! ### operators on data -/
def OpD (K : PySem.W.Frag) (cm : Wd) (r : R2) (g : D → D → Option S) : Prop := ∀ {F σ H ρ x y dx dy s Q}, Rel K cm F σ H ρ → Rep K cm F x dx → Rep K cm F y dy → g dx dy = some s →
  (∀ v F' H', Post K cm pinAll F σ H ρ F' σ H' ρ → RO K cm F σ H ρ F' H' ρ v s → Q v H') → r x y H Q
def mOp (g : D → D → Option S) (ma mb : ME D) : ME S := ma.bnd fun x => mb.bnd fun y => opt (g x y)
theorem sim_op {K : PySem.W.Frag} {r : R2} {g : D → D → Option S} (ho : OpD K cm r g) (ha : Sim K cm W (RD K cm) ta ma) (hb : Sim K cm W (RD K cm) tb mb) : Sim K cm W (RO K cm) (tOp r ta tb) (mOp g ma mb) := by
  intro ρ r e F σ H Q hr hp
  refine ha.step e hr hp fun dx ρ1 x F1 H1 e1 p1 r1 => ?_
  refine hb.step e1 p1.rel (hp.trans tr_O p1) fun dy ρ2 y F2 H2 e2 p2 r2 => ?_
  obtain ⟨d, h1, rfl⟩ := opt_ok e2
  have p := p1.trans p2
  refine ho p2.rel (Rep.mono p2.mono r1) r2 h1 fun v F' H' q z => hp v F' H' (p.trans q) (tr_O _ _ _ _ _ _ _ _ _ _ _ _ p z)
theorem oe_op {op : Operator} {r : R2} {g : D → D → Option S} (hx : OpR X (binaryOp op) r) (ho : OpD X.K cm r g) (ha : DE X cm W a ta ma) (hb : DE X cm W b tb mb) : OE X cm W (.BinOp a op b pos) (tOp r ta tb) (mOp g ma mb) :=
  ⟨pe_op hx ha.pe hb.pe, sim_op ho ha.sim hb.sim⟩
theorem oe_cmp {op : CmpOp} {r : R2} {g : D → D → Option S} (hx : OpR X (compareOp op) r) (ho : OpD X.K cm r g) (ha : DE X cm W a ta ma) (hb : DE X cm W b tb mb) (hm : behindInMarks op b = false) : OE X cm W (.Compare a [op] [b] pos) (tOp r ta tb) (mOp g ma mb) :=
  ⟨pe_cmpR hx ha.pe hb.pe hm, sim_op ho ha.sim hb.sim⟩
/-- one operand -/
def UnD (K : PySem.W.Frag) (cm : Wd) (r : V → Hp → VK → Prop) (g : D → Option D) : Prop := ∀ {F σ H ρ x dx d Q}, Rel K cm F σ H ρ → Rep K cm F x dx → g dx = some d →
  (∀ v F' H', Post K cm pinAll F σ H ρ F' σ H' ρ → Rep K cm F' v d → Q v H') → r x H Q
def mUn (g : D → Option D) (ma : ME D) : ME D := ma.bnd fun x => opt (g x)
theorem de_un {op : UnaryOp} {r : V → Hp → VK → Prop} {g : D → Option D} (hx : UnR X (unaryOp op) r) (ho : UnD X.K cm r g) (ha : DE X cm W a ta ma) : DE X cm W (.UnaryOp op a pos) (tUn r ta) (mUn g ma) := by
  refine ⟨pe_un hx ha.pe, fun ρ r e F σ H Q hr hp => ?_⟩
  refine ha.sim.step e hr hp fun dx ρ1 x F1 H1 e1 p1 r1 => ?_
  obtain ⟨d, h1, rfl⟩ := opt_ok e1
  exact ho p1.rel r1 h1 fun v F' H' q z => hp v F' H' (p1.trans q) z
def gNeg : D → Option D
  | .int i => some (.int (-i))
  | _ => none
theorem ud_neg {K : PySem.W.Frag} : UnD K cm (rU fun i => .int (-i)) gNeg := by
  intro F σ H ρ x dx d Q hr hx hg hQ
  cases hx <;> simp only [gNeg] at hg <;> first | (cases hg; done) | skip
  cases hg
  exact ⟨_, rfl, hQ _ F H (Post.refl hr) .int⟩
theorem rd_val {K : PySem.W.Frag} {F : Hp} {σ : St} {H : Hp} {ρ : Slots} {v : V} {d : D} (r : Rep K cm F v d) : RO K cm F σ H ρ F H ρ v (.val d) := ⟨.val r, fun _ _ z => by cases z⟩
/-- a new cold tuple -/
theorem rd_tup {K : PySem.W.Frag} {F : Hp} {σ : St} {H : Hp} {ρ : Slots} {p : Addr} {vs : List V} {ds : List D} (hr : Rel K cm F σ H ρ) (hp : H p = none) (r : RepL K cm F vs ds) :
    Rep K cm (upd F p (.tup vs)) (.ref p) (.tup ds) := .tup upd_same (r.mono fun b u h => by rw [upd_ne (ne_of_none h (hr.noF hp))]; exact h)
/-- a new own list -/
theorem rd_lst {K : PySem.W.Frag} {F : Hp} {σ : St} {H : Hp} {ρ : Slots} {p : Addr} {vs : List V} {ds : List D} (hr : Rel K cm F σ H ρ) (hp : H p = none) (r : RepL K cm F vs ds) :
    RO K cm F σ H ρ F (upd H p (.lst vs)) ρ (.ref p) (.lst ds) :=
  ⟨.own upd_same (hr.noF hp) (.lst r), fun a e _ => by
    cases e
    exact ⟨fun z => (hr.owned' z).1 hp, .inr hp⟩⟩
end

/-! ### addition -/
def gAdd : D → D → Option S
  | .int i, .int j => some (.val (.int (i + j)))
  | .str i, .str j => if i.length + j.length ≤ sizeLine then some (.val (.str (i ++ j))) else none
  | .lst xs, .lst ys => if xs.length + ys.length ≤ sizeLine then some (.lst (xs ++ ys)) else none
  | _, _ => none
def rAddX : R2 := fun x y H Q => (rI0 fun i j => .int (i + j)) x y H Q ∨ (∃ i j, x = .str i ∧ y = .str j ∧ i.length + j.length ≤ sizeLine ∧ Q (.str (i ++ j)) H) ∨ rCat x y H Q
theorem op_addX {X : Cx} : OpR X (binaryOp .Add) rAddX := op_add.or (op_add_str.or op_cat)
theorem od_add {K : PySem.W.Frag} {cm : Wd} : OpD K cm rAddX gAdd := by
  intro F σ H ρ x y dx dy s Q hr hx hy hg hQ
  cases hx with
  | int =>
    cases hy with
    | int => cases hg; exact .inl ⟨_, _, rfl, rfl, hQ _ F H (Post.refl hr) (rd_val .int)⟩
    | _ => cases hg
  | str =>
    cases hy with
    | str =>
      simp only [gAdd] at hg
      split at hg
      · rename_i hl; cases hg; exact .inr (.inl ⟨_, _, rfl, rfl, hl, hQ _ F H (Post.refl hr) (rd_val .str)⟩)
      · cases hg
    | _ => cases hg
  | lst h1 r1 =>
    cases hy with
    | lst h2 r2 =>
      simp only [gAdd] at hg
      split at hg
      · rename_i hl
        cases hg
        refine .inr (.inr ⟨_, _, _, _, rfl, rfl, hr.sub _ _ h1, hr.sub _ _ h2, by rw [r1.length, r2.length]; exact hl, fun p hp => ?_⟩)
        exact hQ _ F _ (Post.warm hr hp) (rd_lst hr hp (r1.append r2))
      · cases hg
    | _ => cases hg
  | _ => cases hg
section
variable {K : PySem.W.Frag} {cm : Wd}
/-- an operator on two ints -/
theorem od_int {C : Int → Int → Prop} [∀ i j, Decidable (C i j)] {f : Int → Int → Int} : OpD K cm (rI C fun i j => .int (f i j)) (fun x y => match x, y with
  | .int i, .int j => if C i j then some (.val (.int (f i j))) else none
  | _, _ => none) := by
  intro F σ H ρ x y dx dy s Q hr hx hy hg hQ
  cases hx with
  | int =>
    cases hy with
    | int =>
      simp only at hg
      split at hg
      · rename_i hc; cases hg; exact ⟨_, _, rfl, rfl, hc, hQ _ F H (Post.refl hr) (rd_val .int)⟩
      · cases hg
    | _ => cases hg
  | _ => cases hg
theorem od_int0 {f : Int → Int → V} {g : Int → Int → D} (h : ∀ F i j, Rep K cm F (f i j) (g i j)) : OpD K cm (rI0 f) (fun x y => match x, y with
  | .int i, .int j => some (.val (g i j))
  | _, _ => none) := by
  intro F σ H ρ x y dx dy s Q hr hx hy hg hQ
  cases hx with
  | int =>
    cases hy with
    | int => cases hg; exact ⟨_, _, rfl, rfl, hQ _ F H (Post.refl hr) (rd_val (h F _ _))⟩
    | _ => cases hg
  | _ => cases hg
end
instance : ∀ i j, Decidable (CMul i j) := fun i j => by unfold CMul; infer_instance
instance : ∀ i j, Decidable (CDiv i j) := fun i j => by unfold CDiv; infer_instance
instance : ∀ i j, Decidable (CPow i j) := fun i j => by unfold CPow; infer_instance
def gInt (C : Int → Int → Prop) [∀ i j, Decidable (C i j)] (f : Int → Int → Int) : D → D → Option S := fun x y => match x, y with
  | .int i, .int j => if C i j then some (.val (.int (f i j))) else none
  | _, _ => none
def gI0 (g : Int → Int → D) : D → D → Option S := fun x y => match x, y with
  | .int i, .int j => some (.val (g i j))
  | _, _ => none
abbrev gMul := gInt CMul fun i j => i * j
abbrev gDiv := gInt CDiv fun i j => i / j
abbrev gMod := gInt (fun _ j => 0 < j) fun i j => i % j
abbrev gPow := gInt CPow fun i j => i ^ j.toNat
abbrev gSub := gI0 fun i j => .int (i - j)
abbrev gLt := gI0 fun i j => .bl (decide (i < j))
abbrev gLe := gI0 fun i j => .bl (decide (i ≤ j))
abbrev gGt := gI0 fun i j => .bl (decide (j < i))
abbrev gGe := gI0 fun i j => .bl (decide (j ≤ i))
section
variable {K : PySem.W.Frag} {cm : Wd}
theorem od_mul : OpD K cm (rI CMul fun i j => .int (i * j)) gMul := od_int
theorem od_div : OpD K cm (rI CDiv fun i j => .int (i / j)) gDiv := od_int
theorem od_mod : OpD K cm (rI (fun _ j => 0 < j) fun i j => .int (i % j)) gMod := od_int
theorem od_pow : OpD K cm (rI CPow fun i j => .int (i ^ j.toNat)) gPow := od_int
theorem od_sub : OpD K cm (rI0 fun i j => .int (i - j)) gSub := od_int0 fun _ _ _ => .int
theorem od_lt : OpD K cm (rI0 fun i j => .bl (decide (i < j))) gLt := od_int0 fun _ _ _ => .bl
theorem od_le : OpD K cm (rI0 fun i j => .bl (decide (i ≤ j))) gLe := od_int0 fun _ _ _ => .bl
theorem od_gt : OpD K cm (rI0 fun i j => .bl (decide (j < i))) gGt := od_int0 fun _ _ _ => .bl
theorem od_ge : OpD K cm (rI0 fun i j => .bl (decide (j ≤ i))) gGe := od_int0 fun _ _ _ => .bl
end

/-! ### == of data -/
mutual
def D.py : D → Option PyData
  | .non => some .none
  | .bl b => some (.bool b)
  | .int i => some (.int i)
  | .str x => some (.str x)
  | .tup xs => (D.pys xs).map .tuple
  | .lst xs => (D.pys xs).map .list
  | _ => none
def D.pys : List D → Option (List PyData)
  | [] => some []
  | x :: xs => match D.py x, D.pys xs with
    | some a, some b => some (a :: b)
    | _, _ => none
end
section
variable {K : PySem.W.Frag} {cm : Wd} {F H : Hp}
mutual
theorem Rep.dp (m : ∀ a o, F a = some o → H a = some o) : ∀ {v : V} {d : D} {p : PyData}, Rep K cm F v d → d.py = some p → Dp K H v p
  | _, _, _, .non, e => by cases e; exact .non
  | _, _, _, .bl, e => by cases e; exact .bl _
  | _, _, _, .int, e => by cases e; exact .int _
  | _, _, _, .str, e => by cases e; exact .str _
  | _, _, _, @Rep.tup _ _ _ _ vs xs h r, e => by
    simp only [D.py] at e
    cases q : D.pys xs with
    | none => rw [q] at e; cases e
    | some ps => rw [q] at e; cases e; exact .tup (SqT.of (m _ _ h)) (RepL.dp m r q)
  | _, _, _, @Rep.lst _ _ _ _ vs xs h r, e => by
    simp only [D.py] at e
    cases q : D.pys xs with
    | none => rw [q] at e; cases e
    | some ps => rw [q] at e; cases e; exact .lst (SqL.of (m _ _ h)) (RepL.dp m r q)
  | _, _, _, .scr h r, e => by cases e
  | _, _, _, .ktp h r, e => by cases e
  | _, _, _, .dK h r, e => by cases e
  | _, _, _, .dT h r, e => by cases e
  | _, _, _, .obj h r, e => by cases e
theorem RepL.dp (m : ∀ a o, F a = some o → H a = some o) : ∀ {v : List V} {d : List D} {p : List PyData}, RepL K cm F v d → D.pys d = some p → DpAll K H v p
  | _, _, _, .nil, e => by cases e; exact .nil
  | _, _, _, @RepL.cons _ _ _ v d vs ds h r, e => by
    simp only [D.pys] at e
    cases q1 : D.py d with
    | none => rw [q1] at e; cases e
    | some p =>
      cases q2 : D.pys ds with
      | none => rw [q1, q2] at e; cases e
      | some ps => rw [q1, q2] at e; cases e; exact .cons (Rep.dp m h q1) (RepL.dp m r q2)
end
end
/-- Python's == of two pieces of data, where it is told -/
def eqD (x y : D) : Option Bool := match x.py, y.py with
  | some p, some q => if SeqAt.shaped p && SeqAt.shaped q then some (PyData.eqv p q) else none
  | _, _ => none
def gEq : D → D → Option S := fun x y => (eqD x y).map fun b => .val (.bl b)
def gNe : D → D → Option S := fun x y => (eqD x y).map fun b => .val (.bl (!b))
theorem eqD_some {x y : D} {b : Bool} (h : eqD x y = some b) : ∃ p q, x.py = some p ∧ y.py = some q ∧ SeqAt.shaped p = true ∧ SeqAt.shaped q = true ∧ b = PyData.eqv p q := by
  unfold eqD at h
  cases e1 : x.py with
  | none => rw [e1] at h; cases h
  | some p =>
    cases e2 : y.py with
    | none => rw [e1, e2] at h; cases h
    | some q =>
      rw [e1, e2] at h
      simp only at h
      split at h
      · rename_i hs
        obtain ⟨h1, h2⟩ := Bool.and_eq_true_iff.mp hs
        exact ⟨p, q, rfl, rfl, h1, h2, (Option.some.inj h).symm⟩
      · cases h
section
variable {K : PySem.W.Frag} {cm : Wd}
theorem od_eq : OpD K cm (rEqD K) gEq := by
  intro F σ H ρ x y dx dy s Q hr hx hy hg hQ
  unfold gEq at hg
  cases q : eqD dx dy with
  | none => rw [q] at hg; cases hg
  | some b =>
    rw [q] at hg
    cases hg
    obtain ⟨p, r, h1, h2, h3, h4, rfl⟩ := eqD_some q
    exact ⟨p, r, hx.dp hr.sub h1, hy.dp hr.sub h2, h3, h4, hQ _ F H (Post.refl hr) (rd_val .bl)⟩
theorem od_ne : OpD K cm (rNeD K) gNe := by
  intro F σ H ρ x y dx dy s Q hr hx hy hg hQ
  unfold gNe at hg
  cases q : eqD dx dy with
  | none => rw [q] at hg; cases hg
  | some b =>
    rw [q] at hg
    cases hg
    obtain ⟨p, r, h1, h2, h3, h4, rfl⟩ := eqD_some q
    exact ⟨p, r, hx.dp hr.sub h1, hy.dp hr.sub h2, h3, h4, hQ _ F H (Post.refl hr) (rd_val .bl)⟩
def isNon : D → Bool
  | .non => true
  | _ => false
theorem Rep.non_iff {F : Hp} {v : V} {d : D} (r : Rep K cm F v d) : decide (v = .non) = isNon d := by
  cases r <;> simp [isNon]
def gIsN : D → D → Option S := fun x y => match y with
  | .non => some (.val (.bl (isNon x)))
  | _ => none
def gNotN : D → D → Option S := fun x y => match y with
  | .non => some (.val (.bl (!isNon x)))
  | _ => none
theorem od_isN : OpD K cm (fun x y H Q => y = .non ∧ Q (.bl (decide (x = .non))) H) gIsN := by
  intro F σ H ρ x y dx dy s Q hr hx hy hg hQ
  cases hy <;> first | (cases hg; done) | skip
  cases hg
  exact ⟨rfl, hQ _ F H (Post.refl hr) (by rw [hx.non_iff]; exact rd_val .bl)⟩
theorem od_notN : OpD K cm (fun x y H Q => y = .non ∧ Q (.bl (!decide (x = .non))) H) gNotN := by
  intro F σ H ρ x y dx dy s Q hr hx hy hg hQ
  cases hy <;> first | (cases hg; done) | skip
  cases hg
  exact ⟨rfl, hQ _ F H (Post.refl hr) (by rw [hx.non_iff]; exact rd_val .bl)⟩
end

/-! ### tests -/
section
variable {X : Cx} {cm : Wd} {W : WX} {e a b c : Expr} {t ta tb tc : TE} {m ma mb mc : ME D} {tA tB' : TT} {mA mB : ME Bool} {pos : Pos} {rest : List Expr}
def mTest (m : ME S) : ME Bool := m.bnd fun s => match s with
  | .val (.bl b) => ret b
  | _ => fun _ => none
theorem sim_test {K : PySem.W.Frag} {mo : ME S} (h : Sim K cm W (RO K cm) t mo) : Sim K cm W RB (tTest t) (mTest mo) := by
  intro ρ r e F σ H Q hr hp
  refine h.step e hr hp fun s ρ1 v F1 H1 e1 p1 r1 => ?_
  cases s with
  | val d =>
    cases d with
    | bl b =>
      cases ret_ok e1
      cases r1.1.of_val
      exact ⟨b, rfl, hp b F1 H1 p1 rfl⟩
    | _ => cases e1
  | _ => cases e1
theorem te_cmp {op : CmpOp} {r : R2} {g : D → D → Option S} (hx : OpR X (compareOp op) r) (ho : OpD X.K cm r g) (ha : DE X cm W a ta ma) (hb : DE X cm W b tb mb) (hm : behindInMarks op b = false) : TEs X cm W (.Compare a [op] [b] pos) (tTest (tOp r ta tb)) (mTest (mOp g ma mb)) :=
  ⟨pt_cmpR hx ha.pe hb.pe hm, sim_test (sim_op ho ha.sim hb.sim)⟩
/-- any expression that gives a bool -/
theorem te_val {mo : ME S} (h : OE X cm W e t mo) (he : ∀ whole, isTrue e X.env whole = (do let v ← whole; standAt e.pos; holding [v] (truthy v)) := by intro _; rfl) : TEs X cm W e (tB t) (mTest mo) :=
  ⟨pt_val h.pe he, sim_test h.sim⟩
def mAnd (a b : ME Bool) : ME Bool := a.bnd fun c => if c then b else ret false
def mOr (a b : ME Bool) : ME Bool := a.bnd fun c => if c then ret true else b
def mNot (a : ME Bool) : ME Bool := a.bnd fun c => ret (!c)
theorem we_and1 (ha : TEs X cm W a tA mA) : WEs X cm W (.BoolOp .And [a] pos) tA mA := ⟨pw_and1 ha.pt, ha.sim⟩
theorem we_or1 (ha : TEs X cm W a tA mA) : WEs X cm W (.BoolOp .Or [a] pos) tA mA := ⟨pw_or1 ha.pt, ha.sim⟩
theorem we_and (ha : TEs X cm W a tA mA) (hb : WEs X cm W (.BoolOp .And (b :: rest) pos) tB' mB) : WEs X cm W (.BoolOp .And (a :: b :: rest) pos) (tAnd tA tB') (mAnd mA mB) := by
  refine ⟨pw_and ha.pt hb.pw, fun ρ r e F σ H Q hr hp => ?_⟩
  refine ha.sim.step e hr hp fun c ρ1 c' F1 H1 e1 p1 r1 => ?_
  cases (show c' = c from r1)
  cases c with
  | true => exact hb.sim ρ1 r e1 F1 σ H1 Q p1.rel (hp.trans tr_B p1)
  | false => cases ret_ok e1; exact hp false F1 H1 p1 rfl
theorem we_or (ha : TEs X cm W a tA mA) (hb : WEs X cm W (.BoolOp .Or (b :: rest) pos) tB' mB) : WEs X cm W (.BoolOp .Or (a :: b :: rest) pos) (tOr tA tB') (mOr mA mB) := by
  refine ⟨pw_or ha.pt hb.pw, fun ρ r e F σ H Q hr hp => ?_⟩
  refine ha.sim.step e hr hp fun c ρ1 c' F1 H1 e1 p1 r1 => ?_
  cases (show c' = c from r1)
  cases c with
  | false => exact hb.sim ρ1 r e1 F1 σ H1 Q p1.rel (hp.trans tr_B p1)
  | true => cases ret_ok e1; exact hp true F1 H1 p1 rfl
theorem te_w (h : WEs X cm W e tA mA) : TEs X cm W e tA mA := ⟨h.pw.pt, h.sim⟩
theorem te_not (ha : TEs X cm W a tA mA) : TEs X cm W (.UnaryOp .Not a pos) (tNot tA) (mNot mA) := by
  refine ⟨pt_not ha.pt, fun ρ r e F σ H Q hr hp => ?_⟩
  refine ha.sim.step e hr hp fun c ρ1 c' F1 H1 e1 p1 r1 => ?_
  cases (show c' = c from r1)
  cases ret_ok e1
  exact hp _ F1 H1 p1 rfl
/-! ### and, or, not as values (bools) -/
def mOne (m : ME Bool) : ME D := m.bnd fun b => ret (.bl b)
theorem rep_bl {K : PySem.W.Frag} {F : Hp} {v : V} {b : Bool} (r : Rep K cm F v (.bl b)) : v = .bl b := by cases r; rfl
theorem de_one {op} (h : OE X cm W a t mo) : DE X cm W (.BoolOp op [a] pos) t (mCold mo) := ⟨pe_one h.pe, (de_cold h).sim⟩
def mAndV (ma mb : ME D) : ME D := ma.bnd fun x => match x with
  | .bl c => if c then mb else ret (.bl false)
  | _ => fun _ => none
def mOrV (ma mb : ME D) : ME D := ma.bnd fun x => match x with
  | .bl c => if c then ret (.bl true) else mb
  | _ => fun _ => none
def mNotV (ma : ME D) : ME D := ma.bnd fun x => match x with
  | .bl c => ret (.bl (!c))
  | _ => fun _ => none
theorem de_and (ha : DE X cm W a ta ma) (hb : DE X cm W (.BoolOp .And (b :: rest) pos) tb mb) : DE X cm W (.BoolOp .And (a :: b :: rest) pos) (tAndV ta tb) (mAndV ma mb) := by
  refine ⟨pe_and ha.pe hb.pe, fun ρ r e F σ H Q hr hp => ?_⟩
  refine ha.sim.step e hr hp fun d ρ1 v F1 H1 e1 p1 r1 => ?_
  cases r1 with
  | @bl c =>
    cases c with
    | true => exact ⟨true, rfl, hb.sim ρ1 r e1 F1 σ H1 Q p1.rel (hp.trans tr_D p1)⟩
    | false => cases ret_ok e1; exact ⟨false, rfl, hp _ F1 H1 p1 .bl⟩
  | _ => cases e1
theorem de_or (ha : DE X cm W a ta ma) (hb : DE X cm W (.BoolOp .Or (b :: rest) pos) tb mb) : DE X cm W (.BoolOp .Or (a :: b :: rest) pos) (tOrV ta tb) (mOrV ma mb) := by
  refine ⟨pe_or ha.pe hb.pe, fun ρ r e F σ H Q hr hp => ?_⟩
  refine ha.sim.step e hr hp fun d ρ1 v F1 H1 e1 p1 r1 => ?_
  cases r1 with
  | @bl c =>
    cases c with
    | false => exact ⟨false, rfl, hb.sim ρ1 r e1 F1 σ H1 Q p1.rel (hp.trans tr_D p1)⟩
    | true => cases ret_ok e1; exact ⟨true, rfl, hp _ F1 H1 p1 .bl⟩
  | _ => cases e1
theorem de_not (ha : DE X cm W a ta ma) : DE X cm W (.UnaryOp .Not a pos) (tNotV ta) (mNotV ma) := by
  refine ⟨pe_not ha.pe, fun ρ r e F σ H Q hr hp => ?_⟩
  refine ha.sim.step e hr hp fun d ρ1 v F1 H1 e1 p1 r1 => ?_
  cases r1 with
  | @bl c => cases ret_ok e1; exact ⟨c, rfl, hp _ F1 H1 p1 .bl⟩
  | _ => cases e1
/-- a if t else b -/
def mIf {α : Type} (c : ME Bool) (ma mb : ME α) : ME α := c.bnd fun c => if c then ma else mb
theorem oe_ifExp {ma mb : ME S} (hc : TEs X cm W c tA mA) (ha : OE X cm W a ta ma) (hb : OE X cm W b tb mb) : OE X cm W (.IfExp c a b pos) (tIf tA ta tb) (mIf mA ma mb) := by
  refine ⟨pe_ifExp hc.pt ha.pe hb.pe, fun ρ r e F σ H Q hr hp => ?_⟩
  refine hc.sim.step e hr hp fun c ρ1 c' F1 H1 e1 p1 r1 => ?_
  cases (show c' = c from r1)
  cases c with
  | true => exact ha.sim ρ1 r e1 F1 σ H1 Q p1.rel (hp.trans tr_O p1)
  | false => exact hb.sim ρ1 r e1 F1 σ H1 Q p1.rel (hp.trans tr_O p1)
/-- a < b < c -/
def mChain (g g' : D → D → Option S) (ma mb mc : ME D) : ME S := ma.bnd fun x => mb.bnd fun y => match g x y with
  | some (.val (.bl true)) => mc.bnd fun z => opt (g' y z)
  | some (.val (.bl false)) => ret (.val (.bl false))
  | _ => fun _ => none
theorem oe_chain {op op' : CmpOp} {g g' : D → D → Option S} {f f' : Int → Int → V} (hx : OpR X (compareOp op) (rI0 f)) (hx' : OpR X (compareOp op') (rI0 f')) (ho : OpD X.K cm (rI0 f) g) (ho' : OpD X.K cm (rI0 f') g') (ha : DE X cm W a ta ma) (hb : DE X cm W b tb mb) (hc : DE X cm W c tc mc)
    (h : PE X (.Compare a [op, op'] [b, c] pos) (tChain (rI0 f) (rI0 f') ta tb tc)) : OE X cm W (.Compare a [op, op'] [b, c] pos) (tChain (rI0 f) (rI0 f') ta tb tc) (mChain g g' ma mb mc) := by
  refine ⟨h, fun ρ r e F σ H Q hr hp => ?_⟩
  refine ha.sim.step e hr hp fun dx ρ1 x F1 H1 e1 p1 r1 => ?_
  refine hb.sim.step e1 p1.rel (hp.trans tr_O p1) fun dy ρ2 y F2 H2 e2 p2 r2 => ?_
  have p := p1.trans p2
  cases hg : g dx dy with
  | none => rw [hg] at e2; cases e2
  | some s =>
    refine ho p2.rel (Rep.mono p2.mono r1) r2 hg fun v F' H' q z => ?_
    rw [hg] at e2
    cases s with
    | val d =>
      cases d with
      | bl k =>
        have ev := rep_bl z.1.of_val
        subst ev
        refine ⟨k, rfl, ?_⟩
        cases k with
        | true =>
          rw [if_pos rfl]
          have p' := p.trans q
          refine hc.sim.step e2 p'.rel (hp.trans tr_O p') fun dz ρ3 w F3 H3 e3 p3 r3 => ?_
          obtain ⟨s', h1, rfl⟩ := opt_ok e3
          refine ho' p3.rel (Rep.mono p3.mono (Rep.mono q.mono r2)) r3 h1 fun v F4 H4 q4 z4 => hp v F4 H4 (p'.trans (p3.trans q4)) (tr_O _ _ _ _ _ _ _ _ _ _ _ _ (p'.trans p3) z4)
        | false =>
          rw [if_neg (by simp)]
          cases ret_ok e2
          exact hp _ F' H' (p.trans q) ⟨.val .bl, fun _ _ z => by cases z⟩
      | _ => cases e2
    | _ => cases e2
end
end L2.Fn
set_option maxRecDepth 100000
set_option maxHeartbeats 4000000
/-! FnC: statements. -/
namespace L2.Fn
open PySem PySem.Spec PyProof.Rows L2

inductive Out where
  | nx (ρ : Slots)
  | rt (s : S) (ρ : Slots)
  | bk (ρ : Slots)
  | ct (ρ : Slots)
  | ex (C : Str) (fs : List (Str × D)) (ρ : Slots)
abbrev MS := Slots → Option Out
def ME.thn {α : Type} (m : ME α) (k : α → MS) : MS := fun ρ =>
  match m ρ with
  | none => none
  | some (.ok a ρ') => k a ρ'
  | some (.ex C fs ρ') => some (.ex C fs ρ')
section
variable (K : PySem.W.Frag) (cm : Wd) (W : WX) (P : Nat → Bool)
/-- a value handed back -/
def RR1 (F : Hp) (σ : St) (H : Hp) (ρ : Slots) (F' : Hp) (σ' : St) (H' : Hp) (ρ' : Slots) (v : V) (s : S) : Prop :=
  RepS K cm F' H' v s ∧ ∀ a, v = .ref a → s.own = true → ¬ owns σ' ρ' a ∧ (owns σ ρ a ∨ H a = none)
def SPost (F : Hp) (σ : St) (H : Hp) (ρ : Slots) (D : Ends) : Out → Prop
  | .nx ρ' => ∀ F' σ' H', Post K cm P F σ H ρ F' σ' H' ρ' → D.nx σ' H'
  | .bk ρ' => ∀ F' σ' H', Post K cm P F σ H ρ F' σ' H' ρ' → D.bk σ' H'
  | .ct ρ' => ∀ F' σ' H', Post K cm P F σ H ρ F' σ' H' ρ' → D.ct σ' H'
  | .rt s ρ' => ∀ v F' σ' H', Post K cm P F σ H ρ F' σ' H' ρ' → RR1 K cm F σ H ρ F' σ' H' ρ' v s → D.rt v H'
  | .ex C fs ρ' => ∀ od F' σ' H', Post K cm P F σ H ρ F' σ' H' ρ' → ExR K cm F' od fs → W (.ref (cm C)) od σ' H'
def SimS (t : TS) (m : MS) : Prop := ∀ ρ r, m ρ = some r → ∀ F σ H D, Rel K cm F σ H ρ → SPost K cm W P F σ H ρ D r → t D σ H
end
section
variable {K : PySem.W.Frag} {cm : Wd} {W : WX} {P : Nat → Bool} {F F1 : Hp} {σ σ1 : St} {H H1 : Hp} {ρ ρ1 : Slots} {D : Ends} {r : Out} {β α : Type} {R : RR β α}
theorem SPost.trans (h : SPost K cm W P F σ H ρ D r) (p : Post K cm P F σ H ρ F1 σ1 H1 ρ1) : SPost K cm W P F1 σ1 H1 ρ1 D r := by
  cases r with
  | nx ρ' => exact fun F' σ' H' q => h F' σ' H' (p.trans q)
  | bk ρ' => exact fun F' σ' H' q => h F' σ' H' (p.trans q)
  | ct ρ' => exact fun F' σ' H' q => h F' σ' H' (p.trans q)
  | rt s ρ' => exact fun v F' σ' H' q x => h v F' σ' H' (p.trans q) ⟨x.1, fun a e o => ⟨(x.2 a e o).1, by
      rcases (x.2 a e o).2 with z | z
      · exact p.new a z
      · exact p.gone z⟩⟩
  | ex C fs ρ' => exact fun od F' σ' H' q x => h od F' σ' H' (p.trans q) x
theorem Sim.stepS {t : St → Hp → (β → Hp → Prop) → Prop} {m : ME α} {k : α → MS} {Q' : β → Hp → Prop} (h : Sim K cm W R t m) (e : m.thn k ρ = some r) (hr : Rel K cm F σ H ρ) (hp : SPost K cm W P F σ H ρ D r)
    (hQ : ∀ d ρ1 v F1 H1, k d ρ1 = some r → Post K cm pinAll F σ H ρ F1 σ H1 ρ1 → R F σ H ρ F1 H1 ρ1 v d → Q' v H1) : t σ H Q' := by
  unfold ME.thn at e
  cases q : m ρ with
  | none => rw [q] at e; cases e
  | some x =>
    rw [q] at e
    cases x with
    | ok a ρ' => exact h ρ _ q F σ H Q' hr fun v F' H' p x => hQ a ρ' v F' H' e p x
    | ex C fs ρ' =>
      cases e
      exact h ρ _ q F σ H Q' hr fun od F' H' p x => hp od F' σ H' p.any x
end
section
variable (X : Cx) (cm : Wd) (W : WX) (P : Nat → Bool)
structure SE (st : Stmt) (t : TS) (m : MS) : Prop where
  ps : PS X st t
  sim : SimS X.K cm W P t m
structure SSE (sts : List Stmt) (t : TS) (m : MS) : Prop where
  pss : PSs X sts t
  sim : SimS X.K cm W P t m
end
section
variable {X : Cx} {cm : Wd} {W : WX} {P : Nat → Bool} {st : Stmt} {rest ba bb : List Stmt} {t u t1 t2 : TS} {m m1 m2 : MS} {e c : Expr} {te : TE} {tA : TT} {mA : ME Bool} {pos : Pos}
def sNil : MS := fun ρ => some (.nx ρ)
def sSeq (m1 m2 : MS) : MS := fun ρ => match m1 ρ with
  | some (.nx ρ') => m2 ρ'
  | r => r
theorem sse_nil : SSE X cm W P [] tNext sNil := ⟨pss_nil, fun ρ r e F σ H D hr hp => by cases e; exact hp F σ H (Post.refl hr)⟩
theorem sse_one (h : SE X cm W P st t m) : SSE X cm W P [st] t m := ⟨pss_one h.ps, h.sim⟩
theorem sim_seq {K : PySem.W.Frag} (h1 : SimS K cm W P t1 m1) (h2 : SimS K cm W P t2 m2) : SimS K cm W P (tSeq t1 t2) (sSeq m1 m2) := by
  intro ρ r e F σ H D hr hp
  unfold sSeq at e
  cases q : m1 ρ with
  | none => rw [q] at e; cases e
  | some x =>
    rw [q] at e
    refine h1 ρ x q F σ H { D with nx := t2 D } hr ?_
    cases x with
    | nx ρ' => exact fun F' σ' H' p => h2 ρ' r e F' σ' H' D p.rel (hp.trans p)
    | bk ρ' => cases e; exact hp
    | ct ρ' => cases e; exact hp
    | rt s ρ' => cases e; exact hp
    | ex C fs ρ' => cases e; exact hp
theorem sse_cons (h1 : SE X cm W P st t m1) (h2 : SSE X cm W P rest u m2) : SSE X cm W P (st :: rest) (tSeq t u) (sSeq m1 m2) := ⟨pss_cons h1.ps h2.pss, sim_seq h1.sim h2.sim⟩
theorem se_pass : SE X cm W P (.Pass pos) tNext sNil := ⟨ps_pass, fun ρ r e F σ H D hr hp => by cases e; exact hp F σ H (Post.refl hr)⟩
def sBreak : MS := fun ρ => some (.bk ρ)
def sCont : MS := fun ρ => some (.ct ρ)
theorem se_break : SE X cm W P (.Break pos) tBreak sBreak := ⟨ps_break, fun ρ r e F σ H D hr hp => by cases e; exact hp F σ H (Post.refl hr)⟩
theorem se_cont : SE X cm W P (.Continue pos) tCont sCont := ⟨ps_continue, fun ρ r e F σ H D hr hp => by cases e; exact hp F σ H (Post.refl hr)⟩
/-- return e -/
def sRet (m : ME S) : MS := m.thn fun s ρ => some (.rt s ρ)
theorem se_ret {mo : ME S} (h : OE X cm W e te mo) : SE X cm W P (.Return (some e) pos) (tRet te) (sRet mo) := by
  refine ⟨ps_ret h.pe, fun ρ r e F σ H D hr hp => ?_⟩
  refine h.sim.stepS e hr hp fun s ρ1 v F1 H1 e1 p1 r1 => ?_
  cases e1
  exact hp v F1 σ H1 p1.any r1
def sRetN : MS := fun ρ => some (.rt (.val .non) ρ)
theorem se_retN : SE X cm W P (.Return none pos) tRetN sRetN := ⟨ps_retN, fun ρ r e F σ H D hr hp => by cases e; exact hp .non F σ H (Post.refl hr) ⟨.val .non, fun _ _ z => by cases z⟩⟩
/-- an expression whose value is dropped -/
def sDrop {α : Type} (m : ME α) : MS := m.thn fun _ ρ => some (.nx ρ)
theorem se_exprP {mo : ME S} (h : BE X cm W e te mo) (hs : swapsWith e none pos.line X.env = pure false := by rfl) : SE X cm W P (.Expr e pos) (tDrop te) (sDrop mo) := by
  refine ⟨ps_expr h.pe hs, fun ρ r e F σ H D hr hp => ?_⟩
  refine h.sim.stepS e hr hp fun s ρ1 v F1 H1 e1 p1 r1 => ?_
  cases e1
  exact hp F1 σ H1 p1.any
theorem se_expr {mo : ME S} (h : OE X cm W e te mo) (hs : swapsWith e none pos.line X.env = pure false := by rfl) : SE X cm W P (.Expr e pos) (tDrop te) (sDrop mo) := se_exprP (be_own h) hs
/-- if -/
def sIf (c : ME Bool) (a b : MS) : MS := c.thn fun c => if c then a else b
theorem se_if {ma mb : MS} (hc : TEs X cm W c tA mA) (ha : SSE X cm W P ba t ma) (hb : SSE X cm W P bb u mb) : SE X cm W P (.If c ba bb pos) (tIfS tA t u) (sIf mA ma mb) := by
  refine ⟨ps_if hc.pt ha.pss hb.pss, fun ρ r e F σ H D hr hp => ?_⟩
  refine hc.sim.stepS e hr hp fun c ρ1 c' F1 H1 e1 p1 r1 => ?_
  cases (show c' = c from r1)
  cases c with
  | true => exact ha.sim ρ1 r e1 F1 σ H1 D p1.rel (hp.trans p1.any)
  | false => exact hb.sim ρ1 r e1 F1 σ H1 D p1.rel (hp.trans p1.any)
/-! ### targets -/
abbrev MG := S → Slots → Option Slots
def SimG (K : PySem.W.Frag) (cm : Wd) (P : Nat → Bool) (g : TG) (m : MG) : Prop := ∀ s ρ ρ', m s ρ = some ρ' → ∀ F σ H v Q, Rel K cm F σ H ρ → RepS K cm F H v s → (∀ a, v = .ref a → s.own = true → ¬ owns σ ρ a) →
  (∀ F' σ' H', Rel K cm F' σ' H' ρ' → (∀ a o, F a = some o → F' a = some o) → (∀ a, F' a ≠ none → F a ≠ none ∨ owns σ ρ a ∨ H a = none) → (∀ a o, H a = some o → ¬ owns σ ρ a → H' a = some o) →
    (∀ a, owns σ' ρ' a → owns σ ρ a ∨ H a = none ∨ (v = .ref a ∧ s.own = true)) → (∀ i, P i = true → σ'[i]? = σ[i]?) → σ'.length = σ.length → Q σ' H') → g v σ H Q
structure GE (X : Cx) (cm : Wd) (P : Nat → Bool) (tg : Expr) (g : TG) (m : MG) : Prop where
  pg : PG X tg g
  sim : SimG X.K cm P g m
def gSetM (i : Nat) : MG := fun s ρ => if i < ρ.length then some (ρ.set i s) else none
theorem sim_gname {K : PySem.W.Frag} {i : Nat} (hP : P i = false) : SimG K cm P (gName i) (gSetM i) := by
  intro s ρ ρ' e F σ H v Q hr r f hQ
  unfold gSetM at e
  split at e
  · rename_i hl
    cases e
    obtain ⟨h1, h2, h3⟩ := Post.store hr r f hl hP
    exact hQ F _ H h1 (fun _ _ h => h) (fun _ h => .inl h) (fun _ _ h _ => h) (fun a h => (h3 a h).elim .inl fun z => .inr (.inr z)) h2 (by simp)
  · cases e
theorem ge_name {i : Nat} {x : Str} (hN : X.N.Nodup) (hi : X.N[i]? = some x) (hx : Loc X.env.scope x) (hP : P i = false := by rfl) (hf : X.fn x = true ∨ X.env.scope.names.lookup x = some .local := by first | exact .inl rfl | exact .inr rfl | assumption) : GE X cm P (.Name x pos) (gName i) (gSetM i) := ⟨pg_name hN hi hx hf, sim_gname hP⟩
/-- several targets of plain data -/
abbrev MGs := List D → Slots → Option Slots
def SimGs (K : PySem.W.Frag) (cm : Wd) (P : Nat → Bool) (g : TGs) (m : MGs) : Prop := ∀ ds ρ ρ', m ds ρ = some ρ' → ∀ F σ H vs Q, Rel K cm F σ H ρ → RepL K cm F vs ds →
  (∀ F' σ' H', Post K cm P F σ H ρ F' σ' H' ρ' → Q σ' H') → g vs σ H Q
structure GEs (X : Cx) (cm : Wd) (P : Nat → Bool) (tgs : List Expr) (g : TGs) (m : MGs) : Prop where
  pgs : PGs X tgs g
  sim : SimGs X.K cm P g m
def gNilM : MGs := fun ds ρ => match ds with
  | [] => some ρ
  | _ => none
def gConsM (m : MG) (ms : MGs) : MGs := fun ds ρ => match ds with
  | d :: r => (m (.val d) ρ).bind (ms r)
  | _ => none
theorem ges_nil : GEs X cm P [] gNil gNilM := by
  refine ⟨pgs_nil, fun ds ρ ρ' e F σ H vs Q hr r hQ => ?_⟩
  cases ds with
  | nil => cases r; cases e; exact ⟨rfl, hQ F σ H (Post.refl hr)⟩
  | cons _ _ => cases e
theorem ges_cons {tg : Expr} {tgs : List Expr} {g : TG} {gs : TGs} {m : MG} {ms : MGs} (h1 : GE X cm P tg g m) (h2 : GEs X cm P tgs gs ms)
    (hs : (assignEach (tg :: tgs) X.env).map (·.2) = assign tg X.env :: (assignEach tgs X.env).map (·.2) := by rfl) : GEs X cm P (tg :: tgs) (gCons g gs) (gConsM m ms) := by
  refine ⟨pgs_cons h1.pg h2.pgs hs, fun ds ρ ρ' e F σ H vs Q hr r hQ => ?_⟩
  cases ds with
  | nil => cases e
  | cons d ds =>
    cases r with
    | cons rd rr =>
      simp only [gConsM] at e
      cases q : m (.val d) ρ with
      | none => rw [q] at e; cases e
      | some ρ1 =>
        rw [q] at e
        refine ⟨_, _, rfl, h1.sim _ ρ ρ1 q F σ H _ _ hr (.val rd) (fun _ _ z => by cases z) fun F1 σ1 H1 r1 a1 a2 a3 a4 a5 a6 => ?_⟩
        have p1 : Post X.K cm P F σ H ρ F1 σ1 H1 ρ1 := ⟨r1, a1, a2, a3, fun a h => (a4 a h).elim .inl fun z => z.elim .inr fun z => (by cases z.2), a5, a6⟩
        exact h2.sim ds ρ1 ρ' e F1 σ1 H1 _ Q r1 (RepL.mono a1 rr) fun F2 σ2 H2 p2 => hQ F2 σ2 H2 (p1.trans p2)
def gTupM (n : Nat) (ms : MGs) : MG := fun s ρ => match s with
  | .val (.tup xs) => if xs.length = n then ms xs ρ else none
  | _ => none
theorem ge_tup {es : List Expr} {k : Nat} {g : TGs} {ms : MGs} {n : Nat} (hc : X.calm = true) (h : GEs X cm P es g ms) (hn : (assignEach es X.env).length = n := by rfl) (hst : (assignEach es X.env).findIdx? (·.1) = none := by rfl) :
    GE X cm P (.Tuple es k pos) (gTup X.K n g) (gTupM n ms) := by
  refine ⟨pg_tup hc h.pgs hn hst, fun s ρ ρ' e F σ H v Q hr r f hQ => ?_⟩
  cases s with
  | val d =>
    cases d with
    | tup xs =>
      simp only [gTupM] at e
      split at e
      · rename_i hl
        cases r.of_val with
        | tup h1 h2 =>
          exact ⟨_, _, rfl, SqT.of (hr.sub _ _ h1), by rw [h2.length]; exact hl, h.sim xs ρ ρ' e F σ H _ Q hr h2 fun F' σ' H' p => hQ F' σ' H' p.rel p.mono p.lim p.keep (fun a h => (p.new a h).elim .inl fun z => .inr (.inl z)) p.pin p.sl⟩
      · cases e
    | _ => cases e
  | _ => cases e
/-- target = e -/
def sAsg (m : ME S) (g : MG) : MS := m.thn fun s ρ => (g s ρ).map Out.nx
theorem sim_asg {K : PySem.W.Frag} {g : TG} {mo : ME S} {mg : MG} (h : Sim K cm W (RO K cm) te mo) (hg : SimG K cm P g mg) : SimS K cm W P (tAsg te g) (sAsg mo mg) := by
  intro ρ r e F σ H D hr hp
  refine h.stepS e hr hp fun s ρ1 v F1 H1 e1 p1 r1 => ?_
  cases q : mg s ρ1 with
  | none => rw [q] at e1; cases e1
  | some ρ2 =>
    rw [q] at e1
    cases e1
    refine hg s ρ1 ρ2 q F1 σ H1 v D.nx p1.rel r1.1 (fun a e o => (r1.2 a e o).1) fun F2 σ2 H2 b0 b1 b2 b3 b4 b5 b6 => hp F2 σ2 H2 ?_
    refine ⟨b0, fun a o h => b1 a o (p1.mono a o h), fun a h => ?_, fun a o h n => ?_, fun a h => ?_, fun i h => b5 i h, b6⟩
    · rcases b2 a h with z | z | z
      · exact p1.lim a z
      · exact .inr (p1.new a z)
      · exact .inr (p1.gone z)
    · refine b3 a o (p1.keep a o h n) fun z => ?_
      rcases p1.new a z with z | z
      · exact n z
      · rw [h] at z; cases z
    · rcases b4 a h with z | z | z
      · exact p1.new a z
      · exact p1.gone z
      · exact (r1.2 a z.1 z.2).2
theorem se_asg {tg : Expr} {g : TG} {mo : ME S} {mg : MG} (h : OE X cm W e te mo) (hg : GE X cm P tg g mg) (hs : swapsWithSole [tg] e pos.line X.env = pure false := by rfl) (hw : swappedStores [tg] e X.env = pure none := by rfl)
    (h1 : (assignEach [tg] X.env).map (·.2) = [assign tg X.env] := by rfl) : SE X cm W P (.Assign [tg] e pos) (tAsg te g) (sAsg mo mg) := ⟨ps_asg h.pe hg.pg hs hw h1, sim_asg h.sim hg.sim⟩
/-! ### augmented assignment of a name -/
def sAug (i : Nat) (g : D → D → Option D) (m : ME D) : MS := fun ρ => match ρ[i]? with
  | some (.val x) => (m.thn fun y ρ' => match g x y with
    | some z => if i < ρ'.length then some (.nx (ρ'.set i (.val z))) else none
    | none => none) ρ
  | _ => none
def IpD (K : PySem.W.Frag) (cm : Wd) (r : TIp) (g : D → D → Option D) : Prop := ∀ {F H x y dx dy z Q}, Rep K cm F x dx → Rep K cm F y dy → g dx dy = some z → (∀ v, Rep K cm F v z → Q v H) → r x y H Q
theorem se_aug {i : Nat} {x : Str} {op : Operator} {ti : TIp} {g : D → D → Option D} {md : ME D} {pos' : Pos} (hN : X.N.Nodup) (hi : X.N[i]? = some x) (hx : Loc X.env.scope x) (h : DE X cm W e te md) (ho : PIp X op ti) (hg : IpD X.K cm ti g) (hP : P i = false := by rfl)
    (hf : X.fn x = true ∨ X.env.scope.names.lookup x = some .local := by first | exact .inl rfl | exact .inr rfl | assumption) : SE X cm W P (.AugAssign (.Name x pos') op e pos) (tAug i te ti) (sAug i g md) := by
  refine ⟨ps_aug hN hi hx h.pe ho hf, fun ρ r e F σ H D hr hp => ?_⟩
  unfold sAug at e
  cases q : ρ[i]? with
  | none => rw [q] at e; cases e
  | some s =>
    rw [q] at e
    cases s with
    | val d =>
      obtain ⟨v, h1, h2⟩ := hr.slot i _ q (by simp)
      refine ⟨v, h1, h.sim.stepS e hr hp fun dy ρ1 y F1 H1 e1 p1 r1 => ?_⟩
      cases q2 : g d dy with
      | none => rw [q2] at e1; cases e1
      | some z =>
        rw [q2] at e1
        simp only at e1
        split at e1
        · rename_i hl
          cases e1
          refine hg (Rep.mono p1.mono h2.of_val) r1 q2 fun w rw' => ?_
          obtain ⟨g1, g2, g3⟩ := Post.store (P := P) p1.rel (.val rw') (fun _ _ z => by cases z) hl hP
          refine hp F1 _ H1 ⟨g1, p1.mono, p1.lim, p1.keep, fun a h => ?_, g2, by simp⟩
          rcases g3 a h with z | ⟨_, z⟩
          · exact p1.new a z
          · cases z
        · cases e1
    | _ => cases e
def gAddI : D → D → Option D := fun x y => match x, y with
  | .int i, .int j => some (.int (i + j))
  | _, _ => none
def gSubI : D → D → Option D := fun x y => match x, y with
  | .int i, .int j => some (.int (i - j))
  | _, _ => none
theorem id_add {K : PySem.W.Frag} : IpD K cm (ipI fun i j => i + j) gAddI := by
  intro F H x y dx dy z Q hx hy hg hQ
  cases hx with
  | int => cases hy with
    | int => cases hg; exact ⟨_, _, rfl, rfl, hQ _ .int⟩
    | _ => cases hg
  | _ => cases hg
theorem id_sub {K : PySem.W.Frag} : IpD K cm (ipI fun i j => i - j) gSubI := by
  intro F H x y dx dy z Q hx hy hg hQ
  cases hx with
  | int => cases hy with
    | int => cases hg; exact ⟨_, _, rfl, rfl, hQ _ .int⟩
    | _ => cases hg
  | _ => cases hg
/-! ### a, b = e1, e2 -/
def sPar (i j : Nat) (m : ME (List D)) : MS := m.thn fun ds ρ => match ds with
  | [x, y] => if i < ρ.length ∧ j < ρ.length then some (.nx ((ρ.set i (.val x)).set j (.val y))) else none
  | _ => none
theorem se_par {i j : Nat} {x y : Str} {a b : Expr} {ta : TA} {ml : ME (List D)} {px py pt : Pos} {kt k2 pt2} (hc : X.calm = true) (hN : X.N.Nodup) (hi : X.N[i]? = some x) (hj : X.N[j]? = some y) (hij : i ≠ j)
    (hx : X.env.scope.names.lookup x = some .local) (hy : X.env.scope.names.lookup y = some .local) (ha : AE X cm W [a, b] ta ml)
    (hw : swappedStores [.Tuple [.Name x px, .Name y py] kt pt] (.Tuple [a, b] k2 pt2) X.env = pure (some [x, y]))
    (hPi : P i = false := by rfl) (hPj : P j = false := by rfl)
    (hs : swapsWithSole [.Tuple [.Name x px, .Name y py] kt pt] (.Tuple [a, b] k2 pt2) pos.line X.env = pure false := by rfl) :
    SE X cm W P (.Assign [.Tuple [.Name x px, .Name y py] kt pt] (.Tuple [a, b] k2 pt2) pos) (tPar i j ta) (sPar i j ml) := by
  refine ⟨ps_par hc hN hi hj hij hx hy ha.pa hw hs, fun ρ r e F σ H D hr hp => ?_⟩
  refine ha.sim.stepS e hr hp fun ds ρ1 vs F1 H1 e1 p1 r1 => ?_
  match ds, r1, e1 with
  | [dx, dy], .cons rx (.cons ry .nil), e1 =>
    simp only at e1
    split at e1
    · rename_i hl
      cases e1
      refine ⟨_, _, rfl, ?_⟩
      obtain ⟨g1, g2, g3⟩ := Post.store (P := P) p1.rel (.val rx) (fun _ _ z => by cases z) hl.1 hPi
      obtain ⟨k1, k2, k3⟩ := Post.store (P := P) g1 (.val ry) (fun _ _ z => by cases z) (by simpa using hl.2) hPj
      refine hp F1 _ H1 ⟨k1, p1.mono, p1.lim, p1.keep, fun a h => ?_, fun i h => (k2 i h).trans (g2 i h), by simp⟩
      rcases k3 a h with z | ⟨_, z⟩
      · rcases g3 a z with z | ⟨_, z⟩
        · exact p1.new a z
        · cases z
      · cases z
    · cases e1
  | [], _, e1 => cases e1
  | [_], _, e1 => cases e1
  | _ :: _ :: _ :: _, _, e1 => cases e1
/-! ### while -/
def sWhile (c : ME Bool) (b : MS) : Nat → MS
  | 0 => fun _ => none
  | n + 1 => c.thn fun k ρ => if k then (match b ρ with
    | some (.nx ρ') => sWhile c b n ρ'
    | some (.ct ρ') => sWhile c b n ρ'
    | some (.bk ρ') => some (.nx ρ')
    | r => r) else some (.nx ρ)
theorem se_while {body : List Stmt} {tb : TS} {mb : MS} (n : Nat) (hp : PassesOwn (model X.prog X.w) X.A X.env X.xe) (hc : TEs X cm W c tA mA) (hb : SSE X cm W P body tb mb) : SE X cm W P (.While c body [] pos) (tWhile tA tb) (sWhile mA mb n) := by
  refine ⟨ps_while hp hc.pt hb.pss, fun ρ r e F σ H D hr hpost => ?_⟩
  refine ⟨fun k σ H => ∃ F ρ, Rel X.K cm F σ H ρ ∧ sWhile mA mb k ρ = some r ∧ SPost X.K cm W P F σ H ρ D r, ⟨n, F, ρ, hr, e, hpost⟩, ?_⟩
  rintro k σ1 H1 ⟨F1, ρ1, hr1, e1, hp1⟩
  cases k with
  | zero => cases e1
  | succ k =>
    refine hc.sim.stepS e1 hr1 hp1 fun c ρ2 c' F2 H2 e2 p2 r2 => ?_
    cases (show c' = c from r2)
    cases c with
    | false =>
      cases e2
      rw [if_neg (by simp)]
      exact hp1 F2 σ1 H2 p2.any
    | true =>
      rw [if_pos rfl]
      simp only [if_true] at e2
      have hp2 := hp1.trans p2.any
      refine ⟨_, fun σ' H' z => ⟨k, Nat.lt_succ_self k, z⟩, ?_⟩
      cases q : mb ρ2 with
      | none => rw [q] at e2; cases e2
      | some x =>
        rw [q] at e2
        refine hb.sim ρ2 x q F2 σ1 H2 _ p2.rel ?_
        cases x with
        | nx ρ3 => exact fun F' σ' H' p => ⟨F', ρ3, p.rel, e2, hp2.trans p⟩
        | ct ρ3 => exact fun F' σ' H' p => ⟨F', ρ3, p.rel, e2, hp2.trans p⟩
        | bk ρ3 => cases e2; exact hp2
        | rt s ρ3 => cases e2; exact hp2
        | ex C fs ρ3 => cases e2; exact hp2
end
end L2.Fn
set_option maxRecDepth 100000
set_option maxHeartbeats 4000000
/-! FnD: for, comprehensions. -/
namespace L2.Fn
open PySem PySem.Spec PyProof.Rows L2

/-- what a for walks: the items as data -/
structure Wk (K : PySem.W.Frag) (cm : Wd) (F : Hp) (J : It) (ds : List D) : Prop where
  stop : ∀ (i : Nat) (H : Hp), (∀ a o, F a = some o → H a = some o) → ds.length ≤ i → J.stop i H
  go : ∀ (i : Nat) (H : Hp), (∀ a o, F a = some o → H a = some o) → i < ds.length → J.go i H
  yld : ∀ (i : Nat) (d : D), ds[i]? = some d → ∀ (F1 : Hp) (σ1 : St) (H1 : Hp) (ρ1 : Slots) (x : V) (H2 : Hp), (∀ a o, F a = some o → F1 a = some o) → Rel K cm F1 σ1 H1 ρ1 → J.yld i H1 x H2 →
    ∃ F2, Post K cm pinAll F1 σ1 H1 ρ1 F2 σ1 H2 ρ1 ∧ Rep K cm F2 x d
section
variable (K : PySem.W.Frag) (cm : Wd) (W : WX)
def IPost (F : Hp) (σ : St) (H : Hp) (ρ : Slots) (R : It → Hp → Prop) : Ex (List D) → Prop
  | .ok ds ρ' => ∀ J F' H', Post K cm pinAll F σ H ρ F' σ H' ρ' → Wk K cm F' J ds → R J H'
  | .ex C fs ρ' => ∀ od F' H', Post K cm pinAll F σ H ρ F' σ H' ρ' → ExR K cm F' od fs → W (.ref (cm C)) od σ H'
def SimI (wi : TI) (m : ME (List D)) : Prop := ∀ ρ r, m ρ = some r → ∀ F σ H R, Rel K cm F σ H ρ → IPost K cm W F σ H ρ R r → wi σ H R
end
structure IE (X : Cx) (cm : Wd) (W : WX) (tg iter : Expr) (wi : TI) (m : ME (List D)) : Prop where
  pi : PI X tg iter wi
  sim : SimI X.K cm W wi m
section
variable {K : PySem.W.Frag} {cm : Wd} {W : WX} {F : Hp} {a : Addr} {vs : List V} {ds : List D}
theorem wk_list (h : SqL K F a vs) (r : RepL K cm F vs ds) : Wk K cm F (Itl K a) ds where
  stop := fun i H m hl => ⟨vs, SqL.mono m h, by rw [r.length]; exact hl⟩
  go := fun i H m hl => by
    have hv : i < vs.length := by rw [r.length]; exact hl
    exact ⟨vs, vs[i], SqL.mono m h, by simp [hv]⟩
  yld := fun i d e F1 σ1 H1 ρ1 x H2 m hr y => by
    obtain ⟨rfl, y⟩ := y
    obtain ⟨v, h1, h2⟩ := r.get e
    have := y vs (SqL.mono (fun a o q => hr.sub a o (m a o q)) h)
    rw [h1] at this
    cases this
    exact ⟨F1, Post.refl hr, h2.mono m⟩
theorem wk_tup (h : SqT K F a vs) (r : RepL K cm F vs ds) : Wk K cm F (Itt K a) ds where
  stop := fun i H m hl => ⟨vs, SqT.mono m h, by rw [r.length]; exact hl⟩
  go := fun i H m hl => by
    have hv : i < vs.length := by rw [r.length]; exact hl
    exact ⟨vs, vs[i], SqT.mono m h, by simp [hv]⟩
  yld := fun i d e F1 σ1 H1 ρ1 x H2 m hr y => by
    obtain ⟨rfl, y⟩ := y
    obtain ⟨v, h1, h2⟩ := r.get e
    have := y vs (SqT.mono (fun a o q => hr.sub a o (m a o q)) h)
    rw [h1] at this
    cases this
    exact ⟨F1, Post.refl hr, h2.mono m⟩
/-- lo, lo + 1, .. -/
def rangeD (lo : Int) (n : Nat) : List D := (List.range n).map fun i => D.int (lo + (i : Nat))
theorem wk_range {lo : Int} {n : Nat} : Wk K cm F (Itr lo n) (rangeD lo n) where
  stop := fun i H m hl => by
    show n ≤ i
    simpa [rangeD] using hl
  go := fun i H m hl => by
    show i < n
    simpa [rangeD] using hl
  yld := fun i d e F1 σ1 H1 ρ1 x H2 m hr y => by
    obtain ⟨rfl, rfl⟩ := y
    have hi : i < n := by
      have := (List.getElem?_eq_some_iff.mp e).1
      simpa [rangeD] using this
    simp [rangeD, hi] at e
    subst e
    exact ⟨F1, Post.refl hr, .int⟩
/-- (0, x), (1, y), .. -/
def enumD (ds : List D) : List D := ds.mapIdx fun i d => D.tup [.int (i : Nat), d]
theorem wk_enum (h : SqL K F a vs) (r : RepL K cm F vs ds) : Wk K cm F (Ite K a) (enumD ds) where
  stop := fun i H m hl => ⟨vs, SqL.mono m h, by rw [r.length]; simpa [enumD] using hl⟩
  go := fun i H m hl => by
    have hv : i < vs.length := by rw [r.length]; simpa [enumD] using hl
    exact ⟨vs, vs[i], SqL.mono m h, by simp [hv]⟩
  yld := fun i d e F1 σ1 H1 ρ1 x H2 m hr y => by
    obtain ⟨T, z, rfl, hT, rfl, y⟩ := y
    simp only [enumD, List.getElem?_mapIdx] at e
    cases q : ds[i]? with
    | none => rw [q] at e; cases e
    | some d' =>
      rw [q] at e
      cases e
      obtain ⟨v, h1, h2⟩ := r.get q
      have := y vs (SqL.mono (fun a o q => hr.sub a o (m a o q)) h)
      rw [h1] at this
      cases this
      exact ⟨_, Post.cold hr hT, rd_tup (σ := σ1) (ρ := ρ1) hr hT (.cons .int (.cons (h2.mono m) .nil))⟩
end

section
variable {X : Cx} {cm : Wd} {W : WX} {tg e a b : Expr} {te ta tb : TE} {m ma mb : ME D} {pos p : Pos}
/-- over a list, over a tuple -/
def mItemsL (m : ME D) : ME (List D) := m.bnd fun d => match d with
  | .lst xs => ret xs
  | .scr xs => ret xs
  | _ => fun _ => none
def mItemsT (m : ME D) : ME (List D) := m.bnd fun d => match d with
  | .tup xs => ret xs
  | .ktp xs => ret xs
  | _ => fun _ => none
theorem IPost.move {F F1 : Hp} {σ : St} {H H1 : Hp} {ρ ρ1 : Slots} {K : PySem.W.Frag} {R : It → Hp → Prop} {r : Ex (List D)} (h : IPost K cm W F σ H ρ R r) (p : Post K cm pinAll F σ H ρ F1 σ H1 ρ1) : IPost K cm W F1 σ H1 ρ1 R r := by
  cases r with
  | ok d ρ' => exact fun v F' H' q x => h v F' H' (p.trans q) x
  | ex C fs ρ' => exact fun od F' H' q x => h od F' H' (p.trans q) x
theorem Sim.stepI {K : PySem.W.Frag} {β α : Type} {Rr : RR β α} {F : Hp} {σ : St} {H : Hp} {ρ : Slots} {t : St → Hp → (β → Hp → Prop) → Prop} {m : ME α} {k : α → ME (List D)} {r : Ex (List D)} {R : It → Hp → Prop} {Q' : β → Hp → Prop} (h : Sim K cm W Rr t m) (e : m.bnd k ρ = some r) (hr : Rel K cm F σ H ρ) (hp : IPost K cm W F σ H ρ R r)
    (hQ : ∀ d ρ1 v F1 H1, k d ρ1 = some r → Post K cm pinAll F σ H ρ F1 σ H1 ρ1 → Rr F σ H ρ F1 H1 ρ1 v d → Q' v H1) : t σ H Q' := by
  unfold ME.bnd at e
  cases q : m ρ with
  | none => rw [q] at e; cases e
  | some x =>
    rw [q] at e
    cases x with
    | ok a ρ' => exact h ρ _ q F σ H Q' hr fun v F' H' p x => hQ a ρ' v F' H' e p x
    | ex C fs ρ' =>
      cases e
      exact h ρ _ q F σ H Q' hr hp
theorem ie_list (h : DE X cm W e te m) : IE X cm W tg e (iList X.K te) (mItemsL m) := by
  refine ⟨pi_list h.pe, fun ρ r e F σ H R hr hp => ?_⟩
  refine h.sim.stepI e hr hp fun d ρ1 v F1 H1 e1 p1 r1 => ?_
  cases r1 with
  | lst h1 h2 => cases ret_ok e1; exact ⟨_, rfl, ⟨_, SqL.of (p1.rel.sub _ _ h1)⟩, hp _ F1 H1 p1 (wk_list (SqL.of h1) h2)⟩
  | scr h1 h2 => cases ret_ok e1; exact ⟨_, rfl, ⟨_, SqL.mono p1.rel.sub h1⟩, hp _ F1 H1 p1 (wk_list h1 h2)⟩
  | _ => cases e1
theorem ie_tup (h : DE X cm W e te m) : IE X cm W tg e (iTup X.K te) (mItemsT m) := by
  refine ⟨pi_tup h.pe, fun ρ r e F σ H R hr hp => ?_⟩
  refine h.sim.stepI e hr hp fun d ρ1 v F1 H1 e1 p1 r1 => ?_
  cases r1 with
  | tup h1 h2 => cases ret_ok e1; exact ⟨_, rfl, ⟨_, SqT.of (p1.rel.sub _ _ h1)⟩, hp _ F1 H1 p1 (wk_tup (SqT.of h1) h2)⟩
  | ktp h1 h2 => cases ret_ok e1; exact ⟨_, rfl, ⟨_, SqT.mono p1.rel.sub h1⟩, hp _ F1 H1 p1 (wk_tup h1 h2)⟩
  | _ => cases e1
/-! ### argument lists of plain data -/
def mNil : ME (List D) := ret []
def mCons (m : ME D) (ms : ME (List D)) : ME (List D) := m.bnd fun d => ms.bnd fun ds => ret (d :: ds)
theorem ae_nil : AE X cm W [] tNil mNil := ⟨pa_nil, fun ρ r e F σ H Q hr hp => by cases ret_ok e; exact hp [] F H (Post.refl hr) .nil⟩
theorem ae_cons {es : List Expr} {ts : TA} {ms : ME (List D)} (ha : DE X cm W a ta ma) (hs : AE X cm W es ts ms) (h : starEach (a :: es) X.env = (false, eval a X.env) :: starEach es X.env := by rfl) : AE X cm W (a :: es) (tCons ta ts) (mCons ma ms) := by
  refine ⟨pa_cons ha.pe hs.pa h, fun ρ r e F σ H Q hr hp => ?_⟩
  refine ha.sim.step e hr hp fun d ρ1 v F1 H1 e1 p1 r1 => ?_
  refine hs.sim.step e1 p1.rel (hp.trans tr_Ds p1) fun ds ρ2 vs F2 H2 e2 p2 r2 => ?_
  cases ret_ok e2
  exact hp _ F2 H2 (p1.trans p2) (.cons (Rep.mono p2.mono r1) r2)
/-- range -/
def rangeOk (i : Int) : Bool := decide (-(2 ^ 62) ≤ i) && decide (i < 2 ^ 62)
def mRange1 (m : ME D) : ME (List D) := m.bnd fun d => match d with
  | .int j => if rangeOk j then ret (rangeD 0 j.toNat) else fun _ => none
  | _ => fun _ => none
def mRange2 (ma mb : ME D) : ME (List D) := ma.bnd fun x => mb.bnd fun y => match x, y with
  | .int i, .int j => if rangeOk i && rangeOk j then ret (rangeD i (j - i).toNat) else fun _ => none
  | _, _ => fun _ => none
theorem rangeOk_of {i : Int} (h : rangeOk i = true) : -(2 ^ 62) ≤ i ∧ i < 2 ^ 62 := by
  obtain ⟨h1, h2⟩ := Bool.and_eq_true_iff.mp h
  exact ⟨of_decide_eq_true h1, of_decide_eq_true h2⟩
theorem ie_range1 (hg : Gl X "range") (hm : X.mg "range" = none) (h : DE X cm W a ta ma) (h1 : starEach (a :: []) X.env = (false, eval a X.env) :: starEach [] X.env := by rfl) (hs : starEach [a] X.env = [(false, eval a X.env)] := by rfl) : IE X cm W tg (.Call (.Name "range" p) [a] [] pos) (iRng1 (tCons ta tNil)) (mRange1 ma) := by
  refine ⟨pi_range1 hg hm (pa_cons h.pe pa_nil h1) hs, fun ρ r e F σ H R hr hp => ?_⟩
  refine h.sim.stepI e hr hp fun d ρ1 v F1 H1 e1 p1 r1 => ?_
  cases r1 with
  | @int j =>
    simp only at e1
    split at e1
    · rename_i hk
      cases ret_ok e1
      obtain ⟨q1, q2⟩ := rangeOk_of hk
      exact ⟨j, rfl, q1, q2, hp _ F1 H1 p1 wk_range⟩
    · cases e1
  | _ => cases e1
theorem ie_range2 (hg : Gl X "range") (hm : X.mg "range" = none) (h : DE X cm W a ta ma) (h' : DE X cm W b tb mb) (h1 : starEach (b :: []) X.env = (false, eval b X.env) :: starEach [] X.env := by rfl) (h2 : starEach (a :: b :: []) X.env = (false, eval a X.env) :: starEach [b] X.env := by rfl)
    (hs : starEach [a, b] X.env = [(false, eval a X.env), (false, eval b X.env)] := by rfl) (hs2 : starEach [b] X.env = [(false, eval b X.env)] := by rfl) : IE X cm W tg (.Call (.Name "range" p) [a, b] [] pos) (iRng2 (tCons ta (tCons tb tNil))) (mRange2 ma mb) := by
  refine ⟨pi_range2 hg hm (pa_cons h.pe (pa_cons h'.pe pa_nil h1) h2) hs hs2, fun ρ r e F σ H R hr hp => ?_⟩
  refine h.sim.stepI e hr hp fun dx ρ1 x F1 H1 e1 p1 r1 => ?_
  refine h'.sim.stepI e1 p1.rel (hp.move p1) fun dy ρ2 y F2 H2 e2 p2 r2 => ?_
  cases r1 with
  | @int i =>
    cases r2 with
    | @int j =>
      simp only at e2
      split at e2
      · rename_i hk
        cases ret_ok e2
        obtain ⟨hk1, hk2⟩ := Bool.and_eq_true_iff.mp hk
        obtain ⟨q1, q2⟩ := rangeOk_of hk1
        obtain ⟨q3, q4⟩ := rangeOk_of hk2
        exact ⟨i, j, rfl, ⟨q1, q2, q3, q4⟩, hp _ F2 H2 (p1.trans p2) wk_range⟩
      · cases e2
    | _ => cases e2
  | _ => cases e2
/-- enumerate of a list -/
def mEnumL (m : ME D) : ME (List D) := m.bnd fun d => match d with
  | .lst xs => ret (enumD xs)
  | .scr xs => ret (enumD xs)
  | _ => fun _ => none
theorem ie_enumL {elts : List Expr} {kk : Nat} {tpos : Pos} (hg : Gl X "enumerate") (hm : X.mg "enumerate" = none) (h : DE X cm W a ta ma) (h1 : starEach (a :: []) X.env = (false, eval a X.env) :: starEach [] X.env := by rfl) (hs : starEach [a] X.env = [(false, eval a X.env)] := by rfl) :
    IE X cm W (.Tuple elts kk tpos) (.Call (.Name "enumerate" p) [a] [] pos) (iEnum X.K (tCons ta tNil)) (mEnumL ma) := by
  refine ⟨pi_enum hg hm (pa_cons h.pe pa_nil h1) hs, fun ρ r e F σ H R hr hp => ?_⟩
  refine h.sim.stepI e hr hp fun d ρ1 v F1 H1 e1 p1 r1 => ?_
  cases r1 with
  | lst h1 h2 => cases ret_ok e1; exact ⟨_, _, rfl, SqL.of (p1.rel.sub _ _ h1), hp _ F1 H1 p1 (wk_enum (SqL.of h1) h2)⟩
  | scr h1 h2 => cases ret_ok e1; exact ⟨_, _, rfl, SqL.mono p1.rel.sub h1, hp _ F1 H1 p1 (wk_enum h1 h2)⟩
  | _ => cases e1

/-! ### for -/
def sLoop (g : MG) (b : MS) : List D → MS
  | [] => fun ρ => some (.nx ρ)
  | d :: ds => fun ρ => match g (.val d) ρ with
    | none => none
    | some ρ1 => match b ρ1 with
      | some (.nx ρ') => sLoop g b ds ρ'
      | some (.ct ρ') => sLoop g b ds ρ'
      | some (.bk ρ') => some (.nx ρ')
      | r => r
def sFor (it : ME (List D)) (g : MG) (b : MS) : MS := it.thn fun ds => sLoop g b ds
theorem se_for {P : Nat → Bool} {iter : Expr} {body : List Stmt} {wi : TI} {g : TG} {tb : TS} {mi : ME (List D)} {mg : MG} {mb : MS} (hp : PassesOwn (model X.prog X.w) X.A X.env X.xe) (hc : X.calm = true) (hi : IE X cm W tg iter wi mi) (hg : GE X cm P tg g mg) (hb : SSE X cm W P body tb mb)
    (hs : ∀ x, foldedSetIterable iter X.env x = pure x := by intro _; rfl) : SE X cm W P (.For tg iter body [] pos) (tFor wi g tb) (sFor mi mg mb) := by
  refine ⟨ps_for hp hc hi.pi hg.pg hb.pss hs, fun ρ r e F σ H D hr hpost => ?_⟩
  unfold sFor ME.thn at e
  cases q : mi ρ with
  | none => rw [q] at e; cases e
  | some x =>
    rw [q] at e
    cases x with
    | ex C fs ρ' =>
      cases e
      exact hi.sim ρ _ q F σ H _ hr fun od F' H' p x => hpost od F' σ H' p.any x
    | ok ds ρ' =>
      refine hi.sim ρ _ q F σ H _ hr fun J F' H' p wk => ?_
      refine ⟨fun i n σ H => ∃ F1 ρ1, n = ds.length - i ∧ i ≤ ds.length ∧ (∀ a o, F' a = some o → F1 a = some o) ∧ Rel X.K cm F1 σ H ρ1 ∧ sLoop mg mb (ds.drop i) ρ1 = some r ∧ SPost X.K cm W P F1 σ H ρ1 D r,
        ⟨ds.length, F', ρ', by simp, Nat.zero_le _, fun _ _ h => h, p.rel, by simpa using e, hpost.trans p.any⟩, ?_⟩
      rintro i n σ1 H1 ⟨F1, ρ1, rfl, hi', m1, hr1, e1, hp1⟩
      by_cases hlt : i < ds.length
      · have hd : ds.drop i = ds[i] :: ds.drop (i + 1) := List.drop_eq_getElem_cons hlt
        rw [hd] at e1
        refine .inr ⟨wk.go i H1 (fun a o h => hr1.sub a o (m1 a o h)) hlt, _, fun σ' H' z => ⟨ds.length - (i + 1), by omega, z⟩, fun x H2 y => ?_⟩
        obtain ⟨F2, p2, rx⟩ := wk.yld i ds[i] (by simp [hlt]) F1 σ1 H1 ρ1 x H2 m1 hr1 y
        simp only [sLoop] at e1
        cases q2 : mg (.val ds[i]) ρ1 with
        | none => rw [q2] at e1; cases e1
        | some ρ2 =>
          rw [q2] at e1
          simp only at e1
          refine hg.sim _ ρ1 ρ2 q2 F2 σ1 H2 x _ p2.rel (.val rx) (fun _ _ z => by cases z) fun F3 σ3 H3 b0 b1 b2 b3 b4 b5 b6 => ?_
          have p3 : Post X.K cm P F2 σ1 H2 ρ1 F3 σ3 H3 ρ2 := ⟨b0, b1, b2, b3, fun a h => (b4 a h).elim .inl fun z => z.elim .inr fun z => (by cases z.2), b5, b6⟩
          have p23 := (p2.any (P' := P)).trans p3
          have hp3 := hp1.trans p23
          have m3 : ∀ a o, F' a = some o → F3 a = some o := fun a o h => p23.mono a o (m1 a o h)
          cases q4 : mb ρ2 with
          | none => rw [q4] at e1; cases e1
          | some x4 =>
            rw [q4] at e1
            refine hb.sim ρ2 x4 q4 F3 σ3 H3 _ b0 ?_
            cases x4 with
            | nx ρ5 => exact fun F5 σ5 H5 p5 => ⟨F5, ρ5, rfl, hlt, fun a o h => p5.mono a o (m3 a o h), p5.rel, e1, hp3.trans p5⟩
            | ct ρ5 => exact fun F5 σ5 H5 p5 => ⟨F5, ρ5, rfl, hlt, fun a o h => p5.mono a o (m3 a o h), p5.rel, e1, hp3.trans p5⟩
            | bk ρ5 => cases e1; exact hp3
            | rt s ρ5 => cases e1; exact hp3
            | ex C fs ρ5 => cases e1; exact hp3
      · have ei : i = ds.length := by omega
        subst ei
        rw [List.drop_length] at e1
        cases e1
        exact .inl ⟨wk.stop ds.length H1 (fun a o h => hr1.sub a o (m1 a o h)) (Nat.le_refl _), hp1 F1 σ1 H1 (Post.refl hr1)⟩

/-! ### comprehensions -/
def wipeE (ρ : Slots) : List Nat → Slots
  | [] => ρ
  | v :: vs => (wipeE ρ vs).set v .no
def pinOut (vs : List Nat) : Nat → Bool := fun i => !(vs.contains i)
section
variable {K : PySem.W.Frag} {F F' : Hp} {σ σ' : St} {H H' : Hp} {ρ ρ' : Slots}
theorem wipeE_length : ∀ vs : List Nat, (wipeE ρ vs).length = ρ.length
  | [] => rfl
  | v :: vs => by simp [wipeE, wipeE_length vs]
theorem wipeE_in {i : Nat} : ∀ {vs : List Nat}, i ∈ vs → i < ρ.length → (wipeE ρ vs)[i]? = some .no
  | v :: vs, h, hl => by
    unfold wipeE
    by_cases e : v = i
    · subst e; rw [List.getElem?_set_self (by rw [wipeE_length]; exact hl)]
    · rw [List.getElem?_set_ne e]
      exact wipeE_in ((List.mem_cons.mp h).resolve_left (Ne.symm e)) hl
theorem wipeE_out {i : Nat} : ∀ {vs : List Nat}, i ∉ vs → (wipeE ρ vs)[i]? = ρ[i]?
  | [], _ => rfl
  | v :: vs, h => by
    have h1 : v ≠ i := fun e => h (by rw [e]; exact List.mem_cons_self)
    unfold wipeE
    rw [List.getElem?_set_ne h1]
    exact wipeE_out fun z => h (List.mem_cons_of_mem _ z)
theorem wipe_slot {vs : List Nat} {i : Nat} {s : S} (h : (wipeE ρ vs)[i]? = some s) (n : s ≠ .no) : i ∉ vs ∧ ρ[i]? = some s := by
  by_cases q : i ∈ vs
  · have hl : i < ρ.length := by
      have := (List.getElem?_eq_some_iff.mp h).1
      rwa [wipeE_length] at this
    rw [wipeE_in q hl] at h
    cases h; exact absurd rfl n
  · rw [wipeE_out q] at h; exact ⟨q, h⟩
theorem wipe_own {vs : List Nat} {i : Nat} {a : Addr} (h : ownAt (wipe σ vs) (wipeE ρ vs) i a) : i ∉ vs ∧ ownAt σ ρ i a := by
  obtain ⟨s, h1, h2, h3⟩ := h
  obtain ⟨q, h1⟩ := wipe_slot h1 (by rintro rfl; cases h2)
  rw [wipe_out q] at h3
  exact ⟨q, s, h1, h2, h3⟩
theorem Rel.wiped (R : Rel K cm F σ H ρ) (vs : List Nat) : Rel K cm F (wipe σ vs) H (wipeE ρ vs) := by
  refine ⟨by rw [wipe_length, wipeE_length, R.len], R.sub, fun i s h n => ?_, fun i j a h1 h2 => R.sep i j a (wipe_own h1).2 (wipe_own h2).2⟩
  obtain ⟨q, h⟩ := wipe_slot h n
  rw [wipe_out q]
  exact R.slot i s h n
/-- what a comprehension's turn leaves, seen from outside -/
theorem Post.unwipe {vs : List Nat} (R : Rel K cm F σ H ρ) (p : Post K cm (pinOut vs) F (wipe σ vs) H (wipeE ρ vs) F' σ' H' ρ') : Post K cm pinAll F σ H ρ F' σ H' (wipeE ρ' vs) := by
  have own' : ∀ a, owns (wipe σ vs) (wipeE ρ vs) a → owns σ ρ a := fun a ⟨i, h⟩ => ⟨i, (wipe_own h).2⟩
  have es : ∀ i, i ∉ vs → σ'[i]? = σ[i]? := fun i h => by
    rw [p.pin i (by simpa [pinOut] using h), wipe_out h]
  have own2 : ∀ i a, ownAt σ (wipeE ρ' vs) i a → ownAt σ' ρ' i a := fun i a ⟨s, h1, h2, h3⟩ => by
    obtain ⟨q, h1⟩ := wipe_slot h1 (by rintro rfl; cases h2)
    exact ⟨s, h1, h2, by rw [es i q]; exact h3⟩
  refine ⟨⟨?_, p.rel.sub, fun i s h n => ?_, fun i j a h1 h2 => p.rel.sep i j a (own2 i a h1) (own2 j a h2)⟩, p.mono, fun a h => ?_, fun a o h n => p.keep a o h fun z => n (own' a z), fun a ⟨i, h⟩ => ?_, fun _ _ => rfl, rfl⟩
  · have h1 := p.rel.len
    have h2 : σ'.length = (wipe σ vs).length := p.sl
    rw [wipeE_length, ← h1, h2, wipe_length]
  · obtain ⟨q, h⟩ := wipe_slot h n
    obtain ⟨v, h1, h2⟩ := p.rel.slot i s h n
    exact ⟨v, by rw [← es i q]; exact h1, h2⟩
  · rcases p.lim a h with z | z | z
    · exact .inl z
    · exact .inr (.inl (own' a z))
    · exact .inr (.inr z)
  · rcases p.new a ⟨i, own2 i a h⟩ with z | z
    · exact .inl (own' a z)
    · exact .inr z
theorem wipe_ext {vs : List Nat} (hl : σ'.length = (wipe σ vs).length) (h : ∀ i, i ∉ vs → σ'[i]? = (wipe σ vs)[i]?) : wipe σ' vs = wipe σ vs := by
  have hl' : σ'.length = σ.length := by rw [hl, wipe_length]
  apply List.ext_getElem?
  intro i
  by_cases q : i ∈ vs
  · by_cases hi : i < σ.length
    · have z : ∀ {τ : St} {ws : List Nat}, i ∈ ws → i < τ.length → (wipe τ ws)[i]? = some none := by
        intro τ ws
        induction ws with
        | nil => intro h; cases h
        | cons w ws ih =>
          intro h hl
          unfold wipe
          by_cases e : w = i
          · subst e; rw [List.getElem?_set_self (by rw [wipe_length]; exact hl)]
          · rw [List.getElem?_set_ne e]
            exact ih ((List.mem_cons.mp h).resolve_left (Ne.symm e)) hl
      rw [z q (by rw [hl']; exact hi), z q hi]
    · rw [List.getElem?_eq_none (by rw [wipe_length, hl']; omega), List.getElem?_eq_none (by rw [wipe_length]; omega)]
  · rw [wipe_out q, wipe_out q, h i q, wipe_out q]
/-- an object that is nobody's is changed -/
theorem Post.bump {Dd : Addr} {o : HO} {P : Nat → Bool} (p : Post K cm P F σ H ρ F' σ' H' ρ') (h0 : H Dd = none) (h1 : F' Dd = none) (h2 : ¬ owns σ' ρ' Dd) : Post K cm P F σ H ρ F' σ' (upd H' Dd o) ρ' := by
  refine ⟨⟨p.rel.len, fun a u h => ?_, fun i s q1 q2 => ?_, p.rel.sep⟩, p.mono, p.lim, fun a u h n => ?_, p.new, p.pin, p.sl⟩
  · rw [upd_ne (ne_of_none h h1)]; exact p.rel.sub a u h
  · obtain ⟨v, h3, h4⟩ := p.rel.slot i s q1 q2
    refine ⟨v, h3, ?_⟩
    cases h4 with
    | val r => exact .val r
    | err q r => exact .err q r
    | @own a o' s h5 h6 h7 =>
      have q : a ≠ Dd := fun e => h2 ⟨i, s, q1, h7.own, by rw [← e]; exact h3⟩
      exact .own (by rw [upd_ne q]; exact h5) h6 h7
  · rw [upd_ne (ne_of_none h h0)]; exact p.keep a u h n
theorem Post.safe {Dd : Addr} {o : HO} {P : Nat → Bool} (p : Post K cm P F σ H ρ F' σ' H' ρ') (h0 : H Dd = some o) (h1 : F Dd = none) (h2 : ¬ owns σ ρ Dd) : H' Dd = some o ∧ F' Dd = none ∧ ¬ owns σ' ρ' Dd := by
  refine ⟨p.keep Dd o h0 h2, ?_, fun z => ?_⟩
  · cases e : F' Dd with
    | none => rfl
    | some u =>
      rcases p.lim Dd (by rw [e]; simp) with z | z | z
      · exact absurd h1 z
      · exact absurd z h2
      · rw [h0] at z; cases z
  · rcases p.new Dd z with z | z
    · exact h2 z
    · rw [h0] at z; cases z
end
def lcL (g : MG) (tt : ME Bool) (te : ME D) (vs : List Nat) : List D → List D → Slots → Option (List D × Slots)
  | [], acc, ρ => some (acc, ρ)
  | d :: ds, acc, ρ => match g (.val d) (wipeE ρ vs) with
    | none => none
    | some ρ1 => match tt ρ1 with
      | some (.ok true ρ2) => (match te ρ2 with
        | some (.ok y ρ3) => lcL g tt te vs ds (acc ++ [y]) (wipeE ρ3 vs)
        | _ => none)
      | some (.ok false ρ2) => lcL g tt te vs ds acc (wipeE ρ2 vs)
      | _ => none
def mLc (it : ME (List D)) (g : MG) (tt : ME Bool) (te : ME D) (vs : List Nat) : ME S := it.bnd fun ds ρ =>
  if ds.length ≤ sizeLine then (match lcL g tt te vs ds [] ρ with
    | some (ys, ρ') => some (.ok (.lst ys) ρ')
    | none => none) else none
abbrev WF : WX := fun _ _ _ _ => False
theorem sim_lc {K : PySem.W.Frag} {wi : TI} {g : TG} {tt : TT} {te : TE} {vs : List Nat} {mi : ME (List D)} {mg : MG} {mt : ME Bool} {me : ME D} (hi : SimI K cm W wi mi) (hg : SimG K cm (pinOut vs) g mg) (ht : Sim K cm WF RB tt mt) (he : Sim K cm WF (RD K cm) te me) :
    Sim K cm W (RO K cm) (tLc wi g tt te vs) (mLc mi mg mt me vs) := by
  intro ρ r e F σ H Q hr hp
  unfold mLc ME.bnd at e
  cases q : mi ρ with
  | none => rw [q] at e; cases e
  | some x =>
    rw [q] at e
    cases x with
    | ex C fs ρ' => cases e; exact hi ρ _ q F σ H _ hr hp
    | ok ds ρ' =>
      simp only at e
      split at e
      · rename_i hsz
        cases q2 : lcL mg mt me vs ds [] ρ' with
        | none => rw [q2] at e; cases e
        | some z =>
          obtain ⟨ys, ρe⟩ := z
          rw [q2] at e
          cases e
          refine hi ρ _ q F σ H _ hr fun J F' H' p wk => ?_
          intro Dd hD
          refine ⟨fun i n H2 => ∃ F1 ρ1 acc vacc, n = ds.length - i ∧ i ≤ ds.length ∧ (∀ a o, F' a = some o → F1 a = some o) ∧ Post K cm pinAll F' σ H' ρ' F1 σ H2 ρ1 ∧ lcL mg mt me vs (ds.drop i) acc ρ1 = some (ys, ρe) ∧
            H2 Dd = some (.lst vacc) ∧ F1 Dd = none ∧ (¬ owns σ ρ1 Dd) ∧ RepL K cm F1 vacc acc ∧ acc.length ≤ i, ⟨ds.length, F', ρ', [], [], by simp, Nat.zero_le _, fun _ _ h => h, Post.warm p.rel hD, by simpa using q2, upd_same, p.rel.noF hD, fun z => (p.rel.owned' z).1 hD, .nil, Nat.le_refl _⟩, ?_⟩
          rintro i n H2 ⟨F1, ρ1, acc, vacc, rfl, hi', m1, p1, e1, d1, d2, d3, d4, d5⟩
          by_cases hlt : i < ds.length
          · have hd : ds.drop i = ds[i] :: ds.drop (i + 1) := List.drop_eq_getElem_cons hlt
            rw [hd] at e1
            simp only [lcL] at e1
            refine .inr ⟨wk.go i H2 (fun a o h => p1.rel.sub a o (m1 a o h)) hlt, _, fun H3 z => ⟨ds.length - (i + 1), by omega, z⟩, fun x H3 y => ?_⟩
            obtain ⟨F2, p2, rx⟩ := wk.yld i ds[i] (by simp [hlt]) F1 σ H2 ρ1 x H3 m1 p1.rel y
            cases q3 : mg (.val ds[i]) (wipeE ρ1 vs) with
            | none => rw [q3] at e1; cases e1
            | some ρ2 =>
              rw [q3] at e1
              simp only at e1
              refine hg _ _ ρ2 q3 F2 (wipe σ vs) H3 x _ (p2.rel.wiped vs) (.val rx) (fun _ _ z => by cases z) fun F3 σ3 H4 b0 b1 b2 b3 b4 b5 b6 => ?_
              have p3 : Post K cm (pinOut vs) F2 (wipe σ vs) H3 (wipeE ρ1 vs) F3 σ3 H4 ρ2 := ⟨b0, b1, b2, b3, fun a h => (b4 a h).elim .inl fun z => z.elim .inr fun z => (by cases z.2), b5, b6⟩
              refine ⟨wipe_ext b6 fun i hi => b5 i (by simpa [pinOut] using hi), ?_⟩
              have s2 := p2.safe d1 d2 d3
              have own' : ∀ a, owns (wipe σ vs) (wipeE ρ1 vs) a → owns σ ρ1 a := fun a ⟨i, h⟩ => ⟨i, (wipe_own h).2⟩
              have s3 := p3.safe s2.1 s2.2.1 (fun z => s2.2.2 (own' _ z))
              cases q4 : mt ρ2 with
              | none => rw [q4] at e1; cases e1
              | some z4 =>
                rw [q4] at e1
                cases z4 with
                | ex C fs ρx => cases e1
                | ok b ρ3 =>
                  refine ht ρ2 _ q4 F3 σ3 H4 _ b0 fun b' F4 H5 p4 eb => ?_
                  cases (show b' = b from eb)
                  have s4 := p4.safe s3.1 s3.2.1 s3.2.2
                  cases b with
                  | false =>
                    rw [if_neg (by simp)]
                    simp only at e1
                    have pu := Post.unwipe p2.rel (p3.trans p4.any)
                    refine ⟨F4, wipeE ρ3 vs, acc, vacc, rfl, hlt, fun a o h => pu.mono a o (p2.mono a o (m1 a o h)), p1.trans (p2.trans pu), e1, s4.1, s4.2.1, ?_, d4.mono fun a o h => pu.mono a o (p2.mono a o h), by omega⟩
                    exact (pu.safe s2.1 s2.2.1 s2.2.2).2.2
                  | true =>
                    rw [if_pos rfl]
                    simp only at e1
                    cases q5 : me ρ3 with
                    | none => rw [q5] at e1; cases e1
                    | some z5 =>
                      rw [q5] at e1
                      cases z5 with
                      | ex C fs ρx => cases e1
                      | ok d ρ4 =>
                        simp only at e1
                        refine he ρ3 _ q5 F4 σ3 H5 _ p4.rel fun v F5 H6 p5 rv => ?_
                        have s5 := p5.safe s4.1 s4.2.1 s4.2.2
                        have pu := Post.unwipe p2.rel (p3.trans (p4.trans p5).any)
                        have s6 := (pu.safe s2.1 s2.2.1 s2.2.2)
                        have mm : ∀ a o, F1 a = some o → F5 a = some o := fun a o h => pu.mono a o (p2.mono a o h)
                        have lv := d4.length
                        refine ⟨vacc, s5.1, by omega, F5, wipeE ρ4 vs, acc ++ [d], vacc ++ [v], rfl, hlt, fun a o h => mm a o (m1 a o h), (p1.trans (p2.trans pu)).bump hD s6.2.1 s6.2.2, e1, upd_same, s6.2.1, s6.2.2, (d4.mono mm).append (.one rv), by simp; omega⟩
          · have ei : i = ds.length := by omega
            subst ei
            rw [List.drop_length] at e1
            cases e1
            refine .inl ⟨wk.stop ds.length H2 (fun a o h => p1.rel.sub a o (m1 a o h)) (Nat.le_refl _), hp _ F1 H2 (p.trans p1) ⟨.own d1 d2 (.lst d4), fun a e _ => ?_⟩⟩
            cases e
            refine ⟨d3, ?_⟩
            exact p.gone hD
      · cases e
section
variable {wi : TI} {g : TG} {tt : TT} {mi : ME (List D)} {mg : MG} {mt : ME Bool} {me : ME D} {elt tgt iter : Expr} {ifs : List Expr} {scope : Scope} {own : List (Str × Nat)}
/-- the tests of a comprehension -/
structure IFs (X : Cx) (cm : Wd) (W : WX) (ifs : List Expr) (t : TT) (m : ME Bool) : Prop where
  pts : PTs X ifs t
  sim : Sim X.K cm W RB t m
def mYes : ME Bool := ret true
theorem ifs_nil : IFs X cm W [] tYes mYes := ⟨pts_nil, fun ρ r e F σ H Q hr hp => by cases ret_ok e; exact hp true F H (Post.refl hr) rfl⟩
theorem ifs_one {c : Expr} {t : TT} {m : ME Bool} (h : TEs X cm W c t m) : IFs X cm W [c] t m := ⟨pts_one h.pt, h.sim⟩
theorem oe_lc (hc : X.calm = true) (hN : X.N.Nodup) (hi : IE X cm W tgt iter wi mi) (ok : BlkOk X.N X.env.scope scope own)
    (hg : ∀ (s : Shared) (H : Hp) (C : Addr) (cl : List (Str × Addr)) (fp : List Addr), GE (X.blk s H scope (compEnvC scope cl C X.env) fp) cm (pinOut (own.map (·.2))) tgt g mg)
    (ht : ∀ (s : Shared) (H : Hp) (C : Addr) (cl : List (Str × Addr)) (fp : List Addr), IFs (X.blk s H scope (compEnvC scope cl C X.env) fp) cm WF ifs tt mt)
    (he : ∀ (s : Shared) (H : Hp) (C : Addr) (cl : List (Str × Addr)) (fp : List Addr), DE (X.blk s H scope (compEnvC scope cl C X.env) fp) cm WF elt te me) (hs : ∀ x, foldedSetIterable iter X.env x = pure x := by intro _; rfl) :
    OE X cm W (.ListComp elt [⟨tgt, iter, ifs, 0⟩] scope pos) (tLc wi g tt te (own.map (·.2))) (mLc mi mg mt me (own.map (·.2))) :=
  ⟨pe_lc hc hN hi.pi ok (fun s H C cl fp => (hg s H C cl fp).pg) (fun s H C cl fp => (ht s H C cl fp).pts) (fun s H C cl fp => (he s H C cl fp).pe) hs,
    sim_lc hi.sim (hg X.s_0 X.H_0 0 [] []).sim (ht X.s_0 X.H_0 0 [] []).sim (he X.s_0 X.H_0 0 [] []).sim⟩
/-- name = [..] -/
theorem se_setLc {P : Nat → Bool} {i : Nat} {y : Str} {py spos : Pos} (hc : X.calm = true) (hN : X.N.Nodup) (hy : X.N[i]? = some y) (hyl : X.env.scope.names.lookup y = some .local)
    (hsw : swapsWith (.ListComp elt [⟨tgt, iter, ifs, 0⟩] scope pos) (some (.Name y py)) spos.line X.env = pure true) (hi : IE X cm W tgt iter wi mi) (ok : BlkOk X.N X.env.scope scope own)
    (hg : ∀ (s : Shared) (H : Hp) (C : Addr) (cl : List (Str × Addr)) (fp : List Addr), GE (X.blk s H scope (compEnvC scope cl C X.env) fp) cm (pinOut (own.map (·.2))) tgt g mg)
    (ht : ∀ (s : Shared) (H : Hp) (C : Addr) (cl : List (Str × Addr)) (fp : List Addr), IFs (X.blk s H scope (compEnvC scope cl C X.env) fp) cm WF ifs tt mt)
    (he : ∀ (s : Shared) (H : Hp) (C : Addr) (cl : List (Str × Addr)) (fp : List Addr), DE (X.blk s H scope (compEnvC scope cl C X.env) fp) cm WF elt te me) (hP : P i = false := by rfl) (hs : ∀ x, foldedSetIterable iter X.env x = pure x := by intro _; rfl) :
    SE X cm W P (.Assign [.Name y py] (.ListComp elt [⟨tgt, iter, ifs, 0⟩] scope pos) spos) (tAsg (tLc wi g tt te (own.map (·.2))) (gName i)) (sAsg (mLc mi mg mt me (own.map (·.2))) (gSetM i)) := by
  refine ⟨ps_setLc hc hN hy hyl hsw hi.pi ok (fun s H C cl fp => (hg s H C cl fp).pg) (fun s H C cl fp => (ht s H C cl fp).pts) (fun s H C cl fp => (he s H C cl fp).pe) hs, ?_⟩
  exact sim_asg (sim_lc hi.sim (hg X.s_0 X.H_0 0 [] []).sim (ht X.s_0 X.H_0 0 [] []).sim (he X.s_0 X.H_0 0 [] []).sim) (sim_gname hP)
end
end
end L2.Fn
set_option maxRecDepth 100000
set_option maxHeartbeats 4000000
/-! FnE: defs and their calls. -/
namespace L2.Fn
open PySem PySem.Spec PyProof.Rows L2

inductive CR where
  | ret (s : S) (ss : List S)
  | exc (C : Str) (fs : List (Str × D)) (ss : List S)
/-- what a def computes: of its parameters' slots the value handed back and the slots' ends -/
abbrev Fun' := List S → Option CR
def maskL : List Bool → Slots → List S
  | [], _ => []
  | _ :: bs, [] => .no :: maskL bs []
  | b :: bs, s :: ρ => (if b then s else .no) :: maskL bs ρ
def pinL (l : List Bool) : Nat → Bool := fun i => l.getD i false
def runDef (n : Nat) (l : List Bool) (m : MS) : Fun' := fun ss => match m (ss ++ List.replicate n .no) with
  | some (.nx ρ) => some (.ret (.val .non) (maskL l ρ))
  | some (.rt s ρ) => some (.ret s (maskL l ρ))
  | some (.ex C fs ρ) => some (.exc C fs (maskL l ρ))
  | _ => none
section
variable (K : PySem.W.Frag) (cm : Wd)
def CPost (F : Hp) (τ : St) (H : Hp) (ss : List S) (Q : VK) (E : XK) : CR → Prop
  | .ret s ss' => ∀ v F' H', Post K cm pinAll F τ H ss F' τ H' ss' → RR1 K cm F τ H ss F' τ H' ss' v s → Q v H'
  | .exc C fs ss' => ∀ od F' H', Post K cm pinAll F τ H ss F' τ H' ss' → ExR K cm F' od fs → E (.ref (cm C)) od H'
def spOf (n : Nat) (f : Fun') : Sp := fun vs H Q E => vs.length = n ∧ ∃ F ss r, Rel K cm F (vs.map some) H ss ∧ f ss = some r ∧ CPost K cm F (vs.map some) H ss Q E r
end
section
variable {K : PySem.W.Frag} {cm : Wd} {W : WX} {F F' : Hp} {σ σ' τ : St} {H H' : Hp} {ρ ρ' : Slots} {vs : List V} {ss : List S} {l : List Bool} {n : Nat}
theorem maskL_get {l : List Bool} {ρ : Slots} {i : Nat} {s : S} (h : (maskL l ρ)[i]? = some s) (hn : s ≠ .no) : l[i]? = some true ∧ ρ[i]? = some s := by
  induction l generalizing ρ i with
  | nil => simp [maskL] at h
  | cons b bs ih =>
    cases ρ with
    | nil =>
      cases i with
      | zero => simp [maskL] at h; exact absurd h.symm hn
      | succ i => have := ih (ρ := []) (i := i) (by simpa [maskL] using h); simpa using this
    | cons s' ρ =>
      cases i with
      | zero =>
        simp [maskL] at h
        cases b with
        | true => simp at h; subst h; simp
        | false => simp at h; exact absurd h.symm hn
      | succ i => have := ih (ρ := ρ) (i := i) (by simpa [maskL] using h); simpa using this
theorem maskL_length {l : List Bool} {ρ : Slots} : (maskL l ρ).length = l.length := by
  induction l generalizing ρ with
  | nil => rfl
  | cons b bs ih => cases ρ <;> simp [maskL, ih]
theorem start_get {N : List Str} {i : Nat} (h : i < vs.length) : (start N vs)[i]? = (vs.map some)[i]? := by
  unfold start
  rw [List.getElem?_append_left (by simpa using h)]
/-- the slots at a def's entry -/
theorem rel_start {N : List Str} (R : Rel K cm F (vs.map some) H ss) (hN : N.length = ss.length + n) : Rel K cm F (start N vs) H (ss ++ List.replicate n .no) := by
  have hl : vs.length = ss.length := by simpa using R.len
  have sl : (start N vs).length = ss.length + n := by simp [start, hl, hN]
  have get : ∀ i s, (ss ++ List.replicate n S.no)[i]? = some s → s ≠ .no → i < ss.length ∧ ss[i]? = some s := fun i s h hn => by
    by_cases hi : i < ss.length
    · rw [List.getElem?_append_left hi] at h; exact ⟨hi, h⟩
    · rw [List.getElem?_append_right (by omega), List.getElem?_replicate] at h
      split at h
      · cases h; exact absurd rfl hn
      · cases h
  have oi : ∀ i a, ownAt (start N vs) (ss ++ List.replicate n S.no) i a → ownAt (vs.map some) ss i a := fun i a ⟨s, h1, h2, h3⟩ => by
    obtain ⟨hi, h1⟩ := get i s h1 (by rintro rfl; cases h2)
    exact ⟨s, h1, h2, by rw [← start_get (N := N) (by omega)]; exact h3⟩
  refine ⟨by rw [sl]; simp, R.sub, fun i s h hn => ?_, fun i j a h1 h2 => R.sep i j a (oi i a h1) (oi j a h2)⟩
  obtain ⟨hi, h⟩ := get i s h hn
  rw [start_get (by omega)]
  exact R.slot i s h hn
theorem owns_start {N : List Str} {a : Addr} (hl : vs.length = ss.length) : owns (start N vs) (ss ++ List.replicate n .no) a ↔ owns (vs.map some) ss a := by
  constructor
  · rintro ⟨i, s, h1, h2, h3⟩
    by_cases hi : i < ss.length
    · rw [List.getElem?_append_left hi] at h1
      rw [start_get (by omega)] at h3
      exact ⟨i, s, h1, h2, h3⟩
    · rw [List.getElem?_append_right (by omega), List.getElem?_replicate] at h1
      split at h1
      · cases h1; cases h2
      · cases h1
  · rintro ⟨i, s, h1, h2, h3⟩
    have hi := (List.getElem?_eq_some_iff.mp h1).1
    exact ⟨i, s, by rw [List.getElem?_append_left hi]; exact h1, h2, by rw [start_get (by omega)]; exact h3⟩
theorem owns_mask {N : List Str} {a : Addr} (hv : vs.length = l.length) (pin : ∀ i, pinL l i = true → σ'[i]? = (start N vs)[i]?) (h : owns (vs.map some) (maskL l ρ') a) : owns σ' ρ' a := by
  obtain ⟨i, s, h1, h2, h3⟩ := h
  obtain ⟨q1, q2⟩ := maskL_get h1 (by rintro rfl; cases h2)
  have hi : i < l.length := (List.getElem?_eq_some_iff.mp q1).1
  exact ⟨i, s, q2, h2, by rw [pin i (by simp [pinL, List.getD, q1]), start_get (by omega)]; exact h3⟩
/-- a def's end, as its caller sees it -/
theorem post_end {N : List Str} (R : Rel K cm F (vs.map some) H ss) (hN : N.length = ss.length + n) (hl : l.length = ss.length) (p : Post K cm (pinL l) F (start N vs) H (ss ++ List.replicate n .no) F' σ' H' ρ') :
    Post K cm pinAll F (vs.map some) H ss F' (vs.map some) H' (maskL l ρ') := by
  have hv : vs.length = ss.length := by simpa using R.len
  have es : ∀ i, l[i]? = some true → σ'[i]? = (vs.map some)[i]? := fun i h => by
    have hi : i < l.length := (List.getElem?_eq_some_iff.mp h).1
    rw [p.pin i (by simp [pinL, List.getD, h]), start_get (by omega)]
  have oi : ∀ i a, ownAt (vs.map some) (maskL l ρ') i a → ownAt σ' ρ' i a := fun i a ⟨s, h1, h2, h3⟩ => by
    obtain ⟨q1, q2⟩ := maskL_get h1 (by rintro rfl; cases h2)
    exact ⟨s, q2, h2, by rw [es i q1]; exact h3⟩
  refine ⟨⟨by rw [maskL_length]; simp [hl, hv], p.rel.sub, fun i s h hn => ?_, fun i j a h1 h2 => p.rel.sep i j a (oi i a h1) (oi j a h2)⟩, p.mono, fun a h => ?_, fun a o h hn => p.keep a o h fun z => hn ((owns_start hv).mp z), fun a ⟨i, h⟩ => ?_, fun _ _ => rfl, rfl⟩
  · obtain ⟨q1, q2⟩ := maskL_get h hn
    obtain ⟨v, h1, h2⟩ := p.rel.slot i s q2 hn
    exact ⟨v, by rw [← es i q1]; exact h1, h2⟩
  · rcases p.lim a h with z | z | z
    · exact .inl z
    · exact .inr (.inl ((owns_start hv).mp z))
    · exact .inr (.inr z)
  · rcases p.new a ⟨i, oi i a h⟩ with z | z
    · exact .inl ((owns_start hv).mp z)
    · exact .inr z
end

/-- a def's promise, by its body -/
theorem fn_ok {P : Program} {w : World} {K : PySem.W.Frag} {cm : Wd} {mg : Str → Option Value} {base : Heap} {x qual : Str} {params : Arguments} {body : List Stmt} {scope : Scope} {dvs : List V} {kws : List (Str × V)} {f : Addr} {fd : FuncData} {N ps : List Str} {k n : Nat} {l : List Bool} {t : TS} {m : MS}
    (Fd : FunD K x qual params body scope dvs kws f fd) (Sc : FnScope N ps scope) (hN : N.length = ps.length + n) (hl : l.length = ps.length)
    (hb : ∀ (cdv : Value) (A : Around) (outer : List PySem.Env) (s : Shared) (H : Hp) (E : XK), Room k (A.deeper (envOfC qual scope s.heap.objs.size f cdv)) →
      ∃ t, SSE (cxOf (L2.CX P w) P w K mg base N qual scope f cdv A outer s H E) cm (fun cls d _ H => E cls d H) (pinL l) body t m) :
    FnOk P w K mg base (L2.CX P w) (k + 1) f fd ps (spOf K cm ps.length (runDef n l m)) := by
  refine Fd.ok Sc (fun vs H Q E h => h.1) fun cdv A outer s H vs Q E hr h => ?_
  obtain ⟨hv, F, ss, r, R, e, hp⟩ := h
  obtain ⟨t, hs⟩ := hb cdv A outer s H E hr
  have hs2 : ss.length = ps.length := by rw [← hv]; simpa using R.len.symm
  have hN' : N.length = ss.length + n := by rw [hs2]; exact hN
  have hl' : l.length = ss.length := by rw [hs2]; exact hl
  have hvs : vs.length = ss.length := by rw [hs2]; exact hv
  refine ⟨t, hs.pss, ?_⟩
  have R0 := rel_start (n := n) R hN'
  unfold runDef at e
  cases q : m (ss ++ List.replicate n .no) with
  | none => rw [q] at e; cases e
  | some z =>
    rw [q] at e
    refine hs.sim _ z q F _ H _ R0 ?_
    cases z with
    | nx ρ' =>
      cases e
      exact fun F' σ' H' p => hp .non F' H' (post_end R hN' hl' p) ⟨.val .non, fun _ _ z => by cases z⟩
    | rt s ρ' =>
      cases e
      refine fun v F' σ' H' p x => hp v F' H' (post_end R hN' hl' p) ⟨x.1, fun a e o => ⟨fun z => (x.2 a e o).1 (owns_mask (by omega) p.pin z), ?_⟩⟩
      rcases (x.2 a e o).2 with z | z
      · exact .inl ((owns_start hvs).mp z)
      · exact .inr z
    | ex C fs ρ' =>
      cases e
      exact fun od F' σ' H' p x => hp od F' H' (post_end R hN' hl' p) x
    | bk ρ' => cases e
    | ct ρ' => cases e

/-! ### arguments -/
inductive Ar where
  | val (d : D)
  | io (j : Nat)
section
variable (K : PySem.W.Frag) (cm : Wd)
inductive RepA (F : Hp) (σ : St) : List V → List Ar → Prop where
  | nil : RepA F σ [] []
  | val {v d vs as} : Rep K cm F v d → RepA F σ vs as → RepA F σ (v :: vs) (.val d :: as)
  | io {v j vs as} : σ[j]? = some (some v) → RepA F σ vs as → RepA F σ (v :: vs) (.io j :: as)
def RAs : RR (List V) (List Ar) := fun _ σ _ _ F' _ _ vs as => RepA K cm F' σ vs as
end
structure CE' (X : Cx) (cm : Wd) (W : WX) (es : List Expr) (t : TA) (m : ME (List Ar)) : Prop where
  pa : PA X es t
  sim : Sim X.K cm W (RAs X.K cm) t m
def Ar.s (ρ : Slots) : Ar → S
  | .val d => .val d
  | .io j => (ρ[j]?).getD .no
def ioOk : List Ar → Bool
  | [] => true
  | .val _ :: as => ioOk as
  | .io j :: as => (as.all fun a => match a with
    | .io i => i != j
    | _ => true) && ioOk as
def back : List Ar → List S → Slots → Slots
  | .io j :: as, s :: ss, ρ => (back as ss ρ).set j s
  | .val _ :: as, _ :: ss, ρ => back as ss ρ
  | _, _, ρ => ρ
section
variable {K : PySem.W.Frag} {cm : Wd} {W : WX} {F F' : Hp} {σ σ' τ : St} {H H' : Hp} {ρ ρ' : Slots} {vs : List V} {ss : List S} {as : List Ar} {i j k : Nat} {a : Addr} {s : S}
theorem tr_As : Tr K cm (RAs K cm) := fun _ _ _ _ _ _ _ _ _ _ _ _ _ h => h
theorem RepA.length (h : RepA K cm F σ vs as) : vs.length = as.length := by
  induction h with
  | nil => rfl
  | val _ _ ih => simp [ih]
  | io _ _ ih => simp [ih]
theorem RepA.get_io (h : RepA K cm F σ vs as) (e : as[k]? = some (.io j)) : ∃ v, vs[k]? = some v ∧ σ[j]? = some (some v) := by
  induction h generalizing k with
  | nil => simp at e
  | val _ _ ih => cases k with
    | zero => simp at e
    | succ k => simpa using ih (by simpa using e)
  | io h1 _ ih => cases k with
    | zero => simp at e; subst e; exact ⟨_, by simp, h1⟩
    | succ k => simpa using ih (by simpa using e)
theorem RepA.get_val (h : RepA K cm F σ vs as) {d : D} (e : as[k]? = some (.val d)) : ∃ v, vs[k]? = some v ∧ Rep K cm F v d := by
  induction h generalizing k with
  | nil => simp at e
  | val h1 _ ih => cases k with
    | zero => simp at e; subst e; exact ⟨_, by simp, h1⟩
    | succ k => simpa using ih (by simpa using e)
  | io h1 _ ih => cases k with
    | zero => simp at e
    | succ k => simpa using ih (by simpa using e)
theorem RepA.mono (m : ∀ a o, F a = some o → F' a = some o) (h : RepA K cm F σ vs as) : RepA K cm F' σ vs as := by
  induction h with
  | nil => exact .nil
  | val h _ ih => exact .val (h.mono m) ih
  | io h _ ih => exact .io h ih
theorem ioOk_inj (h : ioOk as = true) : ∀ {k k' : Nat}, as[k]? = some (.io j) → as[k']? = some (.io j) → k = k' := by
  induction as with
  | nil => intro k k' e; simp at e
  | cons x as ih =>
    intro k k' e e'
    have nin : ∀ {k : Nat}, x = .io j → as[k]? ≠ some (.io j) := fun {k} ex ek => by
      subst ex
      simp only [ioOk, Bool.and_eq_true, List.all_eq_true] at h
      have := h.1 (.io j) (List.mem_of_getElem? ek)
      simp at this
    have h' : ioOk as = true := by
      cases x with
      | val d => exact h
      | io i => simp only [ioOk, Bool.and_eq_true] at h; exact h.2
    cases k with
    | zero =>
      cases k' with
      | zero => rfl
      | succ k' => simp at e e'; exact absurd e' (nin e)
    | succ k =>
      cases k' with
      | zero => simp at e e'; exact absurd e (nin e')
      | succ k' => simp at e e'; rw [ih h' e e']
theorem back_length : (back as ss ρ).length = ρ.length := by
  induction as generalizing ss with
  | nil => rfl
  | cons x as ih => cases ss with
    | nil => cases x <;> rfl
    | cons s ss => cases x with
      | val d => exact ih
      | io j => simp [back, ih]
theorem back_get (hl : as.length = ss.length) (h : (back as ss ρ)[i]? = some s) : (∃ k : Nat, as[k]? = some (Ar.io i) ∧ ss[k]? = some s) ∨ (ρ[i]? = some s ∧ ∀ k : Nat, as[k]? ≠ some (Ar.io i)) := by
  induction as generalizing ss with
  | nil => exact .inr ⟨h, by simp⟩
  | cons x as ih =>
    cases ss with
    | nil => simp at hl
    | cons s' ss =>
      have hl' : as.length = ss.length := by simpa using hl
      cases x with
      | val d =>
        rcases ih hl' h with ⟨k, h1, h2⟩ | ⟨h1, h2⟩
        · exact .inl ⟨k + 1, by simpa using h1, by simpa using h2⟩
        · exact .inr ⟨h1, fun k => by cases k with
            | zero => simp
            | succ k => simpa using h2 k⟩
      | io j =>
        simp only [back] at h
        by_cases e : i = j
        · subst e
          have hi : i < (back as ss ρ).length := by
            have := (List.getElem?_eq_some_iff.mp h).1
            simpa using this
          rw [List.getElem?_set_self hi] at h
          cases h
          exact .inl ⟨0, by simp, by simp⟩
        · rw [List.getElem?_set_ne (Ne.symm e)] at h
          rcases ih hl' h with ⟨k, h1, h2⟩ | ⟨h1, h2⟩
          · exact .inl ⟨k + 1, by simpa using h1, by simpa using h2⟩
          · exact .inr ⟨h1, fun k => by cases k with
              | zero => simp; exact fun z => e z.symm
              | succ k => simpa using h2 k⟩
theorem own_arg (ra : RepA K cm F σ vs as) (h : ownAt (vs.map some) (as.map (Ar.s ρ)) k a) : ∃ j, as[k]? = some (.io j) ∧ ownAt σ ρ j a := by
  obtain ⟨s, h1, h2, h3⟩ := h
  rw [List.getElem?_map] at h1
  cases q : as[k]? with
  | none => rw [q] at h1; cases h1
  | some x =>
    rw [q] at h1
    cases h1
    cases x with
    | val d => cases h2
    | io j =>
      obtain ⟨v, e1, e2⟩ := ra.get_io q
      rw [List.getElem?_map, e1] at h3
      cases h3
      refine ⟨j, rfl, ?_⟩
      cases e : ρ[j]? with
      | none => simp only [Ar.s, e] at h2; cases h2
      | some s => simp only [Ar.s, e] at h2; exact ⟨s, e, h2, e2⟩
theorem rel_args (R : Rel K cm F σ H ρ) (ra : RepA K cm F σ vs as) (ok : ioOk as = true) : Rel K cm F (vs.map some) H (as.map (Ar.s ρ)) := by
  refine ⟨by simp [ra.length], R.sub, fun k s h hn => ?_, fun k k' a h1 h2 => ?_⟩
  · rw [List.getElem?_map] at h
    cases q : as[k]? with
    | none => rw [q] at h; cases h
    | some x =>
      rw [q] at h
      cases h
      cases x with
      | val d =>
        obtain ⟨v, e1, e2⟩ := ra.get_val q
        exact ⟨v, by simp [e1], .val e2⟩
      | io j =>
        obtain ⟨v, e1, e2⟩ := ra.get_io q
        cases e : ρ[j]? with
        | none => simp [Ar.s, e] at hn
        | some s =>
          have es : Ar.s ρ (.io j) = s := by simp [Ar.s, e]
          rw [es] at hn ⊢
          obtain ⟨v', h1, h2⟩ := R.slot j s e hn
          rw [e2] at h1
          cases h1
          exact ⟨v, by simp [e1], h2⟩
  · obtain ⟨j, e1, o1⟩ := own_arg ra h1
    obtain ⟨j', e2, o2⟩ := own_arg ra h2
    have := R.sep j j' a o1 o2
    subst this
    exact ioOk_inj ok e1 e2
/-- behind a call, in the caller's slots -/
theorem post_call {ss' : List S} (R : Rel K cm F σ H ρ) (ra : RepA K cm F σ vs as) (ok : ioOk as = true) (p : Post K cm pinAll F (vs.map some) H (as.map (Ar.s ρ)) F' (vs.map some) H' ss') :
    Post K cm pinAll F σ H ρ F' σ H' (back as ss' ρ) ∧ ∀ a, owns σ (back as ss' ρ) a → owns (vs.map some) ss' a ∨ (∃ i : Nat, ownAt σ ρ i a ∧ ∀ k : Nat, as[k]? ≠ some (Ar.io i)) := by
  have hl : as.length = ss'.length := by
    have := p.rel.len
    simp [ra.length] at this
    exact this
  have up : ∀ a, owns (vs.map some) (as.map (Ar.s ρ)) a → owns σ ρ a := fun a ⟨k, h⟩ => let ⟨j, _, o⟩ := own_arg ra h; ⟨j, o⟩
  have apart : ∀ (i : Nat) a, ownAt σ ρ i a → (∀ k : Nat, as[k]? ≠ some (Ar.io i)) → ¬ owns (vs.map some) (as.map (Ar.s ρ)) a := fun i a o n ⟨k, h⟩ => by
    obtain ⟨j, e, o'⟩ := own_arg ra h
    have := R.sep i j a o o'
    subst this
    exact n k e
  have oi : ∀ (i : Nat) a, ownAt σ (back as ss' ρ) i a → (∃ k : Nat, as[k]? = some (Ar.io i) ∧ ownAt (vs.map some) ss' k a) ∨ (ownAt σ ρ i a ∧ ∀ k : Nat, as[k]? ≠ some (Ar.io i)) := fun i a ⟨s, h1, h2, h3⟩ => by
    rcases back_get hl h1 with ⟨k, e1, e2⟩ | ⟨e1, e2⟩
    · obtain ⟨v, e3, e4⟩ := ra.get_io e1
      rw [h3] at e4
      cases e4
      exact .inl ⟨k, e1, s, e2, h2, by simp [e3]⟩
    · exact .inr ⟨⟨s, e1, h2, h3⟩, e2⟩
  refine ⟨⟨⟨by rw [back_length]; exact R.len, p.rel.sub, fun i s h hn => ?_, fun i j a h1 h2 => ?_⟩, p.mono, fun a h => ?_, fun a o h n => p.keep a o h fun z => n (up a z), fun a ⟨i, h⟩ => ?_, fun _ _ => rfl, rfl⟩, fun a ⟨i, h⟩ => ?_⟩
  · rcases back_get hl h with ⟨k, e1, e2⟩ | ⟨e1, e2⟩
    · obtain ⟨v, e3, e4⟩ := ra.get_io e1
      obtain ⟨v', e5, e6⟩ := p.rel.slot k s e2 hn
      rw [List.getElem?_map, e3] at e5
      cases e5
      exact ⟨v, e4, e6⟩
    · obtain ⟨v, e3, e4⟩ := R.slot i s e1 hn
      refine ⟨v, e3, e4.post p fun a ea eo => apart i a ⟨s, e1, eo, by rw [e3, ea]⟩ e2⟩
  · rcases oi i a h1 with ⟨k, e1, o1⟩ | ⟨o1, n1⟩
    · rcases oi j a h2 with ⟨k', e2, o2⟩ | ⟨o2, n2⟩
      · have := p.rel.sep k k' a o1 o2
        subst this
        rw [e1] at e2
        cases e2; rfl
      · rcases p.new a ⟨k, o1⟩ with z | z
        · exact absurd z (apart j a o2 n2)
        · exact absurd z (R.owned' ⟨j, o2⟩).1
    · rcases oi j a h2 with ⟨k', e2, o2⟩ | ⟨o2, n2⟩
      · rcases p.new a ⟨k', o2⟩ with z | z
        · exact absurd z (apart i a o1 n1)
        · exact absurd z (R.owned' ⟨i, o1⟩).1
      · exact R.sep i j a o1 o2
  · rcases p.lim a h with z | z | z
    · exact .inl z
    · exact .inr (.inl (up a z))
    · exact .inr (.inr z)
  · rcases oi i a h with ⟨k, e1, o1⟩ | ⟨o1, n1⟩
    · rcases p.new a ⟨k, o1⟩ with z | z
      · exact .inl (up a z)
      · exact .inr z
    · exact .inl ⟨i, o1⟩
  · rcases oi i a h with ⟨k, e1, o1⟩ | ⟨o1, n1⟩
    · exact .inl ⟨k, o1⟩
    · exact .inr ⟨i, o1, n1⟩
end
section
variable {X : Cx} {cm : Wd} {W : WX} {e a b : Expr} {es : List Expr} {te ta tb : TE} {ts : TA} {m ma mb : ME D} {ms : ME (List Ar)} {pos p : Pos}
def aNil : ME (List Ar) := ret []
def aCons (m : ME D) (ms : ME (List Ar)) : ME (List Ar) := m.bnd fun d => ms.bnd fun ds => ret (.val d :: ds)
def aIo (j : Nat) (ms : ME (List Ar)) : ME (List Ar) := ms.bnd fun ds => ret (.io j :: ds)
theorem ce_nil : CE' X cm W [] tNil aNil := ⟨pa_nil, fun ρ r e F σ H Q hr hp => by cases ret_ok e; exact hp [] F H (Post.refl hr) .nil⟩
theorem ce_cons (ha : DE X cm W a ta ma) (hs : CE' X cm W es ts ms) (h : starEach (a :: es) X.env = (false, eval a X.env) :: starEach es X.env := by rfl) : CE' X cm W (a :: es) (tCons ta ts) (aCons ma ms) := by
  refine ⟨pa_cons ha.pe hs.pa h, fun ρ r e F σ H Q hr hp => ?_⟩
  refine ha.sim.step e hr hp fun d ρ1 v F1 H1 e1 p1 r1 => ?_
  refine hs.sim.step e1 p1.rel (hp.trans tr_As p1) fun ds ρ2 vs F2 H2 e2 p2 r2 => ?_
  cases ret_ok e2
  exact hp _ F2 H2 (p1.trans p2) (.val (Rep.mono p2.mono r1) r2)
def mIo (j : Nat) (ms : ME (List Ar)) : ME (List Ar) := fun ρ => match ρ[j]? with
  | some .no => none
  | some _ => aIo j ms ρ
  | none => none
theorem ce_io {i : Nat} {x : Str} {px : Pos} (hs : CE' X cm W es ts ms) (hN : X.N[i]? = some x) (hv : Vis X.env.scope x) (hd : (x == ("__debug__" : Str)) = false := by decide) (hcd : (x == ("__classdict__" : Str)) = false := by decide)
    (h : starEach (.Name x px :: es) X.env = (false, eval (.Name x px) X.env) :: starEach es X.env := by rfl) : CE' X cm W (.Name x px :: es) (tCons (tVar i) ts) (mIo i ms) := by
  refine ⟨pa_cons (pe_var hN hv hd hcd) hs.pa h, fun ρ r e F σ H Q hr hp => ?_⟩
  unfold mIo at e
  cases q : ρ[i]? with
  | none => rw [q] at e; cases e
  | some s =>
    have hn : s ≠ .no := by rintro rfl; rw [q] at e; cases e
    have e' : aIo i ms ρ = some r := by
      rw [q] at e
      cases s with
      | no => exact absurd rfl hn
      | _ => exact e
    obtain ⟨v, h1, h2⟩ := hr.slot i s q hn
    refine ⟨v, h1, hs.sim.step e' hr hp fun ds ρ2 vs F2 H2 e2 p2 r2 => ?_⟩
    cases ret_ok e2
    exact hp _ F2 H2 p2 (.io h1 r2)
/-- the call of a def -/
def CR.back (as : List Ar) (ρ : Slots) : CR → Ex S
  | .ret s ss => .ok s (Fn.back as ss ρ)
  | .exc C fs ss => .ex C fs (Fn.back as ss ρ)
def mCall (f : Fun') (dds : List D) (ms : ME (List Ar)) : ME S := ms.bnd fun as ρ =>
  if ioOk as then ((f ((as ++ dds.map Ar.val).map (Ar.s ρ))).map (CR.back (as ++ dds.map Ar.val) ρ)) else none
theorem RepA.app {K : PySem.W.Frag} {F : Hp} {σ : St} {vs ws : List V} {as : List Ar} {ds : List D} (h : RepA K cm F σ vs as) (g : RepL K cm F ws ds) : RepA K cm F σ (vs ++ ws) (as ++ ds.map Ar.val) := by
  induction h with
  | nil =>
    induction ws generalizing ds with
    | nil => cases g; exact .nil
    | cons w ws ih => cases g with | cons a b => exact .val a (ih b)
  | val h _ ih => exact .val h ih
  | io h _ ih => exact .io h ih
theorem ioOk_app {as : List Ar} {ds : List D} (h : ioOk as = true) : ioOk (as ++ ds.map Ar.val) = true := by
  induction as with
  | nil => induction ds with
    | nil => rfl
    | cons d ds ih => exact ih
  | cons x as ih => cases x with
    | val d => exact ih h
    | io j =>
      simp only [ioOk, Bool.and_eq_true] at h
      simp only [List.cons_append, ioOk, Bool.and_eq_true, List.all_append]
      refine ⟨⟨h.1, ?_⟩, ih h.2⟩
      simp
/-- what a callee's promise gives, in the caller's slots -/
theorem call_at {K : PySem.W.Frag} {f : Fun'} {n : Nat} {F : Hp} {σ : St} {H : Hp} {ρ : Slots} {vs : List V} {as : List Ar} {c : CR} {Q : VK} (R : Rel K cm F σ H ρ) (ra : RepA K cm F σ vs as) (ok : ioOk as = true) (hn : vs.length = n) (e : f (as.map (Ar.s ρ)) = some c)
    (hp : EPost K cm W (RO K cm) F σ H ρ Q (c.back as ρ)) : spOf K cm n f vs H Q (WE W σ) := by
  refine ⟨hn, F, as.map (Ar.s ρ), c, rel_args R ra ok, e, ?_⟩
  cases c with
  | ret s ss' =>
    intro v F' H' p x
    obtain ⟨p1, p2⟩ := post_call R ra ok p
    refine hp v F' H' p1 ⟨x.1, fun a e o => ⟨fun z => ?_, ?_⟩⟩
    · rcases p2 a z with z | ⟨i, z, n⟩
      · exact (x.2 a e o).1 z
      · rcases (x.2 a e o).2 with ⟨k, q⟩ | q
        · obtain ⟨j, ej, oj⟩ := own_arg ra q
          have := R.sep i j a z oj
          subst this
          exact n k ej
        · exact (R.owned' ⟨i, z⟩).1 q
    · rcases (x.2 a e o).2 with ⟨k, q⟩ | q
      · obtain ⟨j, ej, oj⟩ := own_arg ra q
        exact .inl ⟨j, oj⟩
      · exact .inr q
  | exc C fs ss' =>
    intro od F' H' p x
    exact hp od F' H' (post_call R ra ok p).1 x
theorem sim_call {K : PySem.W.Frag} {f : Fun'} {n : Nat} {dvs : List V} {dds : List D} (hd : ∀ F, RepL K cm F dvs dds) (hs : Sim K cm W (RAs K cm) ts ms) (hn : ∀ ρ as ρ', ms ρ = some (.ok as ρ') → as.length + dds.length = n) :
    Sim K cm W (RO K cm) (tCallSD (spOf K cm n f) dvs (WE W) ts) (mCall f dds ms) := by
  intro ρ r e F σ H Q hr hp
  have e0 := e
  unfold mCall ME.bnd at e
  cases q : ms ρ with
  | none => rw [q] at e; cases e
  | some z =>
    rw [q] at e
    cases z with
    | ex C fs ρ' => cases e; exact hs ρ _ q F σ H _ hr hp
    | ok as ρ1 =>
      refine hs ρ _ q F σ H _ hr fun vs F1 H1 p1 ra => ?_
      have ra : RepA K cm F1 σ vs as := ra
      simp only at e
      split at e
      · rename_i hk
        cases q2 : f ((as ++ dds.map Ar.val).map (Ar.s ρ1)) with
        | none => rw [q2] at e; cases e
        | some c =>
          rw [q2] at e
          cases e
          refine call_at p1.rel (ra.app (hd F1)) (ioOk_app hk) ?_ q2 (hp.trans tr_O p1)
          have := hn ρ as ρ1 q
          rw [List.length_append, ra.length, (hd F).length]
          exact this
      · cases e
theorem oe_call {f : Fun'} {n k : Nat} {x : Str} {fa : Addr} {fd : FuncData} {ps : List Str} {dvs : List V} {ds : List Value} {dds : List D} (Fk : FnOk X.prog X.w X.K X.mg X.base (L2.CX X.prog X.w) k fa fd ps (spOf X.K cm n f)) (hr : Room k X.A) (hg : Gl X x) (hm : X.mg x = some (.ref fa)) (hk : PySem.W.keepIn X.K (.ref fa) = true)
    (hb : Binds X.K fd ps ds) (hd : Vals dvs ds) (hdd : ∀ F, RepL X.K cm F dvs dds) (tk : Takes X W) (hs : CE' X cm W (e :: es) ts ms) (hn : ∀ ρ as ρ', ms ρ = some (.ok as ρ') → as.length + dds.length = n)
    (hdb : (x == ("__debug__" : Str)) = false := by decide) (he : starEach (e :: es) X.env = (false, eval e X.env) :: starEach es X.env := by rfl) (hpl : (backTo pos (starEach es X.env)).any (·.1) = false := by rfl) :
    OE X cm W (.Call (.Name x p) (e :: es) [] pos) (tCallSD (spOf X.K cm n f) dvs (WE W) ts) (mCall f dds ms) :=
  ⟨pe_callSD Fk hr hg hm hk hb hd (fun σ => passAt tk σ) hs.pa hdb he hpl, sim_call hdd hs.sim hn⟩
/-- how many arguments there are -/
theorem an_nil {ρ : Slots} {as : List Ar} {ρ' : Slots} (h : aNil ρ = some (.ok as ρ')) : as.length = 0 := by cases h; rfl
theorem an_cons {n : Nat} (hs : ∀ ρ as ρ', ms ρ = some (.ok as ρ') → as.length = n) {ρ : Slots} {as : List Ar} {ρ' : Slots} (h : aCons m ms ρ = some (.ok as ρ')) : as.length = n + 1 := by
  unfold aCons ME.bnd at h
  cases q : m ρ with
  | none => rw [q] at h; cases h
  | some z =>
    rw [q] at h
    cases z with
    | ex _ _ _ => cases h
    | ok a ρ1 =>
      dsimp only at h
      cases q2 : ms ρ1 with
      | none => rw [q2] at h; cases h
      | some z =>
        rw [q2] at h
        cases z with
        | ex _ _ _ => cases h
        | ok a ρ1 =>
          cases h
          simp [hs _ _ _ q2]
theorem an_io {n j : Nat} (hs : ∀ ρ as ρ', ms ρ = some (.ok as ρ') → as.length = n) {ρ : Slots} {as : List Ar} {ρ' : Slots} (h : mIo j ms ρ = some (.ok as ρ')) : as.length = n + 1 := by
  have h' : aIo j ms ρ = some (.ok as ρ') := by
    unfold mIo at h
    split at h
    · cases h
    · exact h
    · cases h
  unfold aIo ME.bnd at h'
  cases q2 : ms ρ with
  | none => rw [q2] at h'; cases h'
  | some z =>
    rw [q2] at h'
    cases z with
    | ex _ _ _ => cases h'
    | ok a ρ1 =>
      cases h'
      simp [hs _ _ _ q2]
end
end L2.Fn
set_option maxRecDepth 100000
set_option maxHeartbeats 4000000
/-! FnF: fields, items, slices, displays, built-in functions and methods. -/
namespace L2.Fn
open PySem PySem.Spec PyProof.Rows L2

section
variable {X : Cx} {cm : Wd} {W : WX} {e a b c o : Expr} {es : List Expr} {t ta tb tc : TE} {ts : TA} {m ma mb mc : ME D} {mo : ME S} {pos p : Pos}
/-! ### fields -/
def gFld (L : List Str) (f : Str) : D → Option D
  | .obj C fs => if C ∈ L then fs.lookup f else none
  | _ => none
def mFld (L : List Str) (f : Str) (m : ME D) : ME D := m.bnd fun d => opt (gFld L f d)
/-- what the written part says of a class whose instances have such a field -/
def FldOk (K : PySem.W.Frag) (cm : Wd) (L : List Str) (f : Str) : Prop := ∀ C ∈ L, Cls K (cm C) ∧ NoAttr K (cm C) f
theorem de_fld {L : List Str} {f : Str} (hL : FldOk X.K cm L f) (h : DE X cm W e t m) (hb : attributeBase e f X.env (eval e X.env) = eval e X.env := by rfl) : DE X cm W (.Attribute e f pos) (tFld X.K t f) (mFld L f m) := by
  refine ⟨pe_fld h.pe hb, fun ρ r e F σ H Q hr hp => ?_⟩
  refine h.sim.step e hr hp fun d ρ1 v F1 H1 e1 p1 r1 => ?_
  obtain ⟨d', h1, rfl⟩ := opt_ok e1
  cases r1 with
  | obj h2 h3 =>
    simp only [gFld] at h1
    split at h1
    · rename_i hC
      obtain ⟨w, h4, h5⟩ := h3.look h1
      exact ⟨_, _, _, _, _, rfl, p1.rel.sub _ _ h2, (hL _ hC).1, (hL _ hC).2, h4, hp w F1 H1 p1 h5⟩
    · cases h1
  | _ => cases h1
/-- a field of a slot's own object (self in __init__) -/
def mFldN (L : List Str) (f : Str) (i : Nat) : ME D := fun ρ => match ρ[i]? with
  | some (.ins C fs) => if C ∈ L then opt (fs.lookup f) ρ else none
  | some (.val d) => opt (gFld L f d) ρ
  | _ => none
theorem de_fldN {L : List Str} {f x : Str} {i : Nat} {px : Pos} (hL : FldOk X.K cm L f) (hN : X.N[i]? = some x) (hv : Vis X.env.scope x) (hd : (x == ("__debug__" : Str)) = false := by decide) (hcd : (x == ("__classdict__" : Str)) = false := by decide)
    (hb : attributeBase (.Name x px) f X.env (eval (.Name x px) X.env) = eval (.Name x px) X.env := by rfl) : DE X cm W (.Attribute (.Name x px) f pos) (tFld X.K (tVar i) f) (mFldN L f i) := by
  refine ⟨pe_fld (pe_var hN hv hd hcd) hb, fun ρ r e F σ H Q hr hp => ?_⟩
  unfold mFldN at e
  split at e
  · rename_i C fs q
    split at e
    · rename_i hC
      obtain ⟨d, h1, rfl⟩ := opt_ok e
      obtain ⟨v, h2, h3⟩ := hr.slot i _ q (by simp)
      obtain ⟨a, o, rfl, h4, h5, h6⟩ := h3.of_own rfl
      cases h6 with
      | ins r =>
        obtain ⟨w, h7, h8⟩ := r.look h1
        exact ⟨_, h2, _, _, _, _, _, rfl, h4, (hL _ hC).1, (hL _ hC).2, h7, hp w F H (Post.refl hr) h8⟩
    · cases e
  · rename_i d q
    obtain ⟨d', h1, rfl⟩ := opt_ok e
    obtain ⟨v, h2, h3⟩ := hr.slot i _ q (by simp)
    cases h3.of_val with
    | obj h4 h5 =>
      simp only [gFld] at h1
      split at h1
      · rename_i hC
        obtain ⟨w, h6, h7⟩ := h5.look h1
        exact ⟨_, h2, _, _, _, _, _, rfl, hr.sub _ _ h4, (hL _ hC).1, (hL _ hC).2, h6, hp w F H (Post.refl hr) h7⟩
      · cases h1
    | _ => cases h1
  · cases e
/-- a constant of the class -/
def gCon (L : List (Str × D)) (f : Str) : D → Option D
  | .obj C fs => match fs.lookup f with
    | none => L.lookup C
    | some _ => none
  | _ => none
def mCon (L : List (Str × D)) (f : Str) (m : ME D) : ME D := m.bnd fun d => opt (gCon L f d)
def ConOk (K : PySem.W.Frag) (cm : Wd) (L : List (Str × D)) (f : Str) : Prop := ∀ C d, L.lookup C = some d → Cls K (cm C) ∧ ∃ v u, Con K (cm C) f v u ∧ ∀ F, Rep K cm F v d
theorem de_con {L : List (Str × D)} {f : Str} (hL : ConOk X.K cm L f) (h : DE X cm W e t m) (hb : attributeBase e f X.env (eval e X.env) = eval e X.env := by rfl) : DE X cm W (.Attribute e f pos) (tCon X.K t f) (mCon L f m) := by
  refine ⟨pe_con h.pe hb, fun ρ r e F σ H Q hr hp => ?_⟩
  refine h.sim.step e hr hp fun d ρ1 v F1 H1 e1 p1 r1 => ?_
  obtain ⟨d', h1, rfl⟩ := opt_ok e1
  cases r1 with
  | obj h2 h3 =>
    simp only [gCon] at h1
    split at h1
    · rename_i hC
      obtain ⟨h4, w, u, h5, h6⟩ := hL _ _ h1
      exact ⟨_, _, _, _, w, u, rfl, p1.rel.sub _ _ h2, h4, h5, h3.lookN hC, hp w F1 H1 p1 (h6 F1)⟩
    · cases h1
  | _ => cases h1

/-! ### displays -/
theorem ae_star {te : TE} {me : ME D} {ms : ME (List D)} (he : DE X cm W e te me) (hs : AE X cm W es ts ms) (h : starEach (.Starred e p :: es) X.env = (true, eval e X.env) :: starEach es X.env := by rfl) :
    AE X cm W (.Starred e p :: es) (StX.tStar X.K te ts) (me.bnd fun d => match d with
      | .tup xs => ms.bnd fun ds => ret (xs ++ ds)
      | .ktp xs => ms.bnd fun ds => ret (xs ++ ds)
      | .lst xs => ms.bnd fun ds => ret (xs ++ ds)
      | _ => fun _ => none) := by
  refine ⟨StX.pa_star he.pe hs.pa h, fun ρ r e F σ H Q hr hp => ?_⟩
  refine he.sim.step e hr hp fun d ρ1 v F1 H1 e1 p1 r1 => ?_
  cases r1 with
  | tup h1 h2 =>
    refine ⟨_, _, rfl, .inl (SqT.of (p1.rel.sub _ _ h1)), ?_⟩
    refine hs.sim.step e1 p1.rel (hp.trans tr_Ds p1) fun ds ρ2 vs F2 H2 e2 p2 r2 => ?_
    cases ret_ok e2
    exact hp _ F2 H2 (p1.trans p2) ((h2.mono p2.mono).append r2)
  | ktp h1 h2 =>
    refine ⟨_, _, rfl, .inl (SqT.mono p1.rel.sub h1), ?_⟩
    refine hs.sim.step e1 p1.rel (hp.trans tr_Ds p1) fun ds ρ2 vs F2 H2 e2 p2 r2 => ?_
    cases ret_ok e2
    exact hp _ F2 H2 (p1.trans p2) ((h2.mono p2.mono).append r2)
  | lst h1 h2 =>
    refine ⟨_, _, rfl, .inr (SqL.of (p1.rel.sub _ _ h1)), ?_⟩
    refine hs.sim.step e1 p1.rel (hp.trans tr_Ds p1) fun ds ρ2 vs F2 H2 e2 p2 r2 => ?_
    cases ret_ok e2
    exact hp _ F2 H2 (p1.trans p2) ((h2.mono p2.mono).append r2)
  | _ => cases e1
def mTup (ms : ME (List D)) : ME D := ms.bnd fun ds => if ds.length ≤ sizeLine then ret (.tup ds) else fun _ => none
def mLst (ms : ME (List D)) : ME S := ms.bnd fun ds => if ds.length ≤ sizeLine then ret (.lst ds) else fun _ => none
theorem de_tup {x1} {ms : ME (List D)} (h : AE X cm W es ts ms) : DE X cm W (.Tuple es x1 pos) (tTup ts) (mTup ms) := by
  refine ⟨pe_tup h.pa, fun ρ r e F σ H Q hr hp => ?_⟩
  refine h.sim.step e hr hp fun ds ρ1 vs F1 H1 e1 p1 r1 => ?_
  have r1 : RepL X.K cm F1 vs ds := r1
  split at e1
  · rename_i hl
    cases ret_ok e1
    exact ⟨by rw [r1.length]; exact hl, fun q hq => hp _ _ _ (p1.trans (Post.cold p1.rel hq)) (rd_tup (σ := σ) (ρ := ρ1) p1.rel hq r1)⟩
  · cases e1
theorem oe_lst {ms : ME (List D)} (h : AE X cm W es ts ms) : OE X cm W (.List es pos) (tLst ts) (mLst ms) := by
  refine ⟨pe_lst h.pa, fun ρ r e F σ H Q hr hp => ?_⟩
  refine h.sim.step e hr hp fun ds ρ1 vs F1 H1 e1 p1 r1 => ?_
  have r1 : RepL X.K cm F1 vs ds := r1
  split at e1
  · rename_i hl
    cases ret_ok e1
    exact ⟨by rw [r1.length]; exact hl, fun q hq => hp _ _ _ (p1.trans (Post.warm p1.rel hq)) (tr_O _ _ _ _ _ _ _ _ _ _ _ _ p1 (rd_lst p1.rel hq r1))⟩
  · cases e1

/-! ### items -/
def gIx : D → D → Option D := fun x y => match x, y with
  | .lst xs, .int i => atI xs i
  | .scr xs, .int i => atI xs i
  | .tup xs, .int i => atI xs i
  | .ktp xs, .int i => atI xs i
  | .str z, .int i => if z.length ≤ sizeLine then (atI z.cps.toList i).map fun c => .str ⟨#[c]⟩ else none
  | _, _ => none
theorem RepL.at {K : PySem.W.Frag} {F : Hp} {vs : List V} {ds : List D} (h : RepL K cm F vs ds) {i : Int} {d : D} (e : atI ds i = some d) : ∃ v, atI vs i = some v ∧ Rep K cm F v d := by
  unfold atI at e ⊢
  rw [h.length]
  cases q : ixN ds.length i with
  | none => rw [q] at e; cases e
  | some j => rw [q] at e; exact h.get e
def mIx (ma mb : ME D) : ME D := ma.bnd fun x => mb.bnd fun y => opt (gIx x y)
theorem od_ix {K : PySem.W.Frag} {F : Hp} {H : Hp} {x y : V} {dx dy d : D} {Q : VK} (m : ∀ a o, F a = some o → H a = some o) (hx : Rep K cm F x dx) (hy : Rep K cm F y dy) (hg : gIx dx dy = some d) (hQ : ∀ v, Rep K cm F v d → Q v H) : rIx K x y H Q := by
  cases hx with
  | lst h1 r1 => cases hy with
    | int => obtain ⟨v, e1, e2⟩ := r1.at hg; exact .inl ⟨_, _, _, v, rfl, rfl, SqL.of (m _ _ h1), e1, hQ v e2⟩
    | _ => cases hg
  | scr h1 r1 => cases hy with
    | int => obtain ⟨v, e1, e2⟩ := r1.at hg; exact .inl ⟨_, _, _, v, rfl, rfl, SqL.mono m h1, e1, hQ v e2⟩
    | _ => cases hg
  | tup h1 r1 => cases hy with
    | int => obtain ⟨v, e1, e2⟩ := r1.at hg; exact .inr (.inl ⟨_, _, _, v, rfl, rfl, SqT.of (m _ _ h1), e1, hQ v e2⟩)
    | _ => cases hg
  | ktp h1 r1 => cases hy with
    | int => obtain ⟨v, e1, e2⟩ := r1.at hg; exact .inr (.inl ⟨_, _, _, v, rfl, rfl, SqT.mono m h1, e1, hQ v e2⟩)
    | _ => cases hg
  | @str z => cases hy with
    | @int i =>
      simp only [gIx] at hg
      split at hg
      · rename_i hz
        cases q : atI z.cps.toList i with
        | none => rw [q] at hg; cases hg
        | some c => rw [q] at hg; cases hg; exact .inr (.inr ⟨z, i, c, rfl, rfl, hz, q, hQ _ .str⟩)
      · cases hg
    | _ => cases hg
  | _ => cases hg
theorem de_ix (ha : DE X cm W a ta ma) (hb : DE X cm W b tb mb) (hs : PlainIx b := by exact fun _ _ => rfl) : DE X cm W (.Subscript a b pos) (tOp (rIx X.K) ta tb) (mIx ma mb) := by
  refine ⟨pe_ix ix_seq ha.pe hb.pe hs, fun ρ r e F σ H Q hr hp => ?_⟩
  refine ha.sim.step e hr hp fun dx ρ1 x F1 H1 e1 p1 r1 => ?_
  refine hb.sim.step e1 p1.rel (hp.trans tr_D p1) fun dy ρ2 y F2 H2 e2 p2 r2 => ?_
  obtain ⟨d, h1, rfl⟩ := opt_ok e2
  exact od_ix p2.rel.sub (Rep.mono p2.mono r1) r2 h1 fun v rv => hp v F2 H2 (p1.trans p2) rv
/-- name[i] -/
def mIxN (i : Nat) (mb : ME D) : ME D := fun ρ => match ρ[i]? with
  | none => none
  | some .no => none
  | some _ => (mb.bnd fun y ρ => match ρ[i]? with
    | some (.val x) => opt (gIx x y) ρ
    | some (.lst xs) => opt (gIx (.lst xs) y) ρ
    | _ => none) ρ
theorem slot_some {K : PySem.W.Frag} {F H : Hp} {σ : St} {ρ : Slots} {i : Nat} {α : Type} {m : ME α} {r : Ex α} (hr : Rel K cm F σ H ρ) (e : (match ρ[i]? with | none => none | some .no => none | some _ => m ρ) = some r) : (∃ v, σ[i]? = some (some v)) ∧ m ρ = some r := by
  cases q : ρ[i]? with
  | none => rw [q] at e; cases e
  | some s =>
    rw [q] at e
    cases s with
    | no => cases e
    | _ =>
      obtain ⟨v, h, _⟩ := hr.slot i _ q (by simp)
      exact ⟨⟨v, h⟩, e⟩
/-- a list or a tuple, at a slot or as data -/
theorem list_slot {K : PySem.W.Frag} {F H : Hp} {σ : St} {ρ : Slots} {i : Nat} {xs : List D} {v : V} (hr : Rel K cm F σ H ρ) (h : ρ[i]? = some (.lst xs)) (hv : σ[i]? = some (some v)) : ∃ a vs, v = .ref a ∧ H a = some (.lst vs) ∧ F a = none ∧ RepL K cm F vs xs := by
  obtain ⟨v', h1, h2⟩ := hr.slot i _ h (by simp)
  rw [hv] at h1
  cases h1
  obtain ⟨a, o, rfl, h3, h4, h5⟩ := h2.of_own rfl
  cases h5 with
  | lst r => exact ⟨a, _, rfl, h3, h4, r⟩
theorem val_slot {K : PySem.W.Frag} {F H : Hp} {σ : St} {ρ : Slots} {i : Nat} {d : D} {v : V} (hr : Rel K cm F σ H ρ) (h : ρ[i]? = some (.val d)) (hv : σ[i]? = some (some v)) : Rep K cm F v d := by
  obtain ⟨v', h1, h2⟩ := hr.slot i _ h (by simp)
  rw [hv] at h1
  cases h1
  exact h2.of_val
theorem de_ixN {i : Nat} {x : Str} {px : Pos} (hN : X.N[i]? = some x) (hv : Vis X.env.scope x) (hb : DE X cm W b tb mb) (hs : PlainIx b := by exact fun _ _ => rfl) (hd : (x == ("__debug__" : Str)) = false := by decide) (hcd : (x == ("__classdict__" : Str)) = false := by decide) :
    DE X cm W (.Subscript (.Name x px) b pos) (tOp (rIx X.K) (tVar i) tb) (mIxN i mb) := by
  refine ⟨pe_ix ix_seq (pe_var hN hv hd hcd) hb.pe hs, fun ρ r e F σ H Q hr hp => ?_⟩
  obtain ⟨⟨v, hsv⟩, e⟩ := slot_some hr e
  refine ⟨v, hsv, hb.sim.step e hr hp fun dy ρ2 y F2 H2 e2 p2 r2 => ?_⟩
  split at e2
  · rename_i dx q
    obtain ⟨d, h1, rfl⟩ := opt_ok e2
    exact od_ix p2.rel.sub (val_slot p2.rel q hsv) r2 h1 fun v rv => hp v F2 H2 p2 rv
  · rename_i xs q
    obtain ⟨d, h1, rfl⟩ := opt_ok e2
    obtain ⟨a, vs, rfl, h3, h4, h5⟩ := list_slot p2.rel q hsv
    cases r2 with
    | int => obtain ⟨w, g1, g2⟩ := h5.at h1; exact .inl ⟨_, _, _, w, rfl, rfl, SqL.of h3, g1, hp w F2 H2 p2 g2⟩
    | _ => cases h1
  · cases e2

/-! ### len -/
def gLen : D → Option Nat
  | .lst xs => some xs.length
  | .scr xs => some xs.length
  | .tup xs => some xs.length
  | .ktp xs => some xs.length
  | .str z => if z.length ≤ sizeLine then some z.length else none
  | _ => none
theorem len_of {K : PySem.W.Frag} {F H : Hp} {v : V} {d : D} {n : Nat} (m : ∀ a o, F a = some o → H a = some o) (h : Rep K cm F v d) (e : gLen d = some n) : LenV K v H n := by
  cases h with
  | lst h1 r => cases e; exact .inl ⟨_, SqL.of (m _ _ h1), r.length.symm⟩
  | scr h1 r => cases e; exact .inl ⟨_, SqL.mono m h1, r.length.symm⟩
  | tup h1 r => cases e; exact .inr ⟨_, SqT.of (m _ _ h1), r.length.symm⟩
  | ktp h1 r => cases e; exact .inr ⟨_, SqT.mono m h1, r.length.symm⟩
  | str =>
    simp only [gLen] at e
    split at e
    · rename_i hl; cases e; exact ⟨hl, rfl⟩
    · cases e
  | _ => cases e
def mLen (m : ME D) : ME D := m.bnd fun d => opt ((gLen d).map fun n => .int n)
theorem de_len (hg : Gl X "len") (hm : X.mg "len" = none) (h : DE X cm W a ta ma) (hn : ("len" : Str) ≠ "__name__" := by decide) (hdb : (("len" : Str) == ("__debug__" : Str)) = false := by decide)
    (h1 : starEach (a :: []) X.env = (false, eval a X.env) :: starEach [] X.env := by rfl) (hpl : (backTo pos (starEach [] X.env)).any (·.1) = false := by rfl) :
    DE X cm W (.Call (.Name "len" p) [a] [] pos) (tCB (fun xs H Q => ∃ x n, xs = [x] ∧ LenV X.K x H n ∧ Q (.int n) H) (tCons ta tNil)) (mLen ma) := by
  refine ⟨pe_callB call_len hg hm boot_len (pa_cons h.pe pa_nil h1) hn hdb h1 hpl, fun ρ r e F σ H Q hr hp => ?_⟩
  refine h.sim.step e hr hp fun d ρ1 v F1 H1 e1 p1 r1 => ?_
  obtain ⟨d', h1, rfl⟩ := opt_ok e1
  cases q : gLen d with
  | none => rw [q] at h1; cases h1
  | some n => rw [q] at h1; cases h1; exact ⟨v, n, rfl, len_of p1.rel.sub r1 q, hp _ F1 H1 p1 .int⟩
/-- len(name) -/
def mLenN (i : Nat) : ME D := fun ρ => match ρ[i]? with
  | some (.val d) => opt ((gLen d).map fun n => .int n) ρ
  | some (.lst xs) => some (.ok (.int xs.length) ρ)
  | some (.dK kvs) => some (.ok (.int kvs.length) ρ)
  | _ => none
theorem RepK.length {K : PySem.W.Frag} {F : Hp} {vs : List (Key × V)} {ds : List (Key × D)} (h : RepK K cm F vs ds) : vs.length = ds.length := by
  induction vs generalizing ds with
  | nil => cases h; rfl
  | cons v vs ih => cases h with | cons a b => simp [ih b]
theorem de_lenN {i : Nat} {x : Str} {px : Pos} (hg : Gl X "len") (hm : X.mg "len" = none) (hN : X.N[i]? = some x) (hv : Vis X.env.scope x) (hd : (x == ("__debug__" : Str)) = false := by decide) (hcd : (x == ("__classdict__" : Str)) = false := by decide) (hn : ("len" : Str) ≠ "__name__" := by decide) (hdb : (("len" : Str) == ("__debug__" : Str)) = false := by decide)
    (h1 : starEach (.Name x px :: []) X.env = (false, eval (.Name x px) X.env) :: starEach [] X.env := by rfl) (hpl : (backTo pos (starEach [] X.env)).any (·.1) = false := by rfl) :
    DE X cm W (.Call (.Name "len" p) [.Name x px] [] pos) (tCB (fun xs H Q => (∃ x n, xs = [x] ∧ LenV X.K x H n ∧ Q (.int n) H) ∨ ∃ p kvs, xs = [.ref p] ∧ H p = some (.dK kvs) ∧ Q (.int kvs.length) H) (tCons (tVar i) tNil)) (mLenN i) := by
  refine ⟨pe_callB (call_len.or (by
    intro pins s σ H xs us Q I r h
    obtain ⟨p, kvs, rfl, hk, q⟩ := h
    exact call_lenD pins s σ H [.ref p] us Q I r ⟨p, kvs, rfl, hk, q⟩)) hg hm boot_len (pa_cons (pe_var hN hv hd hcd) pa_nil h1) hn hdb h1 hpl, fun ρ r e F σ H Q hr hp => ?_⟩
  unfold mLenN at e
  split at e
  · rename_i d q
    obtain ⟨d', h1, rfl⟩ := opt_ok e
    obtain ⟨v, h2, h3⟩ := hr.slot i _ q (by simp)
    cases q2 : gLen d with
    | none => rw [q2] at h1; cases h1
    | some n => rw [q2] at h1; cases h1; exact ⟨v, h2, .inl ⟨v, n, rfl, len_of hr.sub h3.of_val q2, hp _ F H (Post.refl hr) .int⟩⟩
  · rename_i xs q
    cases e
    obtain ⟨v, h2, h3⟩ := hr.slot i _ q (by simp)
    obtain ⟨a, vs, rfl, h3, h4, h5⟩ := list_slot hr q h2
    exact ⟨_, h2, .inl ⟨_, xs.length, rfl, .inl ⟨_, SqL.of h3, h5.length.symm⟩, hp _ F H (Post.refl hr) .int⟩⟩
  · rename_i kvs q
    cases e
    obtain ⟨v, h2, h3⟩ := hr.slot i _ q (by simp)
    obtain ⟨a, o, rfl, h3, h4, h5⟩ := h3.of_own rfl
    cases h5 with
    | dK r => exact ⟨_, h2, .inr ⟨a, _, rfl, h3, by rw [r.length]; exact hp _ F H (Post.refl hr) .int⟩⟩
  · cases e

/-! ### slices -/
def cutD (xs : List D) (lo hi : Option Int) : List D := (xs.drop (HT.sIx xs.length 0 lo)).take (HT.sIx xs.length xs.length hi - HT.sIx xs.length 0 lo)
theorem RepL.cut {K : PySem.W.Frag} {F : Hp} {vs : List V} {ds : List D} (h : RepL K cm F vs ds) (lo hi : Option Int) : RepL K cm F (cutV vs lo hi) (cutD ds lo hi) := by
  unfold cutV cutD
  rw [h.length]
  exact (h.drop _).take _
structure OEp (X : Cx) (cm : Wd) (W : WX) (e : Option Expr) (t : TO) (m : ME (Option Int)) : Prop where
  po : PO X e t
  sim : Sim X.K cm W ROp t m
def mNoPart : ME (Option Int) := ret none
def mPart (m : ME D) : ME (Option Int) := m.bnd fun d => match d with
  | .int i => ret (some i)
  | _ => fun _ => none
theorem op_none : OEp X cm W none tNoPart mNoPart := ⟨po_none, fun ρ r e F σ H Q hr hp => by cases ret_ok e; exact hp none F H (Post.refl hr) rfl⟩
theorem op_some (h : DE X cm W a ta ma) : OEp X cm W (some a) (tPart ta) (mPart ma) := by
  refine ⟨po_some h.pe, fun ρ r e F σ H Q hr hp => ?_⟩
  refine h.sim.step e hr hp fun d ρ1 v F1 H1 e1 p1 r1 => ?_
  cases r1 with
  | int => cases ret_ok e1; exact ⟨_, rfl, hp _ F1 H1 p1 rfl⟩
  | _ => cases e1
/-- xs[a:b], xs a list -/
def mSlL (m : ME D) (ml mh : ME (Option Int)) : ME S := m.bnd fun d => ml.bnd fun lo => mh.bnd fun hi => match d with
  | .lst xs => ret (.lst (cutD xs lo hi))
  | _ => fun _ => none
theorem oe_slL {lo hi : Option Expr} {tl th : TO} {ml mh : ME (Option Int)} {p2 : Pos} (h : DE X cm W a ta ma) (hl : OEp X cm W lo tl ml) (hh : OEp X cm W hi th mh) : OE X cm W (.Subscript a (.Slice lo hi none p2) pos) (tSl (rSlL X.K) ta tl th) (mSlL ma ml mh) := by
  refine ⟨pe_slice sl_list h.pe hl.po hh.po, fun ρ r e F σ H Q hr hp => ?_⟩
  refine h.sim.step e hr hp fun d ρ1 v F1 H1 e1 p1 r1 => ?_
  refine hl.sim.step e1 p1.rel (hp.trans tr_O p1) fun l ρ2 l' F2 H2 e2 p2 r2 => ?_
  cases (show l' = l from r2)
  refine hh.sim.step e2 p2.rel ((hp.trans tr_O p1).trans tr_O p2) fun u ρ3 u' F3 H3 e3 p3 r3 => ?_
  cases (show u' = u from r3)
  have p := p1.trans (p2.trans p3)
  cases r1 with
  | lst h1 r =>
    cases ret_ok e3
    have m3 : ∀ b o, F1 b = some o → F3 b = some o := fun b o h => p3.mono b o (p2.mono b o h)
    exact ⟨_, _, rfl, SqL.of (p3.rel.sub _ _ (m3 _ _ h1)), fun q hq => hp _ _ _ (p.trans (Post.warm p3.rel hq)) (tr_O _ _ _ _ _ _ _ _ _ _ _ _ p (rd_lst p3.rel hq ((r.mono m3).cut l u)))⟩
  | _ => cases e3
/-! ### calls of built-ins with data -/
/-- by values: one argument -/
def CallD1 (X : Cx) (cm : Wd) (r : List V → Hp → VK → Prop) (g : D → Option S) : Prop := ∀ {F σ H ρ x dx s Q}, Rel X.K cm F σ H ρ → Rep X.K cm F x dx → g dx = some s →
  (∀ v F' H', Post X.K cm pinAll F σ H ρ F' σ H' ρ → RO X.K cm F σ H ρ F' H' ρ v s → Q v H') → r [x] H Q
def mB1 (g : D → Option S) (m : ME D) : ME S := m.bnd fun d => opt (g d)
theorem oe_b1 {r : List V → Hp → VK → Prop} {g : D → Option S} {id : String} {x : Str} (hc : CallR X (.builtin id) r) (hD : CallD1 X cm r g) (hg : Gl X x) (hm : X.mg x = none) (hv : bootBuiltins x = some (.builtin id)) (h : DE X cm W a ta ma) (hn : x ≠ "__name__" := by decide) (hdb : (x == ("__debug__" : Str)) = false := by decide)
    (h1 : starEach (a :: []) X.env = (false, eval a X.env) :: starEach [] X.env := by rfl) (hpl : (backTo pos (starEach [] X.env)).any (·.1) = false := by rfl) :
    OE X cm W (.Call (.Name x p) [a] [] pos) (tCB r (tCons ta tNil)) (mB1 g ma) := by
  refine ⟨pe_callB hc hg hm hv (pa_cons h.pe pa_nil h1) hn hdb h1 hpl, fun ρ r e F σ H Q hr hp => ?_⟩
  refine h.sim.step e hr hp fun d ρ1 v F1 H1 e1 p1 r1 => ?_
  obtain ⟨s, h1, rfl⟩ := opt_ok e1
  exact hD p1.rel r1 h1 fun w F2 H2 p2 z => hp w F2 H2 (p1.trans p2) (tr_O _ _ _ _ _ _ _ _ _ _ _ _ p1 z)
theorem oe_t1 {r : List V → Hp → VK → Prop} {g : D → Option S} {T : String} {x : Str} (hc : CallR X (.type T) r) (hD : CallD1 X cm r g) (hg : Gl X x) (hm : X.mg x = none) (hv : bootBuiltins x = some (.type T)) (h : DE X cm W a ta ma) (hn : x ≠ "__name__" := by decide) (hdb : (x == ("__debug__" : Str)) = false := by decide)
    (h1 : starEach (a :: []) X.env = (false, eval a X.env) :: starEach [] X.env := by rfl) (hpl : (backTo pos (starEach [] X.env)).any (·.1) = false := by rfl) :
    OE X cm W (.Call (.Name x p) [a] [] pos) (tCB r (tCons ta tNil)) (mB1 g ma) := by
  refine ⟨pe_callTy hc hg hm hv (pa_cons h.pe pa_nil h1) hn hdb h1 hpl, fun ρ r e F σ H Q hr hp => ?_⟩
  refine h.sim.step e hr hp fun d ρ1 v F1 H1 e1 p1 r1 => ?_
  obtain ⟨s, h1, rfl⟩ := opt_ok e1
  exact hD p1.rel r1 h1 fun w F2 H2 p2 z => hp w F2 H2 (p1.trans p2) (tr_O _ _ _ _ _ _ _ _ _ _ _ _ p1 z)
/-- list(xs), list(t) -/
def gList : D → Option S
  | .lst xs => some (.lst xs)
  | .scr xs => some (.lst xs)
  | .tup xs => some (.lst xs)
  | .ktp xs => some (.lst xs)
  | _ => none
theorem cd_list : CallD1 X cm (fun xs H Q => ∃ p ys, xs = [.ref p] ∧ (SqL X.K H p ys ∨ SqT X.K H p ys) ∧ ∀ l, H l = none → Q (.ref l) (upd H l (.lst ys))) gList := by
  intro F σ H ρ x dx s Q hr hx hg hQ
  cases hx with
  | lst h r => cases hg; exact ⟨_, _, rfl, .inl (SqL.of (hr.sub _ _ h)), fun l hl => hQ _ _ _ (Post.warm hr hl) (rd_lst hr hl r)⟩
  | scr h r => cases hg; exact ⟨_, _, rfl, .inl (SqL.mono hr.sub h), fun l hl => hQ _ _ _ (Post.warm hr hl) (rd_lst hr hl r)⟩
  | tup h r => cases hg; exact ⟨_, _, rfl, .inr (SqT.of (hr.sub _ _ h)), fun l hl => hQ _ _ _ (Post.warm hr hl) (rd_lst hr hl r)⟩
  | ktp h r => cases hg; exact ⟨_, _, rfl, .inr (SqT.mono hr.sub h), fun l hl => hQ _ _ _ (Post.warm hr hl) (rd_lst hr hl r)⟩
  | _ => cases hg
/-- tuple(xs), tuple(t) -/
def gTuple : D → Option S
  | .lst xs => some (.val (.tup xs))
  | .scr xs => some (.val (.tup xs))
  | .tup xs => some (.val (.tup xs))
  | .ktp xs => some (.val (.ktp xs))
  | _ => none
theorem cd_tuple : CallD1 X cm (fun xs H Q => ∃ p ys, xs = [.ref p] ∧ ((SqL X.K H p ys ∧ ∀ l, H l = none → Q (.ref l) (upd H l (.tup ys))) ∨ (SqT X.K H p ys ∧ Q (.ref p) H))) gTuple := by
  intro F σ H ρ x dx s Q hr hx hg hQ
  cases hx with
  | lst h r => cases hg; exact ⟨_, _, rfl, .inl ⟨SqL.of (hr.sub _ _ h), fun l hl => hQ _ _ _ (Post.cold hr hl) ⟨.val (rd_tup (σ := σ) (ρ := ρ) hr hl r), fun _ _ z => by cases z⟩⟩⟩
  | scr h r => cases hg; exact ⟨_, _, rfl, .inl ⟨SqL.mono hr.sub h, fun l hl => hQ _ _ _ (Post.cold hr hl) ⟨.val (rd_tup (σ := σ) (ρ := ρ) hr hl r), fun _ _ z => by cases z⟩⟩⟩
  | tup h r => cases hg; exact ⟨_, _, rfl, .inr ⟨SqT.of (hr.sub _ _ h), hQ _ F H (Post.refl hr) (rd_val (.tup h r))⟩⟩
  | ktp h r => cases hg; exact ⟨_, _, rfl, .inr ⟨SqT.mono hr.sub h, hQ _ F H (Post.refl hr) (rd_val (.ktp h r))⟩⟩
  | _ => cases hg
/-- int(n), int(True) -/
def gInt1 : D → Option S
  | .int i => some (.val (.int i))
  | .bl k => some (.val (.int (if k then 1 else 0)))
  | _ => none
theorem cd_int : CallD1 X cm (fun xs H Q => (∃ i, xs = [.int i] ∧ Q (.int i) H) ∨ ∃ k, xs = [.bl k] ∧ Q (.int (if k then 1 else 0)) H) gInt1 := by
  intro F σ H ρ x dx s Q hr hx hg hQ
  cases hx with
  | int => cases hg; exact .inl ⟨_, rfl, hQ _ F H (Post.refl hr) (rd_val .int)⟩
  | bl => cases hg; exact .inr ⟨_, rfl, hQ _ F H (Post.refl hr) (rd_val .int)⟩
  | _ => cases hg
/-- str(n) -/
def gStr1 : D → Option S
  | .int i => if i.natAbs.log2 < 1920 then some (.val (.str (toString i))) else none
  | _ => none
theorem cd_str : CallD1 X cm (fun xs H Q => ∃ i, xs = [.int i] ∧ i.natAbs.log2 < 1920 ∧ Q (.str (toString i)) H) gStr1 := by
  intro F σ H ρ x dx s Q hr hx hg hQ
  cases hx with
  | int =>
    simp only [gStr1] at hg
    split at hg
    · rename_i hl; cases hg; exact ⟨_, rfl, hl, hQ _ F H (Post.refl hr) (rd_val .str)⟩
    · cases hg
  | _ => cases hg
def gAbs : D → Option S
  | .int i => some (.val (.int (if i < 0 then -i else i)))
  | _ => none
theorem cd_abs : CallD1 X cm (fun xs H Q => ∃ i, xs = [.int i] ∧ Q (.int (if i < 0 then -i else i)) H) gAbs := by
  intro F σ H ρ x dx s Q hr hx hg hQ
  cases hx with
  | int => cases hg; exact ⟨_, rfl, hQ _ F H (Post.refl hr) (rd_val .int)⟩
  | _ => cases hg
/-! ### ints in a list -/
def intsD : List D → Option (List Int)
  | [] => some []
  | .int i :: ds => (intsD ds).map (i :: ·)
  | _ :: _ => none
theorem RepL.ints {K : PySem.W.Frag} {F : Hp} {vs : List V} {ds : List D} {ns : List Int} (h : RepL K cm F vs ds) (e : intsD ds = some ns) : vs = ns.map V.int := by
  induction vs generalizing ds ns with
  | nil => cases h; cases e; rfl
  | cons v vs ih =>
    cases h with
    | cons a b =>
      cases a with
      | int =>
        simp only [intsD] at e
        cases q : intsD _ with
        | none => rw [q] at e; cases e
        | some ms => rw [q] at e; cases e; simp [ih b q]
      | _ => cases e
theorem RepL.of_ints {K : PySem.W.Frag} {F : Hp} : ∀ ns : List Int, RepL K cm F (ns.map V.int) (ns.map D.int)
  | [] => .nil
  | n :: ns => .cons .int (RepL.of_ints ns)
theorem intsD_map : ∀ ns : List Int, intsD (ns.map D.int) = some ns
  | [] => rfl
  | n :: ns => by simp [intsD, intsD_map ns]
def sortI (ns : List Int) : List Int := ns.mergeSort (fun a b => decide (a ≤ b))
theorem sortI_perm (ns : List Int) : (sortI ns).Perm ns := List.mergeSort_perm ns _
theorem sortI_sorted (ns : List Int) : (sortI ns).Pairwise (· ≤ ·) := by
  have := List.pairwise_mergeSort (le := fun a b : Int => decide (a ≤ b)) (fun a b c h1 h2 => by simp at *; omega) (fun a b => by simp; omega) ns
  exact this.imp fun h => by simpa using h
theorem sorted_unique : ∀ {xs ys : List Int}, xs.Perm ys → xs.Pairwise (· ≤ ·) → ys.Pairwise (· ≤ ·) → xs = ys
  | [], ys, p, _, _ => by simpa using p.symm.eq_nil.symm
  | x :: xs, [], p, _, _ => absurd p.eq_nil (by simp)
  | x :: xs, y :: ys, p, h1, h2 => by
    have hx : x ∈ y :: ys := p.subset List.mem_cons_self
    have hy : y ∈ x :: xs := p.symm.subset List.mem_cons_self
    obtain ⟨a1, a2⟩ := List.pairwise_cons.mp h1
    obtain ⟨b1, b2⟩ := List.pairwise_cons.mp h2
    have e : x = y := by
      rcases List.mem_cons.mp hx with e | hx
      · exact e
      · rcases List.mem_cons.mp hy with e | hy
        · exact e.symm
        · have := a1 y hy
          have := b1 x hx
          omega
    subst e
    rw [sorted_unique (List.Perm.cons_inv p) a2 b2]
theorem sortI_eq {ns ms : List Int} (p : ms.Perm ns) (s : ms.Pairwise (· ≤ ·)) : ms = sortI ns := sorted_unique (p.trans (sortI_perm ns).symm) s (sortI_sorted ns)
def gSorted : D → Option S
  | .lst xs => (intsD xs).map fun ns => .lst ((sortI ns).map D.int)
  | _ => none
theorem cd_sorted : CallD1 X cm (rSortedI X.K) gSorted := by
  intro F σ H ρ x dx s Q hr hx hg hQ
  cases hx with
  | @lst a vs xs h r =>
    simp only [gSorted] at hg
    cases q : intsD xs with
    | none => rw [q] at hg; cases hg
    | some ns =>
      rw [q] at hg
      cases hg
      have e := r.ints q
      subst e
      exact ⟨_, ns, rfl, SqL.of (hr.sub _ _ h), fun ns' l hp hs hl => by
        rw [sortI_eq hp hs]
        exact hQ _ _ _ (Post.warm hr hl) (rd_lst hr hl (RepL.of_ints _))⟩
  | _ => cases hg
def gSum : D → Option S
  | .lst xs => (intsD xs).map fun ns => .val (.int ns.sum)
  | _ => none
theorem cd_sum : CallD1 X cm (rSum X.K) gSum := by
  intro F σ H ρ x dx s Q hr hx hg hQ
  cases hx with
  | @lst a vs xs h r =>
    simp only [gSum] at hg
    cases q : intsD xs with
    | none => rw [q] at hg; cases hg
    | some ns =>
      rw [q] at hg
      cases hg
      have e := r.ints q
      subst e
      exact ⟨_, ns, rfl, SqL.of (hr.sub _ _ h), hQ _ F H (Post.refl hr) (rd_val .int)⟩
  | _ => cases hg
/-- two arguments -/
def CallD2 (X : Cx) (cm : Wd) (r : List V → Hp → VK → Prop) (g : D → D → Option S) : Prop := ∀ {F σ H ρ x y dx dy s Q}, Rel X.K cm F σ H ρ → Rep X.K cm F x dx → Rep X.K cm F y dy → g dx dy = some s →
  (∀ v F' H', Post X.K cm pinAll F σ H ρ F' σ H' ρ → RO X.K cm F σ H ρ F' H' ρ v s → Q v H') → r [x, y] H Q
theorem oe_b2 {r : List V → Hp → VK → Prop} {g : D → D → Option S} {id : String} {x : Str} (hc : CallR X (.builtin id) r) (hD : CallD2 X cm r g) (hg : Gl X x) (hm : X.mg x = none) (hv : bootBuiltins x = some (.builtin id)) (h : DE X cm W a ta ma) (h' : DE X cm W b tb mb) (hn : x ≠ "__name__" := by decide) (hdb : (x == ("__debug__" : Str)) = false := by decide)
    (h1 : starEach (b :: []) X.env = (false, eval b X.env) :: starEach [] X.env := by rfl) (h2 : starEach (a :: [b]) X.env = (false, eval a X.env) :: starEach [b] X.env := by rfl) (hpl : (backTo pos (starEach [b] X.env)).any (·.1) = false := by rfl) :
    OE X cm W (.Call (.Name x p) [a, b] [] pos) (tCB r (tCons ta (tCons tb tNil))) (mOp g ma mb) := by
  refine ⟨pe_callB hc hg hm hv (pa_cons h.pe (pa_cons h'.pe pa_nil h1) h2) hn hdb h2 hpl, fun ρ r e F σ H Q hr hp => ?_⟩
  refine h.sim.step e hr hp fun dx ρ1 x F1 H1 e1 p1 r1 => ?_
  refine h'.sim.step e1 p1.rel (hp.trans tr_O p1) fun dy ρ2 y F2 H2 e2 p2 r2 => ?_
  obtain ⟨s, h1, rfl⟩ := opt_ok e2
  exact hD p2.rel (Rep.mono p2.mono r1) r2 h1 fun w F3 H3 p3 z => hp w F3 H3 (p1.trans (p2.trans p3)) (tr_O _ _ _ _ _ _ _ _ _ _ _ _ (p1.trans p2) z)
def gMin2 : D → D → Option S
  | .int i, .int j => some (.val (.int (if j < i then j else i)))
  | _, _ => none
def gMax2 : D → D → Option S
  | .int i, .int j => some (.val (.int (if j > i then j else i)))
  | _, _ => none
theorem cd_min2 : CallD2 X cm (fun xs H Q => ∃ i j, xs = [.int i, .int j] ∧ Q (.int (if j < i then j else i)) H) gMin2 := by
  intro F σ H ρ x y dx dy s Q hr hx hy hg hQ
  cases hx with
  | int => cases hy with
    | int => cases hg; exact ⟨_, _, rfl, hQ _ F H (Post.refl hr) (rd_val .int)⟩
    | _ => cases hg
  | _ => cases hg
theorem cd_max2 : CallD2 X cm (fun xs H Q => ∃ i j, xs = [.int i, .int j] ∧ Q (.int (if j > i then j else i)) H) gMax2 := by
  intro F σ H ρ x y dx dy s Q hr hx hy hg hQ
  cases hx with
  | int => cases hy with
    | int => cases hg; exact ⟨_, _, rfl, hQ _ F H (Post.refl hr) (rd_val .int)⟩
    | _ => cases hg
  | _ => cases hg
end
end L2.Fn
set_option maxRecDepth 100000
set_option maxHeartbeats 4000000
/-! FnG: methods of lists, stores, dicts, in. -/
namespace L2.Fn
open PySem PySem.Spec PyProof.Rows L2

section
variable {X : Cx} {cm : Wd} {W : WX} {P : Nat → Bool} {e a b c o : Expr} {es : List Expr} {t ta tb tc : TE} {ts : TA} {m ma mb mc : ME D} {mo : ME S} {pos p : Pos}
/-- a slot's own list, where it is known to be one -/
def listAt {α : Type} (i : Nat) (m : ME α) : ME α := fun ρ => match ρ[i]? with
  | some (.lst _) => m ρ
  | _ => none
theorem listAt_ok {K : PySem.W.Frag} {α : Type} {i : Nat} {m : ME α} {ρ : Slots} {r : Ex α} {F H : Hp} {σ : St} (hr : Rel K cm F σ H ρ) (e : listAt i m ρ = some r) : ∃ a vs, σ[i]? = some (some (.ref a)) ∧ H a = some (.lst vs) ∧ m ρ = some r := by
  unfold listAt at e
  split at e
  · rename_i xs q
    obtain ⟨v, h2, h3⟩ := hr.slot i _ q (by simp)
    obtain ⟨a, vs, rfl, h3, h4, h5⟩ := list_slot hr q h2
    exact ⟨a, vs, h2, h3, e⟩
  · cases e
/-- what a method makes of the list at a slot -/
def onList (i : Nat) (k : List D → Option (D × List D)) : ME S := fun ρ => match ρ[i]? with
  | some (.lst xs) => (k xs).map fun q => .ok (.val q.1) (ρ.set i (.lst q.2))
  | _ => none
theorem onList_ok {i : Nat} {k : List D → Option (D × List D)} {ρ : Slots} {r : Ex S} (e : onList i k ρ = some r) : ∃ xs q, ρ[i]? = some (.lst xs) ∧ k xs = some q ∧ r = .ok (.val q.1) (ρ.set i (.lst q.2)) := by
  unfold onList at e
  split at e
  · rename_i xs q
    cases q2 : k xs with
    | none => rw [q2] at e; cases e
    | some z => rw [q2] at e; cases e; exact ⟨xs, z, q, q2, rfl⟩
  · cases e
theorem wrote {K : PySem.W.Frag} {F H : Hp} {σ : St} {ρ : Slots} {i : Nat} {a : Addr} {xs ys : List D} {ws : List V} (hr : Rel K cm F σ H ρ) (h : ρ[i]? = some (.lst xs)) (hv : σ[i]? = some (some (.ref a))) (r : RepL K cm F ws ys) :
    Post K cm pinAll F σ H ρ F σ (upd H a (.lst ws)) (ρ.set i (.lst ys)) := Post.write hr h rfl hv (.lst r)
/-- name.append(e) -/
def mAppN (i : Nat) (m : ME D) : ME S := listAt i (m.bnd fun d => onList i fun xs => if xs.length < sizeLine then some (.non, xs ++ [d]) else none)
theorem oe_appN {i : Nat} {x : Str} {px apos : Pos} (hN : X.N[i]? = some x) (hv : Vis X.env.scope x) (ha : DE X cm W a ta ma) (hd : (x == ("__debug__" : Str)) = false := by decide) (hcd : (x == ("__classdict__" : Str)) = false := by decide)
    (hbase : attributeBase (.Name x px) "append" X.env (eval (.Name x px) X.env) = eval (.Name x px) X.env := by rfl)
    (hfew : ((backTo pos (starEach [a] X.env)).all (fun x => !x.1) && (backToKw pos (keywordEach [] X.env)).all (fun x => x.1.isSome)
      && decide ([a].length + ([] : List Keyword).length + (if ([] : List Keyword).isEmpty then 0 else 1) < 30)) = true := by rfl)
    (hline : (apos.endLine == pos.line) = true := by rfl) (hs : starEach (a :: []) X.env = (false, eval a X.env) :: starEach [] X.env := by rfl) (hplain : (backTo pos (starEach [] X.env)).any (·.1) = false := by rfl) :
    OE X cm W (.Call (.Attribute (.Name x px) "append" apos) [a] [] pos) (tBM X.K "list" rAppend (tVar i) (tCons ta tNil)) (mAppN i ma) := by
  refine ⟨pe_bm PySem.F.plainAttrs_list PySem.F.slot_list_append PySem.F.type_list_append mt_append (pe_var hN hv hd hcd) (pa_cons ha.pe pa_nil hs) hbase hfew hline hs hplain, fun ρ r e F σ H Q hr hp => ?_⟩
  obtain ⟨q, vs, h1, h2, e⟩ := listAt_ok hr e
  refine ⟨_, h1, Or.inl ⟨rfl, vs, SqL.of h2⟩, ha.sim.step e hr hp fun d ρ1 v F1 H1 e1 p1 r1 => ?_⟩
  obtain ⟨xs, z, g1, g2, rfl⟩ := onList_ok e1
  split at g2
  · rename_i hl
    cases g2
    obtain ⟨a', ws, ea, g3, g4, g5⟩ := list_slot p1.rel g1 h1
    cases ea
    have p2 := wrote p1.rel g1 h1 (g5.append (.one r1))
    exact ⟨_, _, _, rfl, rfl, g3, by rw [g5.length]; exact hl, hp _ _ _ (p1.trans p2) ⟨.val .non, fun _ _ z => by cases z⟩⟩
  · cases g2
/-- name.pop() -/
def mPopN (i : Nat) : ME S := onList i fun xs => (xs[xs.length - 1]?).map fun d => (d, xs.dropLast)
theorem oe_popN {i : Nat} {x : Str} {px apos : Pos} (hN : X.N[i]? = some x) (hv : Vis X.env.scope x) (hd : (x == ("__debug__" : Str)) = false := by decide) (hcd : (x == ("__classdict__" : Str)) = false := by decide)
    (hbase : attributeBase (.Name x px) "pop" X.env (eval (.Name x px) X.env) = eval (.Name x px) X.env := by rfl) (hline : (apos.endLine == pos.line) = true := by rfl) :
    OE X cm W (.Call (.Attribute (.Name x px) "pop" apos) [] [] pos) (tBM0 X.K "list" rPop (tVar i)) (mPopN i) := by
  refine ⟨pe_bm0 PySem.F.plainAttrs_list PySem.F.slot_list_pop PySem.F.type_list_pop mt_pop (pe_var hN hv hd hcd) hbase hline, fun ρ r e F σ H Q hr hp => ?_⟩
  obtain ⟨xs, z, g1, g2, rfl⟩ := onList_ok e
  obtain ⟨v, h2, h3⟩ := hr.slot i _ g1 (by simp)
  obtain ⟨a, ws, rfl, g3, g4, g5⟩ := list_slot hr g1 h2
  cases q : xs[xs.length - 1]? with
  | none => rw [q] at g2; cases g2
  | some d =>
    rw [q] at g2
    cases g2
    obtain ⟨y, k1, k2⟩ := g5.get q
    have p2 := wrote hr g1 h2 g5.dropLast
    exact ⟨_, h2, Or.inl ⟨rfl, ws, SqL.of g3⟩, _, _, y, rfl, rfl, g3, by rw [g5.length]; exact k1, hp _ _ _ p2 ⟨.val k2, fun _ _ z => by cases z⟩⟩
/-- name.reverse() -/
def mRevN (i : Nat) : ME S := onList i fun xs => some (.non, xs.reverse)
theorem oe_revN {i : Nat} {x : Str} {px apos : Pos} (hN : X.N[i]? = some x) (hv : Vis X.env.scope x) (hd : (x == ("__debug__" : Str)) = false := by decide) (hcd : (x == ("__classdict__" : Str)) = false := by decide)
    (hbase : attributeBase (.Name x px) "reverse" X.env (eval (.Name x px) X.env) = eval (.Name x px) X.env := by rfl) (hline : (apos.endLine == pos.line) = true := by rfl) :
    OE X cm W (.Call (.Attribute (.Name x px) "reverse" apos) [] [] pos) (tBM0 X.K "list" rReverse (tVar i)) (mRevN i) := by
  refine ⟨pe_bm0 PySem.F.plainAttrs_list PySem.F.slot_list_reverse PySem.F.type_list_reverse mt_reverse (pe_var hN hv hd hcd) hbase hline, fun ρ r e F σ H Q hr hp => ?_⟩
  obtain ⟨xs, z, g1, g2, rfl⟩ := onList_ok e
  cases g2
  obtain ⟨v, h2, h3⟩ := hr.slot i _ g1 (by simp)
  obtain ⟨a, ws, rfl, g3, g4, g5⟩ := list_slot hr g1 h2
  have p2 := wrote hr g1 h2 g5.reverse
  exact ⟨_, h2, Or.inl ⟨rfl, ws, SqL.of g3⟩, _, _, rfl, rfl, g3, hp _ _ _ p2 ⟨.val .non, fun _ _ z => by cases z⟩⟩
/-- name.extend(list) -/
def mExtN (i : Nat) (m : ME D) : ME S := listAt i (m.bnd fun d => match d with
  | .lst ys => onList i fun xs => if xs.length + ys.length ≤ sizeLine then some (.non, xs ++ ys) else none
  | _ => fun _ => none)
theorem oe_extN {i : Nat} {x : Str} {px apos : Pos} (hN : X.N[i]? = some x) (hv : Vis X.env.scope x) (ha : DE X cm W a ta ma) (hd : (x == ("__debug__" : Str)) = false := by decide) (hcd : (x == ("__classdict__" : Str)) = false := by decide)
    (hbase : attributeBase (.Name x px) "extend" X.env (eval (.Name x px) X.env) = eval (.Name x px) X.env := by rfl)
    (hfew : ((backTo pos (starEach [a] X.env)).all (fun x => !x.1) && (backToKw pos (keywordEach [] X.env)).all (fun x => x.1.isSome)
      && decide ([a].length + ([] : List Keyword).length + (if ([] : List Keyword).isEmpty then 0 else 1) < 30)) = true := by rfl)
    (hline : (apos.endLine == pos.line) = true := by rfl) (hs : starEach (a :: []) X.env = (false, eval a X.env) :: starEach [] X.env := by rfl) (hplain : (backTo pos (starEach [] X.env)).any (·.1) = false := by rfl) :
    OE X cm W (.Call (.Attribute (.Name x px) "extend" apos) [a] [] pos) (tBM X.K "list" rExtend (tVar i) (tCons ta tNil)) (mExtN i ma) := by
  refine ⟨pe_bm PySem.F.plainAttrs_list PySem.F.slot_list_extend PySem.F.type_list_extend mt_extend (pe_var hN hv hd hcd) (pa_cons ha.pe pa_nil hs) hbase hfew hline hs hplain, fun ρ r e F σ H Q hr hp => ?_⟩
  obtain ⟨q, vs, h1, h2, e⟩ := listAt_ok hr e
  refine ⟨_, h1, Or.inl ⟨rfl, vs, SqL.of h2⟩, ha.sim.step e hr hp fun d ρ1 v F1 H1 e1 p1 r1 => ?_⟩
  cases r1 with
  | lst k1 k2 =>
    obtain ⟨xs, z, g1, g2, rfl⟩ := onList_ok e1
    split at g2
    · rename_i hl
      cases g2
      obtain ⟨a', ws, ea, g3, g4, g5⟩ := list_slot p1.rel g1 h1
      cases ea
      have p2 := wrote p1.rel g1 h1 (g5.append k2)
      exact ⟨_, _, _, _, rfl, rfl, g3, p1.rel.sub _ _ k1, by rw [g5.length, k2.length]; exact hl, hp _ _ _ (p1.trans p2) ⟨.val .non, fun _ _ z => by cases z⟩⟩
    · cases g2
  | _ => cases e1
/-! ### name[i] = e, name[i] op= e -/
def gStN (i : Nat) (mi : ME D) : MG := fun s ρ => match s, ρ[i]? with
  | .val d, some (.lst _) => (match mi ρ with
    | some (.ok (.int k) ρ1) => (match ρ1[i]? with
      | some (.lst xs) => (ixN xs.length k).map fun j => ρ1.set i (.lst (xs.set j d))
      | _ => none)
    | _ => none)
  | _, _ => none
theorem ge_stN {i : Nat} {x : Str} {px : Pos} (hN : X.N[i]? = some x) (hv : Vis X.env.scope x) (ha : DE X cm WF a ta ma) (hd : (x == ("__debug__" : Str)) = false := by decide) (hcd : (x == ("__classdict__" : Str)) = false := by decide)
    (h : ∀ v, assign (.Subscript (.Name x px) a pos) X.env v = (do
      let ov ← holding [v] (eval (.Name x px) X.env)
      let iv ← holding [v, ov] (eval a X.env)
      standAt pos
      holding [v, ov, iv] (setItem ov iv v)
      release [v, ov, iv] []) := by intro _; rfl) : GE X cm P (.Subscript (.Name x px) a pos) (L2.gSub (tVar i) ta rSetL) (gStN i ma) := by
  refine ⟨pg_sub (pe_var hN hv hd hcd) ha.pe set_list h, fun s ρ ρ' e F σ H v Q hr r f hQ => ?_⟩
  unfold gStN at e
  split at e
  · rename_i d xs0 q0
    obtain ⟨v0, h2, h3⟩ := hr.slot i _ q0 (by simp)
    refine ⟨v0, h2, ?_⟩
    cases q1 : ma ρ with
    | none => rw [q1] at e; cases e
    | some z =>
      rw [q1] at e
      cases z with
      | ex C fs ρ1 => cases e
      | ok dk ρ1 =>
        cases dk with
        | int k =>
          simp only at e
          refine ha.sim ρ _ q1 F σ H _ hr fun iv F1 H1 p1 r1 => ?_
          cases r1
          split at e
          · rename_i xs g1
            cases q2 : ixN xs.length k with
            | none => rw [q2] at e; cases e
            | some j =>
              rw [q2] at e
              cases e
              obtain ⟨a', ws, rfl, g3, g4, g5⟩ := list_slot p1.rel g1 h2
              have p2 := wrote p1.rel g1 h2 (g5.set (Rep.mono p1.mono r.of_val) j)
              have pp := (p1.trans p2).any (P' := P)
              exact ⟨_, _, k, j, rfl, rfl, g3, by rw [g5.length]; exact q2, hQ _ σ _ pp.rel pp.mono pp.lim pp.keep (fun a h => (pp.new a h).elim .inl fun z => .inr (.inl z)) (fun _ _ => rfl) rfl⟩
          · cases e
        | _ => cases e
  · cases e
def rGetL (K : PySem.W.Frag) : V → V → Hp → VK → Prop := rIxL K
theorem pget_list : PGet X (rGetL X.K) := by
  intro pins s σ H x y v u Q I rx ry h
  obtain ⟨p, xs, i, z, rfl, rfl, hq, he, q⟩ := h
  cases rx
  obtain ⟨t, rfl⟩ := ry
  obtain ⟨its, r, pl, hz⟩ := I.list hq
  obtain ⟨j, h1, h2, h3, h4, h5⟩ := atI_get he
  obtain ⟨w, ew, rw'⟩ := r.get h2
  have hl := r.length
  have hn := line63
  have fin : EP X pins σ Q w s := ⟨z, H, I, rw', q⟩
  by_cases h0 : 0 ≤ i
  · have hj : i.toNat = j := by
      rw [seqIndex_of h0 h5] at h1
      exact Option.some.inj h1
    exact wpAny_getItem_list pl.isList h0 (by omega) (by rw [hj]; simpa using ew) fin
  · have hj : (i + (its.toArray.size : Int)).toNat = j := by
      rw [seqIndex_neg (by omega) h4] at h1
      rw [List.size_toArray, ← hl]
      exact Option.some.inj h1
    exact wpAny_getItem_list_neg pl.isList (by omega) (by rw [List.size_toArray] <;> omega) (by omega) (by rw [hj]; simpa using ew) fin
/-- name[i] op= e (the index is asked once, the item read ahead of e) -/
def sAugN (i : Nat) (g : D → D → Option D) (mi me : ME D) : MS := fun ρ => match ρ[i]? with
  | some (.lst _) => (mi.thn fun dk ρ1 => match dk, ρ1[i]? with
    | .int k, some (.lst xs) => (match atI xs k with
      | some old => (me.thn fun y ρ2 => match ρ2[i]?, g old y with
        | some (.lst ys), some z => (ixN ys.length k).map fun j => .nx (ρ2.set i (.lst (ys.set j z)))
        | _, _ => none) ρ1
      | none => none)
    | _, _ => none) ρ
  | _ => none
theorem se_augN {i : Nat} {x : Str} {px tpos : Pos} {op : Operator} {ti : TIp} {g : D → D → Option D} (hN : X.N[i]? = some x) (hv : Vis X.env.scope x) (ha : DE X cm W a ta ma) (hb : DE X cm W b tb mb) (ho : PIp X op ti) (hg : IpD X.K cm ti g) (hd : (x == ("__debug__" : Str)) = false := by decide) (hcd : (x == ("__classdict__" : Str)) = false := by decide)
    (h : ∀ ov iv new, augStore a ov iv new = (do holding [new, ov, iv] (setItem ov iv new); release [new, ov, iv] []; pure .next) := by intros; rfl) : SE X cm W P (.AugAssign (.Subscript (.Name x px) a tpos) op b pos) (tAugS (tVar i) ta tb (rGetL X.K) ti rSetL) (sAugN i g ma mb) := by
  refine ⟨ps_augS (pe_var hN hv hd hcd) ha.pe pget_list hb.pe ho set_list h, fun ρ r e F σ H D hr hp => ?_⟩
  unfold sAugN at e
  split at e
  · rename_i xs0 q0
    obtain ⟨v0, h2, h3⟩ := hr.slot i _ q0 (by simp)
    refine ⟨v0, h2, ha.sim.stepS e hr hp fun dk ρ1 iv F1 H1 e1 p1 r1 => ?_⟩
    split at e1
    · rename_i k xs g1
      cases r1
      cases q2 : atI xs k with
      | none => rw [q2] at e1; cases e1
      | some old =>
        rw [q2] at e1
        obtain ⟨a', ws, rfl, g3, g4, g5⟩ := list_slot p1.rel g1 h2
        obtain ⟨w, k1, k2⟩ := g5.at q2
        refine ⟨_, _, k, w, rfl, rfl, SqL.of g3, k1, hb.sim.stepS e1 p1.rel (hp.trans p1.any) fun y ρ2 yv F2 H2 e2 p2 r2 => ?_⟩
        split at e2
        · rename_i ys z g6 g7
          refine hg (Rep.mono p2.mono k2) r2 g7 fun nv rn => ?_
          cases q3 : ixN ys.length k with
          | none => rw [q3] at e2; cases e2
          | some j =>
            rw [q3] at e2
            cases e2
            obtain ⟨a2, ws2, ea, g8, g9, g10⟩ := list_slot p2.rel g6 h2
            cases ea
            have p3 := wrote p2.rel g6 h2 (g10.set rn j)
            exact ⟨_, _, k, j, rfl, rfl, g8, by rw [g10.length]; exact q3, hp _ σ _ (p1.trans (p2.trans p3)).any⟩
        · cases e2
    · cases e1
  · cases e
/-! ### in, not in: lists and tuples of flat items -/
def flatD : D → Option V
  | .non => some .non
  | .bl b => some (.bl b)
  | .int i => some (.int i)
  | .str x => some (.str x)
  | _ => none
def flatsD : List D → Option (List V)
  | [] => some []
  | d :: ds => match flatD d, flatsD ds with
    | some v, some vs => some (v :: vs)
    | _, _ => none
theorem Rep.flat {K : PySem.W.Frag} {cl : Str → Addr} {F : Hp} {v w : V} {d : D} (h : Rep K cl F v d) (e : flatD d = some w) : v = w ∧ flatV v = true := by
  cases h <;> first | (cases e; exact ⟨rfl, rfl⟩) | cases e
theorem RepL.flats {K : PySem.W.Frag} {cl : Str → Addr} {F : Hp} {vs ws : List V} {ds : List D} (h : RepL K cl F vs ds) (e : flatsD ds = some ws) : vs = ws ∧ vs.all flatV = true := by
  induction vs generalizing ds ws with
  | nil => cases h; cases e; exact ⟨rfl, rfl⟩
  | cons v vs ih =>
    cases h with
    | @cons _ d _ ds' a b =>
      simp only [flatsD] at e
      cases q1 : flatD d with
      | none => rw [q1] at e; cases e
      | some w =>
        cases q2 : flatsD ds' with
        | none => rw [q1, q2] at e; cases e
        | some ws' =>
          rw [q1, q2] at e
          cases e
          obtain ⟨e1, f1⟩ := a.flat q1
          obtain ⟨e2, f2⟩ := ih b q2
          subst e1 e2
          exact ⟨rfl, by simp [f1, f2]⟩
def itemsD : D → Option (List D)
  | .lst xs => some xs
  | .scr xs => some xs
  | .tup xs => some xs
  | .ktp xs => some xs
  | _ => none
def inD (neg : Bool) (x : D) (ys : List D) : Option S := match flatD x, flatsD ys with
  | some v, some vs => some (.val (.bl (if neg then !inV v vs else inV v vs)))
  | _, _ => none
def gIn (neg : Bool) : D → D → Option S := fun x y => (itemsD y).bind (inD neg x)
theorem od_in {K : PySem.W.Frag} (neg : Bool) : OpD K cm (rIn K neg) (gIn neg) := by
  intro F σ H ρ x y dx dy s Q hr hx hy hg hQ
  have fin : ∀ {p : Addr} {vs : List V} {ys : List D}, itemsD dy = some ys → (SqL K H p vs ∨ SqT K H p vs) → RepL K cm F vs ys → y = .ref p → rIn K neg x y H Q := by
    intro p vs ys e hs r ey
    unfold gIn at hg
    rw [e] at hg
    simp only [Option.bind_some, inD] at hg
    cases q1 : flatD dx with
    | none => rw [q1] at hg; cases hg
    | some v =>
      cases q2 : flatsD ys with
      | none => rw [q1, q2] at hg; cases hg
      | some ws =>
        rw [q1, q2] at hg
        cases hg
        obtain ⟨e1, f1⟩ := hx.flat q1
        obtain ⟨e2, f2⟩ := r.flats q2
        subst e1 e2
        exact ⟨p, vs, ey, hs, f1, f2, hQ _ F H (Post.refl hr) (rd_val .bl)⟩
  cases hy with
  | lst h r => exact fin rfl (.inl (SqL.of (hr.sub _ _ h))) r rfl
  | scr h r => exact fin rfl (.inl (SqL.mono hr.sub h)) r rfl
  | tup h r => exact fin rfl (.inr (SqT.of (hr.sub _ _ h))) r rfl
  | ktp h r => exact fin rfl (.inr (SqT.mono hr.sub h)) r rfl
  | _ => cases hg
/-- x in name, the name's own list looked at -/
def mInN (neg : Bool) (i : Nat) (m : ME D) : ME S := m.bnd fun d ρ => match ρ[i]? with
  | some (.val y) => opt (gIn neg d y) ρ
  | some (.lst ys) => opt (inD neg d ys) ρ
  | _ => none
theorem sim_inN {K : PySem.W.Frag} (neg : Bool) {i : Nat} (ha : Sim K cm W (RD K cm) ta ma) : Sim K cm W (RO K cm) (tOp (rIn K neg) ta (tVar i)) (mInN neg i ma) := by
  intro ρ r e F σ H Q hr hp
  refine ha.step e hr hp fun d ρ1 v F1 H1 e1 p1 r1 => ?_
  split at e1
  · rename_i y q
    obtain ⟨s, h1, rfl⟩ := opt_ok e1
    obtain ⟨w, h2, h3⟩ := p1.rel.slot i _ q (by simp)
    exact ⟨w, h2, od_in neg p1.rel r1 h3.of_val h1 fun v F2 H2 p2 z => hp v F2 H2 (p1.trans p2) (tr_O _ _ _ _ _ _ _ _ _ _ _ _ p1 z)⟩
  · rename_i ys q
    obtain ⟨s, h1, rfl⟩ := opt_ok e1
    obtain ⟨w, h2, h3⟩ := p1.rel.slot i _ q (by simp)
    obtain ⟨a, ws, rfl, g3, g4, g5⟩ := list_slot p1.rel q h2
    refine ⟨_, h2, ?_⟩
    unfold inD at h1
    cases q1 : flatD d with
    | none => rw [q1] at h1; cases h1
    | some v =>
      cases q2 : flatsD ys with
      | none => rw [q1, q2] at h1; cases h1
      | some us =>
        rw [q1, q2] at h1
        cases h1
        obtain ⟨e1, f1⟩ := r1.flat q1
        obtain ⟨e2, f2⟩ := g5.flats q2
        subst e1 e2
        exact ⟨a, ws, rfl, .inl (SqL.of g3), f1, f2, hp _ F1 H1 p1 ⟨.val .bl, fun _ _ z => by cases z⟩⟩
  · cases e1

/-! ### dicts -/
def keyD : D → Option Key
  | .int i => some (.inl i)
  | .str x => some (.inr x)
  | _ => none
def keysD : List D → Option (List Key)
  | [] => some []
  | d :: ds => match keyD d, keysD ds with
    | some k, some ks => some (k :: ks)
    | _, _ => none
theorem Rep.key {K : PySem.W.Frag} {cl : Str → Addr} {F : Hp} {v : V} {d : D} {k : Key} (h : Rep K cl F v d) (e : keyD d = some k) : v = kV k := by
  cases h <;> first | (cases e; rfl) | cases e
theorem RepL.keys {K : PySem.W.Frag} {cl : Str → Addr} {F : Hp} {vs : List V} {ds : List D} {ks : List Key} (h : RepL K cl F vs ds) (e : keysD ds = some ks) : vs = ks.map kV := by
  induction vs generalizing ds ks with
  | nil => cases h; cases e; rfl
  | cons v vs ih =>
    cases h with
    | @cons _ d _ ds' a b =>
      simp only [keysD] at e
      cases q1 : keyD d with
      | none => rw [q1] at e; cases e
      | some k =>
        cases q2 : keysD ds' with
        | none => rw [q1, q2] at e; cases e
        | some ks' =>
          rw [q1, q2] at e
          cases e
          simp [a.key q1, ih b q2]
def tkeyD : D → Option (List Key)
  | .tup ds => keysD ds
  | _ => none
theorem Rep.tkey {K : PySem.W.Frag} {cl : Str → Addr} {F : Hp} {v : V} {d : D} {k : List Key} (h : Rep K cl F v d) (e : tkeyD d = some k) : ∃ a, v = .ref a ∧ F a = some (.tup (k.map kV)) := by
  cases h with
  | tup h r => exact ⟨_, rfl, by rw [← r.keys e]; exact h⟩
  | _ => cases e
section
variable {κ : Type} [DecidableEq κ]
def valD (kvs : List (κ × D)) (k : κ) : Option D := (kvs.find? fun kv => decide (kv.1 = k)).map (·.2)
def putD (kvs : List (κ × D)) (k : κ) (v : D) : List (κ × D) :=
  if (kvs.any fun kv => decide (kv.1 = k)) = true then kvs.map (fun kv => if kv.1 = k then (kv.1, v) else kv) else kvs ++ [(k, v)]
end

section
variable {K : PySem.W.Frag} {cl : Str → Addr} {F F' : Hp} {vs : List (Key × V)} {ds : List (Key × D)}
theorem RepK.keys1 (h : RepK K cl F vs ds) : vs.map (·.1) = ds.map (·.1) := by
  induction vs generalizing ds with
  | nil => cases h; rfl
  | cons v vs ih => cases h with | cons a b => simp [ih b]
theorem RepK.len (h : RepK K cl F vs ds) : vs.length = ds.length := by
  have := congrArg List.length h.keys1
  simpa using this
theorem RepK.val (h : RepK K cl F vs ds) (k : Key) : (valV vs k = none ∧ valD ds k = none) ∨ ∃ v d, valV vs k = some v ∧ valD ds k = some d ∧ Rep K cl F v d := by
  induction vs generalizing ds with
  | nil => cases h; exact .inl ⟨rfl, rfl⟩
  | cons v vs ih =>
    cases h with
    | @cons k' v' d' vs' ds' a b =>
      by_cases e : k' = k
      · exact .inr ⟨v', d', by simp [valV, List.find?_cons, e], by simp [valD, List.find?_cons, e], a⟩
      · rcases ih b with ⟨h1, h2⟩ | ⟨w, d, h1, h2, h3⟩
        · exact .inl ⟨by simpa [valV, List.find?_cons, e] using h1, by simpa [valD, List.find?_cons, e] using h2⟩
        · exact .inr ⟨w, d, by simpa [valV, List.find?_cons, e] using h1, by simpa [valD, List.find?_cons, e] using h2, h3⟩
theorem RepK.app {ws : List (Key × V)} {es : List (Key × D)} (h : RepK K cl F vs ds) (g : RepK K cl F ws es) : RepK K cl F (vs ++ ws) (ds ++ es) := by
  induction vs generalizing ds with
  | nil => cases h; exact g
  | cons v vs ih => cases h with | cons a b => exact .cons a (ih b)
theorem RepK.put {v : V} {d : D} (h : RepK K cl F vs ds) (k : Key) (r : Rep K cl F v d) : RepK K cl F (putK vs k v) (putD ds k d) := by
  have ha : (vs.any fun kv => decide (kv.1 = k)) = (ds.any fun kv => decide (kv.1 = k)) := by
    have e1 : (vs.any fun kv => decide (kv.1 = k)) = (vs.map (·.1)).any fun x => decide (x = k) := by simp [List.any_map, Function.comp_def]
    have e2 : (ds.any fun kv => decide (kv.1 = k)) = (ds.map (·.1)).any fun x => decide (x = k) := by simp [List.any_map, Function.comp_def]
    rw [e1, e2, h.keys1]
  unfold putK putD
  rw [ha]
  split
  · clear ha
    rename_i hh
    clear hh
    induction vs generalizing ds with
    | nil => cases h; exact .nil
    | cons v vs ih =>
      cases h with
      | @cons k' v' d' vs' ds' a b =>
        simp only [List.map_cons]
        by_cases e : k' = k
        · simp only [e, if_true]; exact .cons r (ih b)
        · simp only [e, if_false]; exact .cons a (ih b)
  · exact h.app (.cons r .nil)
end

section
variable {K : PySem.W.Frag} {cl : Str → Addr} {F F' : Hp} {vs : List (List Key × V)} {ds : List (List Key × D)}
theorem RepT.keys1 (h : RepT K cl F vs ds) : vs.map (·.1) = ds.map (·.1) := by
  induction vs generalizing ds with
  | nil => cases h; rfl
  | cons v vs ih => cases h with | cons a b => simp [ih b]
theorem RepT.len (h : RepT K cl F vs ds) : vs.length = ds.length := by
  have := congrArg List.length h.keys1
  simpa using this
theorem RepT.val (h : RepT K cl F vs ds) (k : List Key) : (valV vs k = none ∧ valD ds k = none) ∨ ∃ v d, valV vs k = some v ∧ valD ds k = some d ∧ Rep K cl F v d := by
  induction vs generalizing ds with
  | nil => cases h; exact .inl ⟨rfl, rfl⟩
  | cons v vs ih =>
    cases h with
    | @cons k' v' d' vs' ds' a b =>
      by_cases e : k' = k
      · exact .inr ⟨v', d', by simp [valV, List.find?_cons, e], by simp [valD, List.find?_cons, e], a⟩
      · rcases ih b with ⟨h1, h2⟩ | ⟨w, d, h1, h2, h3⟩
        · exact .inl ⟨by simpa [valV, List.find?_cons, e] using h1, by simpa [valD, List.find?_cons, e] using h2⟩
        · exact .inr ⟨w, d, by simpa [valV, List.find?_cons, e] using h1, by simpa [valD, List.find?_cons, e] using h2, h3⟩
theorem RepT.app {ws : List (List Key × V)} {es : List (List Key × D)} (h : RepT K cl F vs ds) (g : RepT K cl F ws es) : RepT K cl F (vs ++ ws) (ds ++ es) := by
  induction vs generalizing ds with
  | nil => cases h; exact g
  | cons v vs ih => cases h with | cons a b => exact .cons a (ih b)
theorem RepT.put {v : V} {d : D} (h : RepT K cl F vs ds) (k : List Key) (r : Rep K cl F v d) : RepT K cl F (putK vs k v) (putD ds k d) := by
  have ha : (vs.any fun kv => decide (kv.1 = k)) = (ds.any fun kv => decide (kv.1 = k)) := by
    have e1 : (vs.any fun kv => decide (kv.1 = k)) = (vs.map (·.1)).any fun x => decide (x = k) := by simp [List.any_map, Function.comp_def]
    have e2 : (ds.any fun kv => decide (kv.1 = k)) = (ds.map (·.1)).any fun x => decide (x = k) := by simp [List.any_map, Function.comp_def]
    rw [e1, e2, h.keys1]
  unfold putK putD
  rw [ha]
  split
  · clear ha
    rename_i hh
    clear hh
    induction vs generalizing ds with
    | nil => cases h; exact .nil
    | cons v vs ih =>
      cases h with
      | @cons k' v' d' vs' ds' a b =>
        simp only [List.map_cons]
        by_cases e : k' = k
        · simp only [e, if_true]; exact .cons r (ih b)
        · simp only [e, if_false]; exact .cons a (ih b)
  · exact h.app (.cons r .nil)
end

/-- what a key finds in the dict at a slot: told (some none: it is not there) -/
def gGetS : S → D → Option (Option D)
  | .dK kvs, d => (keyD d).map (valD kvs)
  | .dT kvs, d => (tkeyD d).map (valD kvs)
  | .val (.dK kvs), d => (keyD d).map (valD kvs)
  | .val (.dT kvs), d => (tkeyD d).map (valD kvs)
  | _, _ => none
theorem dget_of {K : PySem.W.Frag} {F H : Hp} {v y : V} {s : S} {dy : D} {od : Option D} (m : ∀ a o, F a = some o → H a = some o) (h : RepS K cm F H v s) (hy : Rep K cm F y dy) (e : gGetS s dy = some od) :
    ∃ a o, v = .ref a ∧ DGet H a y o ∧ ((o = none ∧ od = none) ∨ ∃ w d, o = some w ∧ od = some d ∧ Rep K cm F w d) := by
  have hk : ∀ {a : Addr} {vs : List (Key × V)} {ds : List (Key × D)}, H a = some (.dK vs) → RepK K cm F vs ds → (keyD dy).map (valD ds) = some od → ∃ o, DGet H a y o ∧ ((o = none ∧ od = none) ∨ ∃ w d, o = some w ∧ od = some d ∧ Rep K cm F w d) := by
    intro a vs ds hh r e
    cases q : keyD dy with
    | none => rw [q] at e; cases e
    | some k =>
      rw [q] at e
      cases e
      refine ⟨valV vs k, .inl ⟨vs, k, .inl hh, hy.key q, rfl⟩, ?_⟩
      rcases r.val k with ⟨h1, h2⟩ | ⟨w, d, h1, h2, h3⟩
      · exact .inl ⟨h1, h2⟩
      · exact .inr ⟨w, d, h1, h2, h3⟩
  have ht : ∀ {a : Addr} {vs : List (List Key × V)} {ds : List (List Key × D)}, H a = some (.dT vs) → RepT K cm F vs ds → (tkeyD dy).map (valD ds) = some od → ∃ o, DGet H a y o ∧ ((o = none ∧ od = none) ∨ ∃ w d, o = some w ∧ od = some d ∧ Rep K cm F w d) := by
    intro a vs ds hh r e
    cases q : tkeyD dy with
    | none => rw [q] at e; cases e
    | some k =>
      rw [q] at e
      cases e
      obtain ⟨b, rfl, hb⟩ := hy.tkey q
      refine ⟨valV vs k, .inr ⟨vs, k, b, .inl hh, rfl, m _ _ hb, rfl⟩, ?_⟩
      rcases r.val k with ⟨h1, h2⟩ | ⟨w, d, h1, h2, h3⟩
      · exact .inl ⟨h1, h2⟩
      · exact .inr ⟨w, d, h1, h2, h3⟩
  cases h with
  | val r =>
    cases r with
    | dK h1 r => obtain ⟨o, h2, h3⟩ := hk (m _ _ h1) r e; exact ⟨_, o, rfl, h2, h3⟩
    | dT h1 r => obtain ⟨o, h2, h3⟩ := ht (m _ _ h1) r e; exact ⟨_, o, rfl, h2, h3⟩
    | _ => cases e
  | own h1 h2 r =>
    cases r with
    | dK r => obtain ⟨o, h2, h3⟩ := hk h1 r e; exact ⟨_, o, rfl, h2, h3⟩
    | dT r => obtain ⟨o, h2, h3⟩ := ht h1 r e; exact ⟨_, o, rfl, h2, h3⟩
    | _ => cases e
  | err _ _ => cases e
theorem slot_at {K : PySem.W.Frag} {F H : Hp} {σ : St} {ρ : Slots} {i : Nat} {s : S} {v : V} (hr : Rel K cm F σ H ρ) (h : ρ[i]? = some s) (hn : s ≠ .no) (hv : σ[i]? = some (some v)) : RepS K cm F H v s := by
  obtain ⟨v', h1, h2⟩ := hr.slot i _ h hn
  rw [hv] at h1
  cases h1
  exact h2
/-- name[key] -/
def mGetN (i : Nat) (mk : ME D) : ME D := fun ρ => match ρ[i]? with
  | none => none
  | some .no => none
  | some _ => (mk.bnd fun y ρ => match ρ[i]? with
    | none => none
    | some .no => none
    | some s => match gGetS s y with
      | some (some d) => ret d ρ
      | _ => none) ρ
theorem de_getN {i : Nat} {x : Str} {px : Pos} (hu : X.A.units + 1 < cLine) (hN : X.N[i]? = some x) (hv : Vis X.env.scope x) (hb : DE X cm W b tb mb) (hs : NoSl b := by exact fun _ _ => rfl) (hd : (x == ("__debug__" : Str)) = false := by decide) (hcd : (x == ("__classdict__" : Str)) = false := by decide) :
    DE X cm W (.Subscript (.Name x px) b pos) (tDGet (tVar i) tb) (mGetN i mb) := by
  refine ⟨pe_dget hu (pe_var hN hv hd hcd) hb.pe hs, fun ρ r e F σ H Q hr hp => ?_⟩
  obtain ⟨⟨v, hsv⟩, e⟩ := slot_some hr e
  refine ⟨v, hsv, hb.sim.step e hr hp fun dy ρ2 y F2 H2 e2 p2 r2 => ?_⟩
  split at e2
  · cases e2
  · cases e2
  · rename_i s hn q
    split at e2
    · rename_i d g
      cases ret_ok e2
      obtain ⟨a, o, rfl, h1, h2⟩ := dget_of p2.rel.sub (slot_at p2.rel q (fun z => hn z) hsv) r2 g
      rcases h2 with ⟨_, z⟩ | ⟨w, d', rfl, ed, rw'⟩
      · cases z
      · cases ed; exact ⟨a, w, rfl, h1, hp w F2 H2 p2 rw'⟩
    · cases e2
/-- key in name -/
def mKeyN (neg : Bool) (i : Nat) (mk : ME D) : ME S := mk.bnd fun y ρ => match ρ[i]? with
  | none => none
  | some .no => none
  | some s => match gGetS s y with
    | some o => ret (.val (.bl (if neg then !o.isSome else o.isSome))) ρ
    | none => none
theorem sim_keyN {K : PySem.W.Frag} {i : Nat} (ha : Sim K cm W (RD K cm) ta ma) : Sim K cm W (RO K cm) (tDIn ta (tVar i)) (mKeyN false i ma) := by
  intro ρ r e F σ H Q hr hp
  refine ha.step e hr hp fun dy ρ2 y F2 H2 e2 p2 r2 => ?_
  split at e2
  · cases e2
  · cases e2
  · rename_i s hn q
    split at e2
    · rename_i od g
      cases ret_ok e2
      obtain ⟨v, hsv, hs⟩ := p2.rel.slot i _ q (fun z => hn z)
      obtain ⟨a, o, rfl, h1, h2⟩ := dget_of p2.rel.sub hs r2 g
      refine ⟨_, hsv, a, o, rfl, h1, ?_⟩
      rcases h2 with ⟨rfl, rfl⟩ | ⟨w, d', rfl, rfl, rw'⟩
      · exact hp _ F2 H2 p2 ⟨.val .bl, fun _ _ z => by cases z⟩
      · exact hp _ F2 H2 p2 ⟨.val .bl, fun _ _ z => by cases z⟩
    · cases e2
theorem sim_keyNN {K : PySem.W.Frag} {i : Nat} (ha : Sim K cm W (RD K cm) ta ma) : Sim K cm W (RO K cm) (tDNotIn ta (tVar i)) (mKeyN true i ma) := by
  intro ρ r e F σ H Q hr hp
  refine ha.step e hr hp fun dy ρ2 y F2 H2 e2 p2 r2 => ?_
  split at e2
  · cases e2
  · cases e2
  · rename_i s hn q
    split at e2
    · rename_i od g
      cases ret_ok e2
      obtain ⟨v, hsv, hs⟩ := p2.rel.slot i _ q (fun z => hn z)
      obtain ⟨a, o, rfl, h1, h2⟩ := dget_of p2.rel.sub hs r2 g
      refine ⟨_, hsv, a, o, rfl, h1, ?_⟩
      rcases h2 with ⟨rfl, rfl⟩ | ⟨w, d', rfl, rfl, rw'⟩
      · exact hp _ F2 H2 p2 ⟨.val .bl, fun _ _ z => by cases z⟩
      · exact hp _ F2 H2 p2 ⟨.val .bl, fun _ _ z => by cases z⟩
    · cases e2
/-- a comparison by its own reading, as a value, as a test -/
structure CEs (X : Cx) (cm : Wd) (W : WX) (op : CmpOp) (a b : Expr) (t : TE) (m : ME S) : Prop where
  pc : PC X op a b t
  sim : Sim X.K cm W (RO X.K cm) t m
theorem cs_din {i : Nat} {x : Str} {px : Pos} (hu : X.A.units + 1 < cLine) (ha : DE X cm W a ta ma) (hN : X.N[i]? = some x) (hv : Vis X.env.scope x) (hd : (x == ("__debug__" : Str)) = false := by decide) (hcd : (x == ("__classdict__" : Str)) = false := by decide) :
    CEs X cm W .In a (.Name x px) (tDIn ta (tVar i)) (mKeyN false i ma) := ⟨pc_din hu ha.pe (pe_var hN hv hd hcd), sim_keyN ha.sim⟩
theorem cs_dnotin {i : Nat} {x : Str} {px : Pos} (hu : X.A.units + 1 < cLine) (ha : DE X cm W a ta ma) (hN : X.N[i]? = some x) (hv : Vis X.env.scope x) (hd : (x == ("__debug__" : Str)) = false := by decide) (hcd : (x == ("__classdict__" : Str)) = false := by decide) :
    CEs X cm W .NotIn a (.Name x px) (tDNotIn ta (tVar i)) (mKeyN true i ma) := ⟨pc_dnotin hu ha.pe (pe_var hN hv hd hcd), sim_keyNN ha.sim⟩
theorem oe_cs {op : CmpOp} {mo : ME S} (h : CEs X cm W op a b t mo) (h1 : behindInMarks op b = false := by rfl) : OE X cm W (.Compare a [op] [b] pos) t mo := ⟨pe_cmp h.pc h1, h.sim⟩
theorem te_cs {op : CmpOp} {mo : ME S} (h : CEs X cm W op a b t mo) (h1 : behindInMarks op b = false := by rfl) : TEs X cm W (.Compare a [op] [b] pos) (tB t) (mTest mo) := ⟨pt_cmp h.pc h1, sim_test h.sim⟩
theorem oe_inN (neg : Bool) {op : CmpOp} {i : Nat} {x : Str} {px : Pos} (hx : OpR X (compareOp op) (rIn X.K neg)) (ha : DE X cm W a ta ma) (hN : X.N[i]? = some x) (hv : Vis X.env.scope x) (hd : (x == ("__debug__" : Str)) = false := by decide) (hcd : (x == ("__classdict__" : Str)) = false := by decide) (hm : behindInMarks op (.Name x px) = false := by rfl) :
    OE X cm W (.Compare a [op] [.Name x px] pos) (tOp (rIn X.K neg) ta (tVar i)) (mInN neg i ma) := ⟨pe_cmpR hx ha.pe (pe_var hN hv hd hcd) hm, sim_inN neg ha.sim⟩
theorem te_inN (neg : Bool) {op : CmpOp} {i : Nat} {x : Str} {px : Pos} (hx : OpR X (compareOp op) (rIn X.K neg)) (ha : DE X cm W a ta ma) (hN : X.N[i]? = some x) (hv : Vis X.env.scope x) (hd : (x == ("__debug__" : Str)) = false := by decide) (hcd : (x == ("__classdict__" : Str)) = false := by decide) (hm : behindInMarks op (.Name x px) = false := by rfl) :
    TEs X cm W (.Compare a [op] [.Name x px] pos) (tTest (tOp (rIn X.K neg) ta (tVar i))) (mTest (mInN neg i ma)) := ⟨pt_cmpR hx ha.pe (pe_var hN hv hd hcd) hm, sim_test (sim_inN neg ha.sim)⟩
/-- {} -/
theorem oe_newK : OE X cm W (.Dict [] [] pos) tDNewK (ret (.dK [])) := by
  refine ⟨pe_dnewK, fun ρ r e F σ H Q hr hp => ?_⟩
  cases ret_ok e
  exact fun q hq => hp _ _ _ (Post.warm hr hq) ⟨.own upd_same (hr.noF hq) (.dK .nil), fun a e _ => by cases e; exact ⟨fun z => (hr.owned' z).1 hq, .inr hq⟩⟩
theorem oe_newT : OE X cm W (.Dict [] [] pos) tDNewT (ret (.dT [])) := by
  refine ⟨pe_dnewT, fun ρ r e F σ H Q hr hp => ?_⟩
  cases ret_ok e
  exact fun q hq => hp _ _ _ (Post.warm hr hq) ⟨.own upd_same (hr.noF hq) (.dT .nil), fun a e _ => by cases e; exact ⟨fun z => (hr.owned' z).1 hq, .inr hq⟩⟩
/-- name[key] = e -/
def gPutS : S → D → D → Option S
  | .dK kvs, k, d => if kvs.length < sizeLine then (keyD k).map fun k => .dK (putD kvs k d) else none
  | .dT kvs, k, d => if kvs.length < sizeLine then (tkeyD k).map fun k => .dT (putD kvs k d) else none
  | _, _, _ => none
def sPutN (i : Nat) (mk mv : ME D) : MS := mv.thn fun d => fun ρ => match ρ[i]? with
  | none => none
  | some .no => none
  | some _ => (mk.thn fun k ρ => match ρ[i]? with
    | some s => (gPutS s k d).map fun s' => .nx (ρ.set i s')
    | none => none) ρ
theorem se_putN {i : Nat} {x : Str} {px pos' : Pos} (hu : X.A.units + 1 < cLine) (hN : X.N[i]? = some x) (hv : Vis X.env.scope x) (hk : DE X cm W a ta ma) (he : DE X cm W b tb mb) (hd : (x == ("__debug__" : Str)) = false := by decide) (hcd : (x == ("__classdict__" : Str)) = false := by decide)
    (hs : swapsWith b (some (.Subscript (.Name x px) a pos')) pos.line X.env = pure false := by rfl) : SE X cm W P (.Assign [.Subscript (.Name x px) a pos'] b pos) (sDPut (tVar i) ta tb) (sPutN i ma mb) := by
  refine ⟨ps_dput hu (pe_var hN hv hd hcd) hk.pe he.pe hs, fun ρ r e F σ H Dd hr hp => ?_⟩
  refine he.sim.stepS e hr hp fun d ρ1 v F1 H1 e1 p1 r1 => ?_
  have hs1 : (∃ v, σ[i]? = some (some v)) ∧ (ma.thn fun k ρ => match ρ[i]? with
    | some s => (gPutS s k d).map fun s' => .nx (ρ.set i s')
    | none => none) ρ1 = some r := by
    cases q : ρ1[i]? with
    | none => rw [q] at e1; cases e1
    | some s =>
      rw [q] at e1
      cases s with
      | no => cases e1
      | _ =>
        obtain ⟨v, h, _⟩ := p1.rel.slot i _ q (by simp)
        exact ⟨⟨v, h⟩, e1⟩
  obtain ⟨⟨w, hsw⟩, e1⟩ := hs1
  refine ⟨w, hsw, hk.sim.stepS e1 p1.rel (hp.trans p1.any) fun k ρ2 y F2 H2 e2 p2 r2 => ?_⟩
  cases q : ρ2[i]? with
  | none => rw [q] at e2; cases e2
  | some s =>
    rw [q] at e2
    dsimp only at e2
    cases q2 : gPutS s k d with
    | none => rw [q2] at e2; cases e2
    | some s' =>
      rw [q2] at e2
      cases e2
      have rv := Rep.mono p2.mono r1
      cases s with
      | dK kvs =>
        obtain ⟨a', o', ea, g1, g2, g3⟩ := (slot_at p2.rel q (by simp) hsw).of_own rfl
        subst ea
        cases g3 with
        | dK g3 =>
          simp only [gPutS] at q2
          split at q2
          · rename_i hl
            cases q3 : keyD k with
            | none => rw [q3] at q2; cases q2
            | some kk =>
              rw [q3] at q2
              cases q2
              rw [r2.key q3]
              exact ⟨a', _, rfl, DPut.k g1 (by rw [g3.len]; exact hl), hp _ σ _ ((p1.trans p2).trans (Post.write p2.rel q rfl hsw (.dK (g3.put kk rv)))).any⟩
          · cases q2
      | dT kvs =>
        obtain ⟨a', o', ea, g1, g2, g3⟩ := (slot_at p2.rel q (by simp) hsw).of_own rfl
        subst ea
        cases g3 with
        | dT g3 =>
          simp only [gPutS] at q2
          split at q2
          · rename_i hl
            cases q3 : tkeyD k with
            | none => rw [q3] at q2; cases q2
            | some kk =>
              rw [q3] at q2
              cases q2
              obtain ⟨bb, rfl, hb⟩ := r2.tkey q3
              exact ⟨a', _, rfl, DPut.t g1 (p2.rel.sub _ _ hb) (by rw [g3.len]; exact hl), hp _ σ _ ((p1.trans p2).trans (Post.write p2.rel q rfl hsw (.dT (g3.put kk rv)))).any⟩
          · cases q2
      | _ => cases q2
/-- list(name), the name a dict of ints and texts -/
def keyOut : Key → D
  | .inl i => .int i
  | .inr x => .str x
def mListKN (i : Nat) : ME S := fun ρ => match ρ[i]? with
  | some (.dK kvs) => some (.ok (.lst (kvs.map fun kv => keyOut kv.1)) ρ)
  | some (.val (.dK kvs)) => some (.ok (.lst (kvs.map fun kv => keyOut kv.1)) ρ)
  | _ => none
theorem RepK.outs {K : PySem.W.Frag} {cl : Str → Addr} {F F' : Hp} {vs : List (Key × V)} {ds : List (Key × D)} (h : RepK K cl F vs ds) : RepL K cl F' (vs.map fun kv => kV kv.1) (ds.map fun kv => keyOut kv.1) := by
  induction vs generalizing ds with
  | nil => cases h; exact .nil
  | cons v vs ih =>
    cases h with
    | @cons k _ _ _ _ a b =>
      refine .cons ?_ (ih b)
      cases k with
      | inl i => exact .int
      | inr x => exact .str
theorem oe_listKN {i : Nat} {x : Str} {px : Pos} (hc : X.calm = true) (hg : Gl X "list") (hm : X.mg "list" = none) (hN : X.N[i]? = some x) (hv : Vis X.env.scope x) (hd : (x == ("__debug__" : Str)) = false := by decide) (hcd : (x == ("__classdict__" : Str)) = false := by decide) (hn : ("list" : Str) ≠ "__name__" := by decide) (hdb : (("list" : Str) == ("__debug__" : Str)) = false := by decide)
    (h1 : starEach (.Name x px :: []) X.env = (false, eval (.Name x px) X.env) :: starEach [] X.env := by rfl) (hpl : (backTo pos (starEach [] X.env)).any (·.1) = false := by rfl) :
    OE X cm W (.Call (.Name "list" p) [.Name x px] [] pos) (tCB rListD (tCons (tVar i) tNil)) (mListKN i) := by
  refine ⟨pe_callTy (call_list_dK hc) hg hm boot_list (pa_cons (pe_var hN hv hd hcd) pa_nil h1) hn hdb h1 hpl, fun ρ r e F σ H Q hr hp => ?_⟩
  unfold mListKN at e
  split at e
  · rename_i kvs q
    cases e
    obtain ⟨v, h2, h3⟩ := hr.slot i _ q (by simp)
    obtain ⟨a, o, rfl, g1, g2, g3⟩ := h3.of_own rfl
    cases g3 with
    | dK g3 => exact ⟨_, h2, a, _, rfl, g1, fun l hl => hp _ _ _ (Post.warm hr hl) (rd_lst hr hl g3.outs)⟩
  · rename_i kvs q
    cases e
    obtain ⟨v, h2, h3⟩ := hr.slot i _ q (by simp)
    cases h3.of_val with
    | dK g1 g3 => exact ⟨_, h2, _, _, rfl, hr.sub _ _ g1, fun l hl => hp _ _ _ (Post.warm hr hl) (rd_lst hr hl g3.outs)⟩
  · cases e
end
end L2.Fn
set_option maxRecDepth 100000
set_option maxHeartbeats 4000000
/-! FnH: errors raised and caught; isinstance. -/
namespace L2.Fn
open PySem PySem.Spec PyProof.Rows L2

/-! ### an error class whose __init__ stores one field -/
def spExc (C : Addr) (f : Str) : Sp := fun vs H Q _ => ∃ a v, vs = [.ref a, v] ∧ H a = some (exo a C none) ∧ ∀ dx, H dx = none → dx ≠ a → Q .non (upd (upd H dx (exd dx [(f, v)])) a (exo a C (some dx)))
/-- def __init__(self, y): self.f = y -/
theorem exc_init {P : Program} {w : World} {K : PySem.W.Frag} {mg : Str → Option Value} {base : Heap} {qual f y : Str} {params : Arguments} {scope : Scope} {fa C : Addr} {fd : FuncData} {p1 p2 p3 p4 : Pos}
    (Fd : FunD K "__init__" qual params [.Assign [.Attribute (.Name "self" p1) f p2] (.Name y p3) p4] scope [] [] fa fd) (Sc : FnScope ["self", y] ["self", y] scope) (hs : scope.names.lookup ("self" : Str) = some .local) (hy : scope.names.lookup y = some .local)
    (T : OexC K C) (hno : PySem.W.findIn K (.ref C) f = some none) (hyd : (y == ("__debug__" : Str)) = false := by decide) (hyc : (y == ("__classdict__" : Str)) = false := by decide)
    (hsw : ∀ env, swapsWith (.Name y p3) (some (.Attribute (.Name "self" p1) f p2)) p4.line env = pure false := by intro _; rfl) : FnOk P w K mg base CX0 1 fa fd ["self", y] (spExc C f) := by
  refine Fd.ok Sc (fun vs H Q E h => ?_) fun cdv A outer s H vs Q E hr h => ?_
  · obtain ⟨a, v, rfl, _⟩ := h; rfl
  · obtain ⟨a, v, rfl, h1, h2⟩ := h
    refine ⟨_, pss_one (ps_ost (pe_var (i := 0) rfl (.inl hs)) (pe_var (i := 1) rfl (.inl hy) hyd hyc) (hsw _)), ?_⟩
    exact ⟨v, rfl, .ref a, rfl, a, C, rfl, T, hno, .inl ⟨h1, fun dx n1 n2 => h2 dx n1 n2⟩⟩
section
variable {X : Cx} {cm : Wd} {W : WX} {P : Nat → Bool} {e a b c o : Expr} {es : List Expr} {t ta tb tc : TE} {ts : TA} {m ma mb mc : ME D} {mo : ME S} {pos p p' : Pos}
/-- raise C(e) -/
def sRaise1 (C f : Str) (m : ME D) : MS := m.thn fun d ρ => some (.ex C [(f, d)] ρ)
theorem se_raise1 {C f x : Str} {fI : Addr} {fd : FuncData} {ps : List Str} (hc : X.calm = true) (tk : Takes X W) (T : OexC X.K (cm C)) (iC : PySem.W.findIn X.K (.ref (cm C)) "__init__" = some (some (.ref fI))) (tI : PySem.W.typeIn X.K (.ref fI) = some (.type "function"))
    (F1 : FnOk X.prog X.w X.K X.mg X.base CX0 1 fI fd ps (spExc (cm C) f)) (hr : Room 2 X.A) (hb : Binds X.K fd ps []) (hg : Gl X x) (hm : X.mg x = some (.ref (cm C))) (ha : DE X cm W a ta ma)
    (hdb : (x == ("__debug__" : Str)) = false := by decide) (he : starEach (a :: []) X.env = (false, eval a X.env) :: starEach [] X.env := by rfl) (hpl : (backTo pos (starEach [] X.env)).any (·.1) = false := by rfl) :
    SE X cm W P (.Raise (some (.Call (.Name x p) [a] [] pos)) none p') (fun _ σ H => tMkO (cm C) (spExc (cm C) f) [] (tCons ta tNil) σ H fun cls d H' => W cls d σ H') (sRaise1 C f ma) := by
  refine ⟨ps_raise hc tk (pmk_oex T iC tI F1 hr hb .nil pass0 hg hm (pa_cons ha.pe pa_nil he) hdb he hpl), fun ρ r e F σ H D hr' hp => ?_⟩
  refine ha.sim.stepS e hr' hp fun d ρ1 v F1 H1 e1 p1 r1 => ?_
  cases e1
  refine ⟨by simp, fun q hq => ⟨q, v, rfl, upd_same, fun dx n1 n2 => ⟨rfl, dx, [(f, v)], upd_same, ?_, ?_, ?_⟩⟩⟩
  · rw [upd_ne n2, upd_same]
  · rw [upd_ne n2] at n1; exact n1
  · have n1' : H1 dx = none := by rw [upd_ne n2] at n1; exact n1
    have eH : upd (del (upd (upd (upd H1 q (exo q (cm C) none)) dx (exd dx [(f, v)])) q (exo q (cm C) (some dx))) q) dx (.xd [(f, v)]) = upd H1 dx (.xd [(f, v)]) := by
      funext b
      unfold upd del
      by_cases e1 : b = dx
      · simp [e1]
      · by_cases e2 : b = q
        · simp [e1, e2, hq]
        · simp [e1, e2]
    rw [eH]
    have p2 := Post.cold (P := P) (o := .xd [(f, v)]) p1.rel n1'
    refine hp (some dx) _ σ _ (p1.any.trans p2) (.inr ⟨dx, _, rfl, upd_same, .cons (Rep.mono p2.mono r1) .nil⟩)

/-! ### a caught error -/
/-- in an except suite: the error at a, its class cls, its own dict d -/
def errWd (K : PySem.W.Frag) (cm : Wd) (a : Addr) (cls : Value) (d : Option Addr) : Wd := ⟨cm.cls, fun F0 a' C fs => a' = a ∧ cls = .ref (cm C) ∧ ExR K cm F0 d fs⟩
theorem ExR.mono {K : PySem.W.Frag} {cl : Str → Addr} {F F' : Hp} {d : Option Addr} {fs : List (Str × D)} (m : ∀ a o, F a = some o → F' a = some o) (h : ExR K cl F d fs) : ExR K cl F' d fs := by
  rcases h with h | ⟨dd, ws, h1, h2, h3⟩
  · exact .inl h
  · exact .inr ⟨dd, ws, h1, m _ _ h2, h3.mono m⟩
/-- error.f -/
def mErr (i : Nat) (C f : Str) : ME D := fun ρ => match ρ[i]? with
  | some (.err C' fs) => if C' = C then opt (fs.lookup f) ρ else none
  | _ => none
theorem de_err {q : Addr} {oe : Obj} {cls : Value} {d : Option Addr} {pn : List (Addr × Obj)} {i : Nat} {x f C : Str} {px : Pos} (T : XfC X.K (cm C)) (hno : PySem.W.findIn X.K (.ref (cm C)) f = some none) (hz : Zc cls d oe) (hf : ∃ vs, oe.data = .fields vs)
    (hN : X.N[i]? = some x) (hv : Vis X.env.scope x) (hd : (x == ("__debug__" : Str)) = false := by decide) (hcd : (x == ("__classdict__" : Str)) = false := by decide)
    (hb : attributeBase (.Name x px) f X.env (eval (.Name x px) X.env) = eval (.Name x px) X.env := by rfl) :
    DE (X.suite q ((q, oe) :: pn)) (errWd X.K cm q cls d) W (.Attribute (.Name x px) f pos) (tXf q cls d (cm C) f (tVar i)) (mErr i C f) := by
  refine ⟨pe_xf T hno hz hf (pe_var (X := X.suite q ((q, oe) :: pn)) hN hv hd hcd) hb, fun ρ r e F σ H Q hr hp => ?_⟩
  unfold mErr at e
  split at e
  · rename_i C' fs g
    split at e
    · rename_i ec
      subst ec
      obtain ⟨dv, h1, rfl⟩ := opt_ok e
      obtain ⟨v, h2, h3⟩ := hr.slot i _ g (by simp)
      cases h3 with
      | own _ _ r => cases r
      | @err a' _ _ F0 q0 r =>
        obtain ⟨rfl, ecls, hx⟩ := r
        rcases hx with ⟨_, rfl⟩ | ⟨dd, ws, ed, h4, h5⟩
        · cases h1
        · obtain ⟨w, h6, h7⟩ := h5.look h1
          exact ⟨_, h2, rfl, ecls, dd, ws, w, ed, hr.sub _ _ (q0 _ _ h4), h6, hp w F H (Post.refl hr) (h7.mono q0)⟩
    · cases e
  · cases e
end
/-! ### try: .. except C as x: .. -/
/-- the answer of an except clause to an error's class -/
def ExmOk (K : PySem.W.Frag) (cm : Wd) (sub : Str → Option Bool) (c : Value) : Prop := ∀ C b, sub C = some b → PySem.W.exmOne K (.ref (cm C)) c = some b
def notErr : S → Bool
  | .err _ _ => false
  | _ => true
def sTry (sub : Str → Option Bool) (i : Nat) (mb ms : MS) : MS := fun ρ => match mb ρ with
  | some (.ex C fs ρ1) => if ρ1.all notErr then (match sub C with
    | some true => if i < ρ1.length then (match ms (ρ1.set i (.err C fs)) with
      | some (.nx ρ2) => if (ρ2.set i .no).all notErr then some (.nx (ρ2.set i .no)) else none
      | some (.bk ρ2) => if (ρ2.set i .no).all notErr then some (.bk (ρ2.set i .no)) else none
      | some (.ct ρ2) => if (ρ2.set i .no).all notErr then some (.ct (ρ2.set i .no)) else none
      | some (.rt s ρ2) => if (ρ2.set i .no).all notErr && notErr s then some (.rt s (ρ2.set i .no)) else none
      | _ => none) else none
    | some false => some (.ex C fs ρ1)
    | none => none) else none
  | r => r
section
variable {K : PySem.W.Frag} {cm : Wd} {W : WX} {P : Nat → Bool} {F F' : Hp} {σ σ' : St} {H H' : Hp} {ρ ρ' : Slots} {i : Nat}
theorem RepO.wd {cm' : Wd} (hc : cm'.cls = cm.cls) {o : HO} {s : S} (h : RepO K cm F o s) : RepO K cm' F o s := by
  obtain ⟨c, e⟩ := cm'
  obtain ⟨c2, e2⟩ := cm
  dsimp only at hc
  subst hc
  cases h with
  | lst r => exact .lst r
  | dK r => exact .dK r
  | dT r => exact .dT r
  | ins r => exact .ins r
/-- the slots without a caught error -/
def NoErr (ρ : Slots) : Prop := ∀ (j : Nat) (C : Str) (fs : List (Str × D)), ρ[j]? ≠ some (.err C fs)
theorem noErr_of (h : ρ.all notErr = true) : NoErr ρ := fun j C fs e => by
  have := List.all_eq_true.mp h _ (List.mem_of_getElem? e)
  cases this
theorem RepS.wd {cm' : Wd} (hc : cm'.cls = cm.cls) {v : V} {s : S} (h : RepS K cm F H v s) (n : ∀ C fs, s ≠ .err C fs) : RepS K cm' F H v s := by
  cases h with
  | val r => exact .val (by rw [hc]; exact r)
  | own h1 h2 h3 => exact .own h1 h2 (h3.wd hc)
  | err _ _ => exact absurd rfl (n _ _)
theorem Rel.wd {cm' : Wd} (hc : cm'.cls = cm.cls) (R : Rel K cm F σ H ρ) (n : NoErr ρ) : Rel K cm' F σ H ρ :=
  ⟨R.len, R.sub, fun j s h1 h2 => let ⟨v, h3, h4⟩ := R.slot j s h1 h2; ⟨v, h3, h4.wd hc fun C fs e => n j C fs (by rw [h1, e])⟩, R.sep⟩
/-- the slot of a caught error is filled -/
theorem rel_err {q : Addr} {cls : Value} {d : Option Addr} {C : Str} {fs : List (Str × D)} (R : Rel K cm F σ H ρ) (n : NoErr ρ) (hi : i < ρ.length) (hx : ExR K cm F d fs) (hc : cls = .ref (cm C)) :
    Rel K (errWd K cm q cls d) F (σ.set i (some (.ref q))) H (ρ.set i (.err C fs)) ∧ ∀ a, owns (σ.set i (some (.ref q))) (ρ.set i (.err C fs)) a → owns σ ρ a := by
  have R' : Rel K (errWd K cm q cls d) F σ H ρ := Rel.wd (cm := cm) (cm' := errWd K cm q cls d) rfl R n
  obtain ⟨h1, h2, h3⟩ := Post.store (P := fun _ => false) R' (RepS.err (F0 := F) (fun _ _ h => h) ⟨rfl, hc, hx⟩) (fun _ _ z => by cases z) hi rfl
  exact ⟨h1, fun a h => (h3 a h).elim id fun z => by cases z.2⟩
theorem owns_no {x : Option V} {a : Addr} (h : owns (σ.set i x) (ρ.set i .no) a) : ∃ j, j ≠ i ∧ ownAt σ ρ j a := by
  obtain ⟨j, s, q1, q2, q3⟩ := h
  by_cases e : j = i
  · subst e
    have hi : j < (ρ.set j S.no).length := (List.getElem?_eq_some_iff.mp q1).1
    rw [List.length_set] at hi
    rw [List.getElem?_set_self hi] at q1
    cases q1; cases q2
  · rw [List.getElem?_set_ne (Ne.symm e)] at q1 q3
    exact ⟨j, e, s, q1, q2, q3⟩
theorem rel_no (R : Rel K cm F σ H ρ) : Rel K cm F (σ.set i none) H (ρ.set i .no) := by
  refine ⟨by simpa using R.len, R.sub, fun j s q1 q2 => ?_, fun j k a h1 h2 => ?_⟩
  · by_cases e : j = i
    · subst e
      have hi : j < (ρ.set j S.no).length := (List.getElem?_eq_some_iff.mp q1).1
      rw [List.length_set] at hi
      rw [List.getElem?_set_self hi] at q1
      cases q1; exact absurd rfl q2
    · rw [List.getElem?_set_ne (Ne.symm e)] at q1 ⊢
      exact R.slot j s q1 q2
  · have f : ∀ {j : Nat}, ownAt (σ.set i none) (ρ.set i .no) j a → ownAt σ ρ j a := by
      intro j h
      obtain ⟨s, q1, q2, q3⟩ := h
      by_cases e : j = i
      · subst e
        have hi : j < (ρ.set j S.no).length := (List.getElem?_eq_some_iff.mp q1).1
        rw [List.length_set] at hi
        rw [List.getElem?_set_self hi] at q1
        cases q1; cases q2
      · rw [List.getElem?_set_ne (Ne.symm e)] at q1 q3
        exact ⟨s, q1, q2, q3⟩
    exact R.sep j k a (f h1) (f h2)
end
section
variable {X : Cx} {cm : Wd} {W : WX} {P : Nat → Bool}
theorem se_try {sub : Str → Option Bool} {x n : Str} {c : Value} {i : Nat} {body suite : List Stmt} {b0 : Stmt} {np pos pos' : Pos} {tb : WX → TS} {ts : Addr → Value → Option Addr → TS} {mb ms : MS}
    (hs : X.stack = X.env :: X.outer) (hf : X.env.frame = some X.env.locals) (hN : X.N.Nodup) (hi : X.N[i]? = some n) (hln : X.env.kindOf n = some .local) (hc : Names X x c) (hsub : ExmOk X.K cm sub c) (tk : Takes X W)
    (hb : ∀ (W : WX) (pn : List (Addr × Obj)) (xe : Value → Shared → Prop), Takes (X.tr pn xe) W → PassesOwn (model X.prog X.w) X.A X.env xe → SSE (X.tr pn xe) cm W P body (tb W) mb)
    (hsu : ∀ (a : Addr) (oe : Obj) (cls : Value) (d : Option Addr) (pn : List (Addr × Obj)), Zc cls d oe → (∃ vs, oe.data = .fields vs) → SSE (X.suite a ((a, oe) :: pn)) (errWd X.K cm a cls d) WF P (b0 :: suite) (ts a cls d) ms)
    (hP : P i = false := by rfl) :
    SE X cm W P (.Try body [.ExceptHandler (some (.Name x np)) (some n) (b0 :: suite) pos'] [] [] pos) (fun D σ H => tb (wAs X.K c i ts W D) D σ H) (sTry sub i mb ms) := by
  refine ⟨ps_try_as hs hf hN hi hln hc tk (fun W pn xe t p => (hb W pn xe t p).pss) (fun a oe cls d pn hz hd => (hsu a oe cls d pn hz hd).pss), fun ρ r e F σ H D hr hp => ?_⟩
  have tk0 : Takes (X.tr [] fun e s1 => wpAny (model X.prog X.w) X.A (noteFrame e X.env) (fun _ s2 => wpAny (model X.prog X.w) X.A (setFlight e none) (fun _ _ => True) (fun _ _ => True) s2) (fun _ _ => True) s1) (wAs X.K c i ts W D) := by
    rintro u s' ⟨a, B, sI, pins', σ', H', cls, d, rfl, J', nb, up, sky, na, os, ag, w⟩
    have hfr : X.A.frames = some (X.env :: X.outer) := by rw [← hs]; exact J'.ok.frames
    have sky' : Sky B (X.env :: X.outer) a (Zc cls d) X.env.locals s'.heap := by rw [← hs]; exact sky
    exact Sky.land (Q := fun _ _ => True) Zc.steady hfr hf sky' fun _ _ _ => True.intro
  have sb := (hb (wAs X.K c i ts W D) [] _ tk0 PassesOwn.looking).sim
  unfold sTry at e
  cases q : mb ρ with
  | none => rw [q] at e; cases e
  | some z =>
    rw [q] at e
    refine sb ρ z q F σ H D hr ?_
    cases z with
    | nx ρ1 => cases e; exact hp
    | bk ρ1 => cases e; exact hp
    | ct ρ1 => cases e; exact hp
    | rt s ρ1 => cases e; exact hp
    | ex C fs ρ1 =>
      intro d F1 σ1 H1 p1 hx
      simp only at e
      split at e
      · rename_i hne
        have hne := noErr_of hne
        cases hsb : sub C with
        | none => rw [hsb] at e; cases e
        | some b =>
          rw [hsb] at e
          refine ⟨b, hsub C b hsb, fun eb a ha => ?_, fun eb => ?_⟩
          · subst eb
            simp only at e
            split at e
            · rename_i hi1
              obtain ⟨oe0, hz0, hd0⟩ : ∃ oe : Obj, Zc (.ref (cm C)) d oe ∧ ∃ vs, oe.data = .fields vs := ⟨{ cls := .ref (cm C), dict := d, data := .fields #[] }, ⟨rfl, rfl⟩, _, rfl⟩
              have su := (hsu a oe0 (.ref (cm C)) d [] hz0 hd0).sim
              obtain ⟨R2, ow2⟩ := rel_err (q := a) (cls := .ref (cm C)) p1.rel hne hi1 hx rfl
              cases q2 : ms (ρ1.set i (.err C fs)) with
              | none => rw [q2] at e; cases e
              | some z2 =>
                rw [q2] at e
                -- what the suite leaves, seen from outside
                have back : ∀ {F' : Hp} {σ' : St} {H' : Hp} {ρ' : Slots}, (ρ'.set i .no).all notErr = true → Post X.K (errWd X.K cm a (.ref (cm C)) d) P F1 (σ1.set i (some (.ref a))) H1 (ρ1.set i (.err C fs)) F' σ' H' ρ' → Post X.K cm P F σ H ρ F' (σ'.set i none) H' (ρ'.set i .no) := by
                  intro F' σ' H' ρ' hn p2
                  refine p1.trans ⟨Rel.wd (cm := errWd X.K cm a (.ref (cm C)) d) rfl (rel_no p2.rel) (noErr_of hn), p2.mono, fun b hb => (p2.lim b hb).elim .inl fun z => z.elim (fun z => .inr (.inl (ow2 b z))) fun z => .inr (.inr z), fun b o hb n => p2.keep b o hb fun z => n (ow2 b z), fun b hb => ?_, fun k hk => ?_, ?_⟩
                  · obtain ⟨j, _, z⟩ := owns_no hb
                    rcases p2.new b ⟨j, z⟩ with z | z
                    · exact .inl (ow2 b z)
                    · exact .inr z
                  · have hk' : k ≠ i := fun z => by rw [z, hP] at hk; cases hk
                    rw [List.getElem?_set_ne (Ne.symm hk'), p2.pin k hk, List.getElem?_set_ne (Ne.symm hk')]
                  · rw [List.length_set, p2.sl, List.length_set]
                refine su _ z2 q2 F1 _ H1 _ R2 ?_
                cases z2 with
                | nx ρ2 =>
                  simp only at e
                  split at e
                  · rename_i hn; cases e; exact fun F' σ' H' p2 => hp F' _ H' (back hn p2)
                  · cases e
                | bk ρ2 =>
                  simp only at e
                  split at e
                  · rename_i hn; cases e; exact fun F' σ' H' p2 => hp F' _ H' (back hn p2)
                  · cases e
                | ct ρ2 =>
                  simp only at e
                  split at e
                  · rename_i hn; cases e; exact fun F' σ' H' p2 => hp F' _ H' (back hn p2)
                  · cases e
                | rt s ρ2 =>
                  simp only at e
                  split at e
                  · rename_i hn
                    cases e
                    obtain ⟨hn1, hn2⟩ := Bool.and_eq_true_iff.mp hn
                    refine fun v F' σ' H' p2 x => hp v F' _ H' (back hn1 p2) ⟨RepS.wd (K := X.K) (cm := errWd X.K cm a (.ref (cm C)) d) (cm' := cm) rfl x.1 (fun C' fs' ec => by rw [ec] at hn2; cases hn2), fun b eb o => ⟨fun z => ?_, ?_⟩⟩
                    · obtain ⟨j, _, z⟩ := owns_no z
                      exact (x.2 b eb o).1 ⟨j, z⟩
                    · rcases (x.2 b eb o).2 with z | z
                      · exact p1.new b (ow2 b z)
                      · exact p1.gone z
                  · cases e
                | ex C' fs' ρ2 => cases e
            · cases e
          · subst eb
            cases e
            exact hp d F1 σ1 H1 p1 hx
      · cases e
end
/-! ### isinstance -/
/-- isinstance(error, C) in an except suite -/
theorem kitx_exc {K : PySem.W.Frag} {x D : Addr} {ox : Obj} {od : Option Obj} (C : ExcC K D) : PySem.W.KitX K (.ref x) (.ref D) (fun h => PySem.W.InstAt h x ox D od) where
  ty := fun _ _ _ I => I.type
  it := fun M h Y _ => by
    obtain ⟨cd, hc, _⟩ := PySem.W.any_some C.hd
    unfold PySem.W.clsIn at hc
    split at hc
    · rename_i c' d' cd' sl' ho
      intro A' Q' E' s' k q
      unfold isType loadHead
      exact wpAny_bind (wpAny_loadPart (k _ _ (Y _ _ ho)) (wpAny_pure q))
    · cases hc
  ne := (PySem.W.handS_kitx_exc (x := x) (ox := ox) C.hg C.hk C.hs C.hd C.ha C.hn C.ht C.hm).ne
  ca := fun X I k => PySem.W.kx_classE X I C.hg C.hk C.hs (PySem.W.findObj_dataE (by obtain ⟨cd, hc, _⟩ := PySem.W.any_some C.hd; rw [hc]; rfl) C.ha C.hn C.ht) C.hm k
def rIsX (K : PySem.W.Frag) (D a : Addr) : List V → Hp → VK → Prop := fun xs H Q => ∃ (c : V) (cv : Value) (b : Bool), xs = [.ref a, c] ∧ (∀ u, RelV c u → u = cv) ∧ PySem.W.kitOne K (.ref D) cv = some b ∧ Q (.bl b) H
theorem call_isX {X : Cx} {a D : Addr} {oe : Obj} {cls : Value} {d : Option Addr} {pn : List (Addr × Obj)} (C : ExcC X.K D) (hz : Zc cls d oe) (hf : ∃ vs, oe.data = .fields vs) :
    CallR (X.suite a ((a, oe) :: pn)) (.builtin "isinstance") (fun xs H Q => cls = .ref D ∧ (∀ dd, d = some dd → ∃ fs, H dd = some (.xd fs)) ∧ rIsX X.K D a xs H Q) := by
  intro pins s σ H xs us Q I r h
  obtain ⟨rfl, hdd, c, cv, b, rfl, hcv, e, q⟩ := h
  obtain ⟨u1, u2, rfl, r1, r2⟩ := vals2 r
  cases r1
  have ec := hcv _ r2
  subst ec
  obtain ⟨hget, _⟩ := I.pin (a, oe) (List.mem_append.mpr (.inl List.mem_cons_self))
  obtain ⟨vs, hv⟩ := hf
  have J : ∃ od, PySem.W.InstAt s.heap a oe D od := by
    obtain ⟨oc, ood, oda, osl⟩ := oe
    obtain ⟨h1, h2⟩ := hz
    dsimp only at h1 h2 hv
    subst h1 h2 hv
    cases ood with
    | none => exact ⟨none, hget, rfl, rfl, trivial⟩
    | some dd =>
      obtain ⟨fs, hd⟩ := hdd dd rfl
      obtain ⟨mA, hns, _⟩ : ∃ mA, s.heap.Ns1 dd mA ∧ ∀ f, RelO (fs.lookup f) (mA f) := I.hok dd _ hd
      obtain ⟨o2, ho, _⟩ := lookIn_ns hns
      exact ⟨some o2, hget, rfl, rfl, ho⟩
  obtain ⟨od, J⟩ := J
  exact PySem.W.kia_one (kitx_exc (x := a) (ox := oe) (od := od) C) I.kIn J e (fun z => nomatch z) fun tk => ⟨.bl b, H, I.kept (t' := tk) fun _ _ z => z, rfl, q⟩
section
variable {X : Cx} {cm : Wd} {W : WX} {P : Nat → Bool} {e a b c o : Expr} {ta tb : TE} {ma mb : ME D} {pos p p2 : Pos}
/-- isinstance(error, C), the caught error of the class C0 -/
def mIsErr (i : Nat) (C0 : Str) (b : Bool) : ME S := fun ρ => match ρ[i]? with
  | some (.err C' _) => if C' = C0 then some (.ok (.val (.bl b)) ρ) else none
  | _ => none
theorem oe_isErr {q : Addr} {oe : Obj} {cls : Value} {d : Option Addr} {pn : List (Addr × Obj)} {i : Nat} {x y C0 C1 : Str} {px : Pos} {k : Bool} (T : ExcC X.K (cm C0)) (hz : Zc cls d oe) (hf : ∃ vs, oe.data = .fields vs) (hg : Gl X "isinstance") (hm : X.mg "isinstance" = none)
    (hg2 : Gl X y) (hm2 : X.mg y = some (.ref (cm C1))) (hk : PySem.W.kitOne X.K (.ref (cm C0)) (.ref (cm C1)) = some k)
    (hN : X.N[i]? = some x) (hv : Vis X.env.scope x) (hd : (x == ("__debug__" : Str)) = false := by decide) (hcd : (x == ("__classdict__" : Str)) = false := by decide) (hyd : (y == ("__debug__" : Str)) = false := by decide)
    (h1 : starEach (.Name y p2 :: []) X.env = (false, eval (.Name y p2) X.env) :: starEach [] X.env := by rfl) (h2 : starEach (.Name x px :: [.Name y p2]) X.env = (false, eval (.Name x px) X.env) :: starEach [.Name y p2] X.env := by rfl) (hpl : (backTo pos (starEach [.Name y p2] X.env)).any (·.1) = false := by rfl) :
    OE (X.suite q ((q, oe) :: pn)) (errWd X.K cm q cls d) W (.Call (.Name "isinstance" p) [.Name x px, .Name y p2] [] pos)
      (tCB (fun xs H Q => cls = .ref (cm C0) ∧ (∀ dd, d = some dd → ∃ fs, H dd = some (.xd fs)) ∧ rIsX X.K (cm C0) q xs H Q) (tCons (tVar i) (tCons (tC (.ref (cm C1))) tNil))) (mIsErr i C0 k) := by
  refine ⟨pe_callB (X := X.suite q ((q, oe) :: pn)) (call_isX T hz hf) hg hm boot_isinstance (pa_cons (pe_var hN hv hd hcd) (pa_cons (pe_glob hg2 hm2 rfl hyd) pa_nil h1) h2) (by decide) (by decide) h2 hpl, fun ρ r e F σ H Q hr hp => ?_⟩
  unfold mIsErr at e
  split at e
  · rename_i C' fs g
    split at e
    · rename_i ec
      subst ec
      cases e
      obtain ⟨v, h2, h3⟩ := hr.slot i _ g (by simp)
      cases h3 with
      | own _ _ r => cases r
      | @err a' _ _ F0 q0 r =>
        obtain ⟨rfl, ecls, hx⟩ := r
        refine ⟨_, h2, ecls, fun dd ed => ?_, _, .ref (cm C1), k, rfl, fun u hu => hu, hk, hp _ F H (Post.refl hr) ⟨.val .bl, fun _ _ z => by cases z⟩⟩
        rcases hx with ⟨z, _⟩ | ⟨dd', ws, ed', h4, h5⟩
        · rw [z] at ed; cases ed
        · rw [ed] at ed'; cases ed'; exact ⟨ws, hr.sub _ _ (q0 _ _ h4)⟩
    · cases e
  · cases e
/-- isinstance(x, T), T a built-in type -/
def tyD : D → Option String
  | .non => some "NoneType"
  | .bl _ => some "bool"
  | .int _ => some "int"
  | .str _ => some "str"
  | .tup _ => some "tuple"
  | .ktp _ => some "tuple"
  | .lst _ => some "list"
  | .scr _ => some "list"
  | .dK _ => some "dict"
  | .dT _ => some "dict"
  | .obj _ _ => none
theorem Rep.ty {K : PySem.W.Frag} {cl : Str → Addr} {F H : Hp} {v : V} {d : D} {n : String} (m : ∀ a o, F a = some o → H a = some o) (h : Rep K cl F v d) (e : tyD d = some n) : TyX K H v (.type n) := by
  have hT : ∀ {a : Addr} {vs : List V}, SqT K F a vs → TyX K H (.ref a) (.type "tuple") := by
    intro a vs h
    rcases h with (h | ⟨o, h⟩) | ⟨o, its, n, h, c, _⟩
    · exact .base (.tup (m _ _ h))
    · exact .fTuple (m _ _ h)
    · exact .kTuple h c
  have hL : ∀ {a : Addr} {vs : List V}, SqL K F a vs → TyX K H (.ref a) (.type "list") := by
    intro a vs h
    rcases h with (h | ⟨o, h⟩) | ⟨o, its, n, h, c, _⟩
    · exact .base (.lst (m _ _ h))
    · exact .base (.frz (m _ _ h))
    · exact .kList h c
  cases h with
  | non => cases e; exact .base .non
  | bl => cases e; exact .base (.bl _)
  | int => cases e; exact .base (.int _)
  | str => cases e; exact .base (.str _)
  | tup h r => cases e; exact hT (SqT.of h)
  | ktp h r => cases e; exact hT h
  | lst h r => cases e; exact hL (SqL.of h)
  | scr h r => cases e; exact hL h
  | dK h r => cases e; exact .base (.dK (m _ _ h))
  | dT h r => cases e; exact .base (.dT (m _ _ h))
  | obj h r => cases e
def tyNames : List String := ["NoneType", "bool", "int", "str", "tuple", "list", "dict"]
theorem tyD_mem {d : D} {n : String} (e : tyD d = some n) : n ∈ tyNames := by
  cases d <;> first | (cases e; simp [tyNames]; done) | cases e
/-- the answer, by the type's name -/
abbrev IsT (T : String) (f : String → Bool) : Prop := ∀ n ∈ tyNames, kitB n T = some (f n)
def isInt : String → Bool := fun n => n == "int" || n == "bool"
theorem isT_int : IsT "int" isInt := by decide +kernel
theorem isT_bool : IsT "bool" (fun n => n == "bool") := by decide +kernel
theorem isT_str : IsT "str" (fun n => n == "str") := by decide +kernel
theorem isT_list : IsT "list" (fun n => n == "list") := by decide +kernel
theorem isT_tuple : IsT "tuple" (fun n => n == "tuple") := by decide +kernel
def gIsT (f : String → Bool) (d : D) : Option S := (tyD d).map fun n => .val (.bl (f n))
def mIsT (f : String → Bool) (m : ME D) : ME S := m.bnd fun d => opt (gIsT f d)
theorem oe_isT {T : String} {f : String → Bool} {y : Str} (hT : IsT T f) (hg : Gl X "isinstance") (hm : X.mg "isinstance" = none) (hg2 : Gl X y) (hm2 : X.mg y = none) (hv2 : bootBuiltins y = some (.type T)) (ha : DE X cm W a ta ma) (hyn : y ≠ "__name__" := by decide) (hyd : (y == ("__debug__" : Str)) = false := by decide)
    (h1 : starEach (.Name y p2 :: []) X.env = (false, eval (.Name y p2) X.env) :: starEach [] X.env := by rfl) (h2 : starEach (a :: [.Name y p2]) X.env = (false, eval a X.env) :: starEach [.Name y p2] X.env := by rfl) (hpl : (backTo pos (starEach [.Name y p2] X.env)).any (·.1) = false := by rfl) :
    OE X cm W (.Call (.Name "isinstance" p) [a, .Name y p2] [] pos) (tCB (rIsi X.K) (tCons ta (tCons (tC (.ty T)) tNil))) (mIsT f ma) := by
  refine ⟨pe_callB call_isi hg hm boot_isinstance (pa_cons ha.pe (pa_cons (pe_bltn hg2 hm2 hv2 rfl hyn hyd) pa_nil h1) h2) (by decide) (by decide) h2 hpl, fun ρ r e F σ H Q hr hp => ?_⟩
  refine ha.sim.step e hr hp fun d ρ1 v F1 H1 e1 p1 r1 => ?_
  obtain ⟨s, g, rfl⟩ := opt_ok e1
  unfold gIsT at g
  cases q : tyD d with
  | none => rw [q] at g; cases g
  | some n =>
    rw [q] at g
    cases g
    exact ⟨v, .ty T, .type n, .type T, f n, rfl, .ty T, Rep.ty p1.rel.sub r1 q, kit_ty (hT n (tyD_mem q)), hp _ F1 H1 p1 ⟨.val .bl, fun _ _ z => by cases z⟩⟩
/-- isinstance(x, (list, tuple)) -/
def isLT : String → Bool := fun n => n == "list" || n == "tuple"
theorem oe_isLT {k : Nat} {pt p3 : Pos} (hg : Gl X "isinstance") (hm : X.mg "isinstance" = none) (hg2 : Gl X "list") (hm2 : X.mg "list" = none) (hg3 : Gl X "tuple") (hm3 : X.mg "tuple" = none) (ha : DE X cm W a ta ma)
    (s1 : starEach (.Name "tuple" p3 :: []) X.env = (false, eval (.Name "tuple" p3) X.env) :: starEach [] X.env := by rfl) (s2 : starEach (.Name "list" p2 :: [.Name "tuple" p3]) X.env = (false, eval (.Name "list" p2) X.env) :: starEach [.Name "tuple" p3] X.env := by rfl)
    (h1 : starEach (.Tuple [.Name "list" p2, .Name "tuple" p3] k pt :: []) X.env = (false, eval (.Tuple [.Name "list" p2, .Name "tuple" p3] k pt) X.env) :: starEach [] X.env := by rfl) (h2 : starEach (a :: [.Tuple [.Name "list" p2, .Name "tuple" p3] k pt]) X.env = (false, eval a X.env) :: starEach [.Tuple [.Name "list" p2, .Name "tuple" p3] k pt] X.env := by rfl) (hpl : (backTo pos (starEach [.Tuple [.Name "list" p2, .Name "tuple" p3] k pt] X.env)).any (·.1) = false := by rfl) :
    OE X cm W (.Call (.Name "isinstance" p) [a, .Tuple [.Name "list" p2, .Name "tuple" p3] k pt] [] pos) (tCB (rIsiT X.K) (tCons ta (tCons (tTup (tCons (tC (.ty "list")) (tCons (tC (.ty "tuple")) tNil))) tNil))) (mIsT isLT ma) := by
  refine ⟨pe_callB call_isiT hg hm boot_isinstance (pa_cons ha.pe (pa_cons (pe_tup (pa_cons (pe_bltn hg2 hm2 boot_list rfl (by decide) (by decide)) (pa_cons (pe_bltn hg3 hm3 boot_tuple rfl (by decide) (by decide)) pa_nil s1) s2)) pa_nil h1) h2) (by decide) (by decide) h2 hpl, fun ρ r e F σ H Q hr hp => ?_⟩
  refine ha.sim.step e hr hp fun d ρ1 v F1 H1 e1 p1 r1 => ?_
  obtain ⟨s, g, rfl⟩ := opt_ok e1
  unfold gIsT at g
  cases q : tyD d with
  | none => rw [q] at g; cases g
  | some n =>
    rw [q] at g
    cases g
    refine ⟨by decide, fun l hl => ?_⟩
    have p2 := Post.warm (P := pinAll) (o := .tup [.ty "list", .ty "tuple"]) p1.rel hl
    refine ⟨v, l, [.ty "list", .ty "tuple"], .type n, [.type "list", .type "tuple"], isLT n, rfl, upd_same, .cons (.ty _) (.cons (.ty _) .nil), Rep.ty p2.rel.sub r1 q, ?_, hp _ F1 _ (p1.trans p2) ⟨.val .bl, fun _ _ z => by cases z⟩⟩
    refine kitAny_cons (b := n == "list") (kit_ty (isT_list n (tyD_mem q))) (fun z => kitAny_cons (b := n == "tuple") (kit_ty (isT_tuple n (tyD_mem q))) (fun z2 => ?_) fun z2 => ?_) fun z => ?_
    · rw [show isLT n = false from by simp [isLT, z, z2]]; exact kitAny_nil
    · simp [isLT, z2]
    · simp [isLT, z]
end
end L2.Fn
set_option maxRecDepth 100000
namespace L2.Fn
open PySem PySem.Spec PyProof.Rows

/-- a method whose closure is __class__ alone -/
structure SupD (P : Program) (K : PySem.W.Frag) (x qual : Str) (params : Arguments) (body : List Stmt) (scope : Scope) (cc f : Addr) (fd : FuncData) : Prop where
  ex : ∃ (oc : Value) (od : Option Addr) (kV doc pm : Value) (an : Option Addr) (cda : Addr) (ct : Value) (osl : Array (Option Value)) (ccl : Value) (cdd : Option Addr) (vs : Array Value) (ccs : Array (Option Value)) (file : Str) (tf : Tok),
    fd = PySem.W.ksFn x qual params body scope .none kV doc pm an (.ref cda) ct cc ∧ K.lookup f = some ⟨oc, od, .func fd, osl⟩ ∧ PySem.W.codeIn K (.ref cda) qual = true ∧
    K.lookup cda = some ⟨ccl, cdd, .fields vs, ccs⟩ ∧ vs[2]? = some (.str file tf) ∧ ((P.main.file : Str) == file) = true
/-- .. the class C of the closure, and the method f2 that super() finds behind it -/
structure SupC (K : PySem.W.Frag) (m : Str) (cc C f2 : Addr) : Prop where
  cell : ∃ cl cld csl, K.lookup cc = some ⟨cl, cld, .cell (some (.ref C)), csl⟩
  cls : ∃ cd, PySem.W.clsIn K C = some cd
  sub : PySem.W.mroIn K C (.ref C) = some true
  find : PySem.W.ks_superIn K C C m = some (some (.ref f2))
  fn : PySem.W.typeIn K (.ref f2) = some (.type "function")
  fi : PySem.W.fnIn K f2 = true
  any : PySem.W.nsIn K cStatics "thirdparty.any" = some none
structure SupScope (N P : List Str) (sc : Scope) (me : Str) : Prop where
  kind : sc.kind = .function
  co : sc.isCoroutine = false
  gen : sc.isGenerator = false
  nd : N.Nodup
  pre : N = P
  me : P[0]? = some me
  par : ∀ x ∈ P, sc.names.lookup x = some .local
  cel : ∀ y ∈ sc.names, y.2 ≠ .cell
  free : ∀ y ∈ sc.names, y.2 = .free → y.1 = "__class__"
  cl : sc.names.lookup ("__class__" : Str) = some .free
  su : sc.names.lookup ("super" : Str) = some .globalImplicit

/-- the context of such a body -/
def cxS (CX : CXT) (P : Program) (w : World) (K : PySem.W.Frag) (mg : Str → Option Value) (base : Heap) (N : List Str) (qual : Str) (scope : Scope) (f : Addr) (cd : Value) (cc : Addr) (A : Around) (outer : List PySem.Env) (s : Shared) (H : Hp) (E : XK) : Cx where
  prog := P
  w := w
  K := K
  mg := mg
  base := base
  A := A.deeper (PySem.W.ksEnv qual scope s.heap.objs.size f cd cc)
  N := N
  s_0 := s
  H_0 := H
  env := PySem.W.ksEnv qual scope s.heap.objs.size f cd cc
  outer := outer
  stack := PySem.W.ksEnv qual scope s.heap.objs.size f cd cc :: outer
  ex := []
  calm := true
  fn := fun _ => false
  pn := []
  xe := fun e s' => wpAny (model P w) (A.deeper (PySem.W.ksEnv qual scope s.heap.objs.size f cd cc)) (leaving (PySem.W.ksEnv qual scope s.heap.objs.size f cd cc) e) (fun _ s'' => CX outer H s E e s'') (fun e' s'' => CX outer H s E e' s'') s'

theorem lookup_nodup {x : Str} {v : Value} : ∀ {l : List (Str × Value)}, (l.map (·.1)).Nodup → (x, v) ∈ l → l.lookup x = some v
  | [], _, h => by cases h
  | (y, u) :: r, nd, h0 => by
    rw [List.lookup_cons]
    rcases List.mem_cons.mp h0 with e | h
    · cases e; simp
    · have nd' := List.nodup_cons.mp nd
      have : x ≠ y := by rintro rfl; exact nd'.1 (List.mem_map.mpr ⟨_, h, rfl⟩)
      rw [beq_eq_false_iff_ne.mpr this]
      exact lookup_nodup nd'.2 h
theorem lookup_rev {x : Str} {v : Value} {l : List (Str × Value)} (nd : (l.map (·.1)).Nodup) (h : (x, v) ∈ l) : l.reverse.lookup x = some v :=
  lookup_nodup (by rw [List.map_reverse]; exact (List.reverse_perm _).nodup_iff.mpr nd) (List.mem_reverse.mpr h)
theorem zip_nodup : ∀ {P : List Str} {us : List Value}, P.Nodup → ((P.zip us).map (·.1)).Nodup
  | [], _, _ => by simp
  | _ :: _, [], _ => by simp
  | p :: P, u :: us, nd => by
    have nd' := List.nodup_cons.mp nd
    rw [List.zip_cons_cons, List.map_cons]
    refine List.nodup_cons.mpr ⟨fun h => ?_, zip_nodup nd'.2⟩
    obtain ⟨⟨a, b⟩, hm, e⟩ := List.mem_map.mp h
    cases e
    exact nd'.1 (List.of_mem_zip hm).1

theorem inv_startS {CX : CXT} {P : Program} {w : World} {K : PySem.W.Frag} {mg : Str → Option Value} {base : Heap} {N ps : List Str} {me qual : Str} {scope : Scope} {f : Addr} {cd : Value} {cc : Addr} {A : Around} {outer : List PySem.Env} {s : Shared} {h1 : Heap} {tk : Nat} {H : Hp} {E : XK} {us : List Value} {vs : List V} {C f2 : Addr} {m : Str}
    (S : SupScope N ps scope me) (Sc : SupC K m cc C f2) (hd : A.handled = none) (e0 : Env0 P w K mg base A outer s H) (hl : vs.length = ps.length) (r : Vals vs us)
    (hns : h1.Ns s.heap.objs.size fun x => (ps.zip us).reverse.lookup x) (hk : ∀ b o, s.heap.get? b = some o → h1.get? b = some o) :
    Inv (cxS CX P w K mg base N qual scope f cd cc A outer s H E) [] (vs.map some) H { s with heap := h1, toks := tk } := by
  obtain ⟨cl, cld, csl, hc⟩ := Sc.cell
  have KX : K.In base := e0.mod.kin
  have hcs := e0.bs _ _ (KX _ _ hc)
  have noA : ∀ b : Addr, b ∉ (cxS CX P w K mg base N qual scope f cd cc A outer s H E).ex := fun b z => absurd (show b ∈ ([] : List Addr) from z) (by simp)
  have cells : ∀ {y : Str} {c : Addr}, (cxS CX P w K mg base N qual scope f cd cc A outer s H E).env.cells.lookup y = some c → y = "__class__" ∧ c = cc := fun {y c} h => by
    have h : List.lookup y [(("__class__" : Str), cc)] = some c := h
    rw [List.lookup_cons] at h
    split at h
    · rename_i q
      cases h
      exact ⟨beq_iff_eq.mp q, rfl⟩
    · cases h
  refine ⟨⟨e0.mod, S.kind, rfl, rfl, Nat.le_refl _, fun y z c h1 h2 => (cells h1).1.trans (cells h2).1.symm, fun y hy => ?_, fun y c z => ?_, fun _ => hd, Around.frames_deeper e0.frames, .inr ⟨rfl, rfl⟩, fun b z => absurd z (noA b), e0.bs, e0.bsz, fun b _ _ => noA b, fun b z => absurd z (noA b), e0.funs, e0.frf⟩,
    rfl, e0.bare, Un.kept hk, ⟨_, hns, fun i y v h1 h2 h3 => ?_⟩, fun y c h => ?_, e0.hok.fresh (Nat.le_refl _), fun y c h => ?_, fun p hp => absurd (show p ∈ ([] : List (Addr × Obj)) from hp) (by simp), e0.hok.kept hk, ?_⟩
  · have hy : scope.names.lookup y = some .cell ∨ scope.names.lookup y = some .free := hy
    rcases hy with hy | hy
    · exact absurd rfl (S.cel _ (PySem.mem_of_lookup hy))
    · have := S.free _ (PySem.mem_of_lookup hy) rfl
      have : y = "__class__" := this
      subst this
      exact ⟨cc, by rfl⟩
  · cases z
  · have ndP : ps.Nodup := S.pre ▸ S.nd
    have h1' : ps[i]? = some y := by rw [← S.pre]; exact h1
    rw [List.getElem?_map] at h2
    cases e : vs[i]? with
    | none => rw [e] at h2; cases h2
    | some a =>
      rw [e] at h2; cases h2
      obtain ⟨u, hu, rv⟩ := r.get e
      refine ⟨u, rv, .inl ⟨S.par y (List.mem_of_getElem? h1'), ?_⟩⟩
      refine lookup_rev (zip_nodup ndP) (List.mem_iff_getElem?.mpr ⟨i, ?_⟩)
      rw [List.getElem?_zip_eq_some]
      exact ⟨h1', hu⟩
  · obtain ⟨_, rfl⟩ := cells h
    exact ⟨_, _, hk _ _ hcs.1, rfl⟩
  · obtain ⟨_, rfl⟩ := cells h
    exact hcs.2
  · show _ = N.length
    rw [List.length_map, S.pre, hl]

theorem at_MethodCallK {M : Model} {A : Around} {c : Code} {E : Value → Shared → Prop} {s : Shared} {env : PySem.Env} {o : Expr} {name : Str} {apos pos : Pos} {args : List Expr} {kws : List Keyword} {pl : Sem Bool} {Q : Value → Shared → Prop}
    (h : PySem.wpAt M A c (attributeBase o name env (eval o env)) (fun ov s₁ => wpAny M A (getMethod ov name pl) (fun fx s₂ => wpAny M A (callWith pos fx.1 fx.2 (backTo pos (starEach args env)) (backToKw pos (keywordEach kws env))) Q E s₂) E s₁) E s)
    (he : eval (.Call (.Attribute o name apos) args kws pos) env = (do
      let ov ← attributeBase o name env (eval o env)
      standAt apos.atName
      let (f, first) ← holding [ov] (getMethod ov name pl)
      callWith pos f first (backTo pos (starEach args env)) (backToKw pos (keywordEach kws env))) := by rfl) :
    PySem.wpAt M A c (eval (.Call (.Attribute o name apos) args kws pos) env) Q E s := by
  rw [he]
  refine PySem.wpAt_bind (ks_wpAt_mono h (fun ov s₁ h₁ => PySem.wpAt_of_wpAny (wpAny_bind (wpAny_standAt (wpAny_bind (wpAny_holding (wpAny_mono h₁ (fun fx s₂ h₂ => ?_) fun _ _ x => x)))))) fun _ _ x => x)
  exact h₂

/-- super().m(es, kws) as a body -/
theorem fn_super {P : Program} {w : World} {K : PySem.W.Frag} {mg : Str → Option Value} {base : Heap} {N ps ps2 ks : List Str} {x me qual m : Str} {params : Arguments} {scope : Scope} {f cc C f2 : Addr} {fd fd2 : FuncData} {k n : Nat} {sp2 : Sp} {p0 p1 p2 p3 p4 : Pos} {e : Expr} {es : List Expr} {kws : List Keyword} {t tk : TA}
    {g : List Value → List Value → List Value} {gV : List V → List V → List V}
    (Sd : SupD P K x qual params [.Expr (.Call (.Attribute (.Call (.Name "super" p0) [] [] p1) m p2) (e :: es) kws p3) p4] scope cc f fd) (Sc : SupScope N ps scope me) (Cl : SupC K m cc C f2)
    (har : (params.posonlyargs ++ params.args).head?.map (·.arg) = some me)
    (F2 : FnOk P w K mg base (L2.CX P w) k f2 fd2 ps2 sp2) (hb2 : KBn K fd2 ps2 (n + 1) ks g gV) (hsup : mg "super" = none) (htop : (P.main.scope.names.lookup ("super" : Str)).isSome = false)
    (hm : (m == ("__class__" : Str)) = false) (hbi : bootBuiltins "super" = some (.type "super"))
    (ha : ∀ (X : Cx), X.N = N → X.env.scope = scope → PA X (e :: es) t) (hkw : ∀ (X : Cx), X.N = N → X.env.scope = scope → PK X kws tk)
    (hi : ∀ L cd, interactive (PySem.W.ksEnv qual scope L f cd cc) = false) (hs : ∀ L cd, swapsWith (.Call (.Attribute (.Call (.Name "super" p0) [] [] p1) m p2) (e :: es) kws p3) none p4.line (PySem.W.ksEnv qual scope L f cd cc) = pure false)
    (hcall : ∀ env : PySem.Env, ∃ pl : Sem Bool, eval (.Call (.Attribute (.Call (.Name "super" p0) [] [] p1) m p2) (e :: es) kws p3) env = (do
      let ov ← attributeBase (.Call (.Name "super" p0) [] [] p1) m env (eval (.Call (.Name "super" p0) [] [] p1) env)
      standAt p2.atName
      let (f, first) ← holding [ov] (getMethod ov m pl)
      callWith p3 f first (backTo p3 (starEach (e :: es) env)) (backToKw p3 (keywordEach kws env))))
    (hall : ∀ env, (backToKw p3 (keywordEach kws env)).all (·.1.isSome) = true) (hks : ∀ env, (backToKw p3 (keywordEach kws env)).filterMap (·.1) = ks)
    (he : ∀ env, starEach (e :: es) env = (false, eval e env) :: starEach es env) (hpl : ∀ env, ((backTo p3 (starEach (e :: es) env)).any (·.1) || (backToKw p3 (keywordEach kws env)).any (·.1.isNone)) = false) :
    FnOk P w K mg base (L2.CX P w) (k + 1) f fd ps (fun vs H Q E => vs.length = ps.length ∧ ∃ x dx fs, vs[0]? = some (.ref x) ∧ H x = some (.ins C dx fs) ∧
      t (vs.map some) H fun us H1 => tk (vs.map some) H1 fun zs H2 => us.length = n ∧ zs.length = ks.length ∧ sp2 (gV (.ref x :: us) zs) H2 (fun _ H3 => Q .non H3) E) := by
  refine ⟨fun vs H Q E h => h.1, fun A outer s H args us vs Q E hr e0 hb r hsp => ?_⟩
  obtain ⟨hl, xa, dx, fs, hv0, hx, hsp⟩ := hsp
  obtain ⟨oc, od, kV, doc, pm, an, cda, ct, osl, ccl, cdd, vsc, ccs, file, tf, rfl, lk, hcd, lkc, hvs, hfile⟩ := Sd.ex
  have KX : K.In s.heap := e0.mod.kin.keeps fun b o e => (e0.bs b o e).1
  have lim : s.heap.NoLimit := e0.mod.nolimit.keeps fun b o e => (e0.bs b o e).1
  have hloc : ∀ y ∈ ps.zip us, scope.names.lookup y.1 = some .local := fun ⟨n, v⟩ hy => Sc.par n (List.of_mem_zip hy).1
  refine ks_codeAny_call_defAt hr.depth (KX _ _ lk) rfl lim (PySem.W.codeRec_of KX hcd) rfl hb Sc.cel hloc (fun h1 hns hk => ?_) Sc.co Sc.gen Sc.kind
  show PySem.wpAt _ (A.deeper (PySem.W.ksEnv qual scope s.heap.objs.size f (.ref cda) cc)) (.func _ (PySem.W.ksEnv qual scope s.heap.objs.size f (.ref cda) cc)) (execs _ (PySem.W.ksEnv qual scope s.heap.objs.size f (.ref cda) cc)) _ _ _
  have I : Inv (cxS (L2.CX P w) P w K mg base N qual scope f (.ref cda) cc A outer s H E) [] (vs.map some) H { s with heap := h1, toks := s.toks + (ps.zip us).length } :=
    inv_startS Sc Cl hr.hd e0 hl r hns hk
  have hr1 : Room k (cxS (L2.CX P w) P w K mg base N qual scope f (.ref cda) cc A outer s H E).A := hr.deeper _
  refine ks_wpAt_mono (Q := fun fl s' => fl = .next ∧ EP (cxS (L2.CX P w) P w K mg base N qual scope f (.ref cda) cc A outer s H E) [] (vs.map some) (fun _ H3 => Q .non H3) .none s')
    (E := (cxS (L2.CX P w) P w K mg base N qual scope f (.ref cda) cc A outer s H E).xe) ?_ (fun fl s' hq => ?_) (fun e s' hq => hq)
  rotate_left
  · obtain ⟨rfl, v, H', J, rv, q⟩ := hq
    exact ⟨.non, H', J.os, J.bare, J.base, J.hok, rfl, q⟩
  refine ks_wpAt_execs_cons (ks_wpAt_Expr_any (ks_wpAt_mono (Q := fun _ s' => ∃ v, EP (cxS (L2.CX P w) P w K mg base N qual scope f (.ref cda) cc A outer s H E) [] (vs.map some) (fun _ H3 => Q .non H3) v s') ?_ (fun v s' hq => ?_) fun _ _ z => z) (hi _ _) (hs _ _))
  rotate_left
  · obtain ⟨u, v, H', J, rv, q⟩ := hq
    refine PySem.wpAt_of_wpAny ?_
    show wpAny _ _ (execs [] _) _ _ _
    rw [execs_nil]
    exact wpAny_pure ⟨rfl, .non, H', J, rfl, q⟩
  have KX1 := I.kIn
  obtain ⟨cl, cld, csl, hcell⟩ := Cl.cell
  obtain ⟨cdC, hcls⟩ := Cl.cls
  obtain ⟨ar, har1, har2⟩ := Option.map_eq_some_iff.mp har
  have hka : scope.names.lookup me = some .local := Sc.par me (List.mem_of_getElem? Sc.me)
  obtain ⟨m1, hns1, hml⟩ := I.loc
  have hself : m1 me = some (.ref xa) := by
    have h0 : N[0]? = some me := by rw [Sc.pre]; exact Sc.me
    obtain ⟨u, ru, lk⟩ := hml 0 me (.ref xa) h0 (by rw [List.getElem?_map, hv0]; rfl) (.inl hka)
    have ru : u = .ref xa := ru
    subst ru
    rcases lk with z | ⟨z, _⟩
    · exact z.2
    · have z : scope.names.lookup me = some .cell ∨ scope.names.lookup me = some .free := z
      rw [hka] at z
      rcases z with z | z <;> cases z
  have hio : h1.get? xa = some (PySem.W.instObj C dx) := (I.hok xa _ hx).2.2.2.1
  obtain ⟨oD, hD1, hD2, hDb⟩ : ∃ oD, h1.get? C = some oD ∧ oD.data = .cls cdC ∧ base.get? C = some oD := by
    unfold PySem.W.clsIn at hcls
    split at hcls
    · rename_i c d cd' sl ho
      cases hcls
      exact ⟨_, KX1 _ _ ho, rfl, e0.mod.kin _ _ ho⟩
    · cases hcls
  have hxC : xa ≠ C := by
    rintro rfl
    rw [(e0.bs _ _ hDb).2] at hx; cases hx
  obtain ⟨mb, hb1, hb2'⟩ := I.mod.blt
  obtain ⟨pl, hce⟩ := hcall (PySem.W.ksEnv qual scope s.heap.objs.size f (.ref cda) cc)
  refine at_MethodCallK (M := model P w) (pl := pl) ?_ hce
  refine ks_wpAt_super_base (env := PySem.W.ksEnv qual scope s.heap.objs.size f (.ref cda) cc) (ar := ar) Sc.su Sc.cl hm rfl (KX1 _ _ lk) rfl har1 rfl (KX1 _ _ lkc) rfl hvs hfile htop ?_
  rw [har2]
  refine PySem.W.ks_loadName_global Sc.kind Sc.su (Calls.loadGlobal_builtin (env := PySem.W.ksEnv qual scope s.heap.objs.size f (.ref cda) cc) (I.mod.glob.keeps I.bk) hsup (hb1.keeps I.bk) ((hb2' _ (by decide +kernel)).trans hbi) ⟨rfl, ?_⟩)
  refine wpAny_loadName_free Sc.kind Sc.cl rfl ⟨_, KX1 _ _ hcell, rfl⟩ ?_
  refine wpAny_loadName_local Sc.kind hka hns1 hself ?_
  refine ks_wpAny_isType_cls hD1 hD2 ⟨rfl, ?_⟩
  refine ks_wpAny_call_super hD1 hD2 hio rfl (fun c z => by cases z) (PySem.W.looks_mroIn KX1 Cl.sub) (fun h2 hso hk2 => ?_)
  have I2 : Inv (cxS (L2.CX P w) P w K mg base N qual scope f (.ref cda) cc A outer s H E) [] (vs.map some) H { s with heap := h2, toks := s.toks + (ps.zip us).length } := I.kept hk2
  obtain ⟨of, hof, hofc⟩ : ∃ of, h2.get? f2 = some of ∧ of.cls = .type "function" := by
    have ht' : (K.lookup f2).map (·.cls) = some (.type "function") := Cl.fn
    cases z : K.lookup f2 with
    | none => rw [z] at ht'; cases ht'
    | some of => rw [z] at ht'; exact ⟨of, I2.kIn _ _ z, Option.some.inj ht'⟩
  have hfind : PySem.W.alongIn K m ((cdC.mro.dropWhile (· != .ref C)).drop 1) = some (some (.ref f2)) := by
    have z := Cl.find
    unfold PySem.W.ks_superIn at z
    rw [hcls] at z
    exact z
  refine ks_wpAny_getMethod_super hso (PySem.W.looks_opaque I2.kIn Cl.any) (l₀ := cdC.mro) (fun A Q E s k q => wpAny_bind ((PySem.W.looks_clsIn I2.kIn hcls) A _ E s k (wpAny_pure q))) rfl I2.kIn hfind hof hofc hxC hm ?_
  have hq3 : (h2.push { cls := .type "method", data := .fields #[.ref f2, .ref xa] }).get? h2.objs.size = some (PySem.W.methodObj (.ref f2) (.ref xa)) := Heap.get?_push_at rfl rfl
  have I3 := (I2.kept (h' := h2.push { cls := .type "method", data := .fields #[.ref f2, .ref xa] }) (t' := s.toks + (ps.zip us).length + 1) (fun b o e => Heap.get?_push_of_some _ e)).pins_of (pins' := [(h2.objs.size, PySem.W.methodObj (.ref f2) (.ref xa))]) (fun p hp => by
    have e : p = (h2.objs.size, PySem.W.methodObj (.ref f2) (.ref xa)) := by simpa using hp
    subst e
    refine ⟨hq3, I2.hok.fresh (Nat.le_refl _), ?_, I2.nofs (Nat.le_refl _), fun v z => by cases z⟩
    exact Ne.symm (Nat.ne_of_lt I2.lt))
  dsimp only
  refine PySem.W.callWith_of (P := fun h => PySem.W.MethP K h2.objs.size f2 (.ref xa) h) (hpl _) (PySem.W.keeps_M Cl.fi) (evalArgs_kw2 (hall _) ?_ (he _))
  refine thn ((ha (cxS (L2.CX P w) P w K mg base N qual scope f (.ref cda) cc A outer s H E) rfl rfl).run p3 _ _ _ H _ I3 hsp) fun us1 s3 ⟨vs1, H1, I4, r1, q1⟩ => ?_
  refine thn ((hkw (cxS (L2.CX P w) P w K mg base N qual scope f (.ref cda) cc A outer s H E) rfl rfl).run p3 _ _ _ H1 _ I4 q1) fun ws1 s4 ⟨zs1, H2, I5, r2, l1, l2, q2⟩ => ?_
  have hmo := (I5.pin _ (List.mem_append_right _ List.mem_cons_self)).1
  refine ⟨⟨hmo, I5.kIn⟩, ?_⟩
  rw [hks]
  have r3 := hb2.rel (Paired.cons (show RelV (V.ref xa) (Value.ref xa) from rfl) r1) r2
  refine wpAny_call (ks_codeAny_call_bound hmo (codeAny_mono (F2.run _ _ s4 H2 ⟨.ref xa :: us1, ks.zip ws1⟩ (g (.ref xa :: us1) ws1) _ _ E hr1 I5.env0 (hb2.to s4 (.ref xa :: us1) ws1 I5.kIn (by rw [List.length_cons, ← r1.length, l1]) (r2.length.symm.trans l2)) r3 q2) fun rr s5 hq => ?_))
  cases rr with
  | error e => exact passes_call (takes_of rfl rfl rfl rfl) (fun _ _ _ _ h => h) _ _ _ _ _ _ I5 hq
  | ok fl =>
    cases fl with
    | ret u =>
      obtain ⟨v, H', I6, rv, q⟩ := I5.after hq
      exact ⟨_, v, H', I6.pins_of (fun p hp => by cases hp), rv, q⟩
    | next => exact False.elim hq
    | brk => exact False.elim hq
    | cont => exact False.elim hq
end L2.Fn
set_option maxRecDepth 100000
set_option maxHeartbeats 4000000
/-! FnJ: instances made, their fields written, super's promise. -/
namespace L2.Fn
open PySem PySem.Spec PyProof.Rows L2

/-- C(e, .., k = v, ..), the exceptions seen from the slots -/
def tMakeKS (C : Addr) (n m : Nat) (sp : Sp) (gV : List V → List V → List V) (E : St → XK) (t tk : TA) : TE := fun σ H Q => t σ H fun vs H1 => tk σ H1 fun zs H2 => vs.length = n ∧ zs.length = m ∧ ∀ x dx, H2 x = none → H2 dx = none → dx ≠ x →
  sp (gV (.ref x :: vs) zs) (upd (upd H2 dx (.own x)) x (.ins C dx [])) (fun v H3 => v = .non ∧ Q (.ref x) H3) (E σ)
section
variable {X : Cx} {CX : CXT} {k n : Nat} {f C : Addr} {fd : FuncData} {ps ks : List Str} {sp : Sp} {E : St → XK} {x : Str} {p pos : Pos} {e : Expr} {es : List Expr} {kws : List Keyword} {t tk : TA} {g : List Value → List Value → List Value} {gV : List V → List V → List V}
theorem run_makeKS {pins : List (Addr × Obj)} {σ : St} {H : Hp} {s : Shared} {Q : VK} {us ws : List Value} {vs zs : List V} (M : Mk X.K C f) (F : FnOk X.prog X.w X.K X.mg X.base CX k f fd ps sp) (hr : Room (k + 1) X.A) (hb : KBn X.K fd ps (n + 1) ks g gV) (hx : PassesAt CX X σ (E σ))
    (I : Inv X pins σ H s) (r : Vals vs us) (rz : Vals zs ws) (l1 : vs.length = n) (l2 : zs.length = ks.length)
    (h : ∀ x dx, H x = none → H dx = none → dx ≠ x → sp (gV (.ref x :: vs) zs) (upd (upd H dx (.own x)) x (.ins C dx [])) (fun v H2 => v = .non ∧ Q (.ref x) H2) (E σ)) :
    wpAny (model X.prog X.w) X.A (call (.ref C) us (ks.zip ws)) (EP X pins σ Q) X.xe s := by
  have hq := h (s.heap.objs.size + 1) s.heap.objs.size (I.hok.fresh (Nat.le_succ _)) (I.hok.fresh (Nat.le_refl _)) (Nat.ne_of_lt (Nat.lt_succ_self _))
  have I2 := Inv.made (C := C) I
  have r1 : Vals (V.ref (s.heap.objs.size + 1) :: vs) (Value.ref (s.heap.objs.size + 1) :: us) := .cons rfl r
  have r2 := hb.rel r1 rz
  have n1 : (Value.ref (s.heap.objs.size + 1) :: us).length = n + 1 := by
    rw [List.length_cons, ← r.length, l1]
  refine wpAny_call (make_map (f := f) I.kIn M.makes M.init (beq_iff_eq.mp M.fn) (codeAny_mono (F.run _ X.stack _ _ ⟨Value.ref (s.heap.objs.size + 1) :: us, ks.zip ws⟩ (g (Value.ref (s.heap.objs.size + 1) :: us) ws) _ _ (E σ) (hr.make C us (ks.zip ws))
    (I2.env0.make C us (ks.zip ws)) (hb.to _ (Value.ref (s.heap.objs.size + 1) :: us) ws I2.kIn n1 (rz.length.symm.trans l2)) r2 hq) fun r s' hq' => ?_))
  cases r with
  | error e => exact hx pins _ _ e s' I2 hq'
  | ok fl =>
    cases fl with
    | ret u =>
      obtain ⟨v, H', I3, rv, ev, q3⟩ := I2.after hq'
      subst ev
      exact ⟨rv, ⟨V.ref (s.heap.objs.size + 1), H', I3, rfl, q3⟩⟩
    | next => exact False.elim hq'
    | brk => exact False.elim hq'
    | cont => exact False.elim hq'
theorem pe_makeKS (M : Mk X.K C f) (F : FnOk X.prog X.w X.K X.mg X.base CX k f fd ps sp) (hr : Room (k + 1) X.A) (hg : Gl X x) (hm : X.mg x = some (.ref C)) (hb : KBn X.K fd ps (n + 1) ks g gV) (hx : ∀ σ, PassesAt CX X σ (E σ)) (ha : PA X (e :: es) t) (hkw : PK X kws tk)
    (hall : (backToKw pos (keywordEach kws X.env)).all (·.1.isSome) = true := by rfl) (hks : (backToKw pos (keywordEach kws X.env)).filterMap (·.1) = ks := by rfl) (hdb : (x == ("__debug__" : Str)) = false := by decide)
    (he : starEach (e :: es) X.env = (false, eval e X.env) :: starEach es X.env := by rfl) (hpl : ((backTo pos (starEach (e :: es) X.env)).any (·.1) || (backToKw pos (keywordEach kws X.env)).any (·.1.isNone)) = false := by rfl) :
    PE X (.Call (.Name x p) (e :: es) kws pos) (tMakeKS C n ks.length sp gV E t tk) := by
  refine ⟨fun pins s σ H Q I h => ?_⟩
  refine wpAny_Call_Name_kw (ld_glob I hg hm ?_ hdb)
  refine PySem.W.callWith_KW (h₀ := X.base) I.ok.mod.kin M.kp hall (thn (ha.run pos pins s σ H _ I h) fun us s1 ⟨vs, H1, I1, r, q⟩ => ?_) hpl he
  refine thn (hkw.run pos pins s1 σ H1 _ I1 q) fun ws s2 ⟨zs, H2, I2, rz, l1, l2, q2⟩ => ⟨I2.kIn, ?_⟩
  rw [hks]
  exact run_makeKS M F hr hb (hx σ) I2 r rz l1 l2 q2
end

/-! ### what a callee that owns new objects alone leaves -/
section
variable {K : PySem.W.Frag} {cm : Wd} {F F' : Hp} {σ τ : St} {H H2 H' : Hp} {ρ ss ss' : Slots}
theorem post_sub (R : Rel K cm F σ H ρ) (hs : ∀ a o, H a = some o → H2 a = some o) (hn : ∀ a, owns τ ss a → H a = none) (p : Post K cm pinAll F τ H2 ss F' τ H' ss') : Post K cm pinAll F σ H ρ F' σ H' ρ := by
  have up : ∀ a o, H a = some o → H' a = some o := fun a o h => p.keep a o (hs a o h) fun z => by rw [hn a z] at h; cases h
  have lm : ∀ a, F' a ≠ none → F a ≠ none ∨ H a = none := fun a h => by
    rcases p.lim a h with z | z | z
    · exact .inl z
    · exact .inr (hn a z)
    · refine .inr ?_
      cases e : H a with
      | none => rfl
      | some o => rw [hs a o e] at z; cases z
  refine ⟨⟨R.len, p.rel.sub, fun i s h1 h2 => ?_, R.sep⟩, p.mono, fun a h => ?_, fun a o h _ => up a o h, fun a h => .inl h, fun _ _ => rfl, rfl⟩
  · obtain ⟨v, h3, h4⟩ := R.slot i s h1 h2
    refine ⟨v, h3, ?_⟩
    cases h4 with
    | val r => exact .val (r.mono p.mono)
    | err q r => exact .err (fun b o h => p.mono b o (q b o h)) r
    | @own a o s h5 h6 h7 =>
      refine .own (up a o h5) ?_ (h7.mono p.mono)
      cases e : F' a with
      | none => rfl
      | some u =>
        rcases lm a (by rw [e]; simp) with z | z
        · exact absurd h6 z
        · rw [h5] at z; cases z
  · rcases lm a h with z | z
    · exact .inl z
    · exact .inr (.inr z)
theorem rel_new {x dx : Addr} {C : Str} {vs : List V} {ds : List D} (R : Rel K cm F σ H ρ) (hx : H x = none) (hd : H dx = none) (hne : dx ≠ x) (r : RepL K cm F vs ds) :
    Rel K cm F ((V.ref x :: vs).map some) (upd (upd H dx (.own x)) x (.ins (cm C) dx [])) (.ins C [] :: ds.map .val) := by
  have own0 : ∀ i a, ownAt ((V.ref x :: vs).map some) (.ins C [] :: ds.map .val) i a → i = 0 := fun i a ⟨s, h1, h2, _⟩ => by
    cases i with
    | zero => rfl
    | succ i =>
      rw [List.getElem?_cons_succ, List.getElem?_map] at h1
      cases q : ds[i]? with
      | none => rw [q] at h1; cases h1
      | some d => rw [q] at h1; cases h1; cases h2
  refine ⟨by simp [r.length], fun a o h => ?_, fun i s h1 h2 => ?_, fun i j a h1 h2 => (own0 i a h1).trans (own0 j a h2).symm⟩
  · have e := R.sub a o h
    rw [upd_ne (ne_of_none e hx), upd_ne (ne_of_none e hd)]; exact e
  · cases i with
    | zero => cases h1; exact ⟨_, rfl, .own upd_same (R.noF hx) (.ins .nil)⟩
    | succ i =>
      rw [List.getElem?_cons_succ, List.getElem?_map] at h1
      cases q : ds[i]? with
      | none => rw [q] at h1; cases h1
      | some d =>
        rw [q] at h1; cases h1
        obtain ⟨v, e1, e2⟩ := r.get q
        exact ⟨v, by simp [e1], .val e2⟩
end

/-- keyword values as data -/
structure KE' (X : Cx) (cm : Wd) (W : WX) (kws : List Keyword) (t : TA) (m : ME (List D)) : Prop where
  pk : PK X kws t
  sim : Sim X.K cm W (RDs X.K cm) t m
section
variable {X : Cx} {cm : Wd} {W : WX} {P : Nat → Bool} {e a b c : Expr} {es : List Expr} {kws : List Keyword} {t ta tb tc : TE} {ts tk : TA} {m ma mb mc : ME D} {pos p kpos : Pos} {nm : Option Str}
theorem ke_nil : KE' X cm W [] tNil mNil := ⟨pk_nil, fun ρ r e F σ H Q hr hp => by cases ret_ok e; exact hp [] F H (Post.refl hr) .nil⟩
theorem ke_cons {ms : ME (List D)} (ha : DE X cm W a ta ma) (hs : KE' X cm W kws ts ms) : KE' X cm W (⟨nm, a, kpos⟩ :: kws) (tCons ta ts) (mCons ma ms) := by
  refine ⟨pk_cons ha.pe hs.pk, fun ρ r e F σ H Q hr hp => ?_⟩
  refine ha.sim.step e hr hp fun d ρ1 v F1 H1 e1 p1 r1 => ?_
  refine hs.sim.step e1 p1.rel (hp.trans tr_Ds p1) fun ds ρ2 vs F2 H2 e2 p2 r2 => ?_
  cases ret_ok e2
  exact hp _ F2 H2 (p1.trans p2) (.cons (Rep.mono p2.mono r1) r2)
/-- C(e, .., k = v, ..): what __init__ made of the new instance -/
def mMakeR (C : Str) (f : Fun') (ds : List D) : ME S := fun ρ => match f (.ins C [] :: ds.map .val) with
  | some (.ret (.val .non) (.ins C' fs :: _)) => if C' = C then some (.ok (.ins C fs) ρ) else none
  | some (.exc E fs _) => some (.ex E fs ρ)
  | _ => none
def mMakeK (C : Str) (f : Fun') (n m : Nat) (ms mk : ME (List D)) : ME S := ms.bnd fun ds => mk.bnd fun ks ρ => if ds.length = n ∧ ks.length = m then mMakeR C f (ds ++ ks) ρ else none
theorem oe_makeK {C x : Str} {f : Fun'} {fi : Addr} {fd : FuncData} {ps ks : List Str} {k n : Nat} {ms mk : ME (List D)} {g : List Value → List Value → List Value} (M : Mk X.K (cm C) fi) (Fk : FnOk X.prog X.w X.K X.mg X.base (L2.CX X.prog X.w) k fi fd ps (spOf X.K cm (n + 1 + ks.length) f)) (hr : Room (k + 1) X.A) (hg : Gl X x) (hm : X.mg x = some (.ref (cm C)))
    (hb : KBn X.K fd ps (n + 1) ks g fun vs zs => vs ++ zs) (tk' : Takes X W) (hs : AE X cm W (e :: es) ts ms) (hk : KE' X cm W kws tk mk)
    (hall : (backToKw pos (keywordEach kws X.env)).all (·.1.isSome) = true := by rfl) (hks : (backToKw pos (keywordEach kws X.env)).filterMap (·.1) = ks := by rfl) (hdb : (x == ("__debug__" : Str)) = false := by decide)
    (he : starEach (e :: es) X.env = (false, eval e X.env) :: starEach es X.env := by rfl) (hpl : ((backTo pos (starEach (e :: es) X.env)).any (·.1) || (backToKw pos (keywordEach kws X.env)).any (·.1.isNone)) = false := by rfl) :
    OE X cm W (.Call (.Name x p) (e :: es) kws pos) (tMakeKS (cm C) n ks.length (spOf X.K cm (n + 1 + ks.length) f) (fun vs zs => vs ++ zs) (WE W) ts tk) (mMakeK C f n ks.length ms mk) := by
  refine ⟨pe_makeKS M Fk hr hg hm hb (fun σ => passAt tk' σ) hs.pa hk.pk hall hks hdb he hpl, fun ρ r e F σ H Q hr hp => ?_⟩
  refine hs.sim.step e hr hp fun ds ρ1 vs F1 H1 e1 p1 r1 => ?_
  refine hk.sim.step e1 p1.rel (hp.trans tr_O p1) fun kd ρ2 zs F2 H2 e2 p2 r2 => ?_
  split at e2
  rotate_left
  · cases e2
  rename_i hl
  have r1' : RepL X.K cm F1 vs ds := r1
  have r2' : RepL X.K cm F2 zs kd := r2
  have p := p1.trans p2
  have hp2 := hp.trans tr_O p
  refine ⟨by rw [r1'.length]; exact hl.1, by rw [r2'.length]; exact hl.2, fun q dq n1 n2 n3 => ?_⟩
  have ra : RepL X.K cm F2 (vs ++ zs) (ds ++ kd) := (RepL.mono p2.mono r1').append r2'
  have R2 := rel_new (C := C) p.rel n1 n2 n3 ra
  have hsub : ∀ a o, H2 a = some o → upd (upd H2 dq (.own q)) q (.ins (cm C) dq []) a = some o := fun a o h => by rw [upd_ne (ne_of_none h n1), upd_ne (ne_of_none h n2)]; exact h
  have hnew : ∀ a, owns ((V.ref q :: (vs ++ zs)).map some) (.ins C [] :: (ds ++ kd).map .val) a → H2 a = none := fun a ⟨i, s, h1, h2, h3⟩ => by
    cases i with
    | zero => cases h3; exact n1
    | succ i =>
      rw [List.getElem?_cons_succ, List.getElem?_map] at h1
      cases q : (ds ++ kd)[i]? with
      | none => rw [q] at h1; cases h1
      | some d => rw [q] at h1; cases h1; cases h2
  unfold mMakeR at e2
  suffices hh : ∃ c, f (.ins C [] :: (ds ++ kd).map .val) = some c ∧ CPost X.K cm F2 ((V.ref q :: (vs ++ zs)).map some) (upd (upd H2 dq (.own q)) q (.ins (cm C) dq [])) (.ins C [] :: (ds ++ kd).map .val) (fun v H3 => v = .non ∧ Q (.ref q) H3) (WE W σ) c by
    obtain ⟨c, h1, h2⟩ := hh
    exact ⟨by show (V.ref q :: vs ++ zs).length = _; simp [r1'.length, r2'.length, hl.1, hl.2]; omega, F2, _, c, R2, h1, h2⟩
  split at e2
  · rename_i C' fs ss' q2
    split at e2
    · rename_i ec
      subst ec
      cases e2
      refine ⟨_, q2, fun v F' H' pp rr => ⟨?_, ?_⟩⟩
      · cases rr.1.of_val; rfl
      · have ps := post_sub p.rel hsub hnew pp
        obtain ⟨v0, h1, h2⟩ := pp.rel.slot 0 _ rfl (by simp)
        cases h1
        refine hp2 _ F' H' ps ⟨h2, fun a e o => ?_⟩
        cases e
        exact ⟨fun z => (p.rel.owned' z).1 n1, .inr n1⟩
    · cases e2
  · rename_i E fs ss' q2
    cases e2
    exact ⟨_, q2, fun od F' H' pp rr => hp2 od F' H' (post_sub p.rel hsub hnew pp) rr⟩
  · cases e2

/-! ### self.f = e -/
def putD' (f : Str) (v : D) : List (Str × D) → List (Str × D)
  | [] => [(f, v)]
  | (g, x) :: r => if g = f then (g, v) :: r else (g, x) :: putD' f v r
theorem RepF.put {K : PySem.W.Frag} {cl : Str → Addr} {F : Hp} {vs : List (Str × V)} {ds : List (Str × D)} {f : Str} {v : V} {d : D} (h : RepF K cl F vs ds) (r : Rep K cl F v d) : RepF K cl F (putF f v vs) (putD' f d ds) := by
  induction vs generalizing ds with
  | nil => cases h; exact .cons r .nil
  | cons w vs ih =>
    cases h with
    | @cons k v' d' vs ds' a b =>
      unfold putF putD'
      by_cases q : k = f
      · rw [if_pos q, if_pos q]; exact .cons r b
      · rw [if_neg q, if_neg q]; exact .cons a (ih b)
def sFldN (L : List Str) (f : Str) (i : Nat) (m : ME D) : MS := m.thn fun d ρ => match ρ[i]? with
  | some (.ins C fs) => if C ∈ L ∧ fs.length < 1000 then some (.nx (ρ.set i (.ins C (putD' f d fs)))) else none
  | _ => none
theorem se_fldN {L : List Str} {f x : Str} {i : Nat} {px p' : Pos} (hL : FldOk X.K cm L f) (hN : X.N[i]? = some x) (hv : Vis X.env.scope x) (ha : DE X cm W a ta ma) (hd : (x == ("__debug__" : Str)) = false := by decide) (hcd : (x == ("__classdict__" : Str)) = false := by decide)
    (hs : swapsWith a (some (.Attribute (.Name x px) f p')) pos.line X.env = pure false := by rfl) : SE X cm W P (.Assign [.Attribute (.Name x px) f p'] a pos) (sFld X.K (tVar i) ta f) (sFldN L f i ma) := by
  refine ⟨ps_fld (pe_var hN hv hd hcd) ha.pe hs, fun ρ r e F σ H D hr hp => ?_⟩
  refine ha.sim.stepS e hr hp fun d ρ1 v F1 H1 e1 p1 r1 => ?_
  split at e1
  · rename_i C fs q
    split at e1
    · rename_i hc
      cases e1
      obtain ⟨v0, h2, h3⟩ := p1.rel.slot i _ q (by simp)
      obtain ⟨a, o, rfl, h4, h5, h6⟩ := h3.of_own rfl
      cases h6 with
      | @ins _ dx _ _ rf =>
        refine ⟨_, h2, a, _, _, _, rfl, h4, (hL _ hc.1).1, (hL _ hc.1).2, by rw [rf.length]; exact hc.2, ?_⟩
        have p2 := Post.write (P := P) (s' := .ins C (putD' f d fs)) p1.rel q rfl h2 (RepO.ins (C := C) (dx := dx) (rf.put (f := f) r1))
        exact hp _ σ _ (p1.any.trans p2)
    · cases e1
  · cases e1

/-! ### super().__init__ -/
def fnSup (C : Str) (f : Fun') : Fun' := fun ss => match ss with
  | .ins C' fs :: _ => if C' = C then (match f ss with
    | some (.ret _ ss') => some (.ret (.val .non) ss')
    | r => r) else none
  | _ => none
theorem fn_sup4 {P : Program} {w : World} {K : PySem.W.Frag} {cm : Wd} {mg : Str → Option Value} {base : Heap} {ps2 : List Str} {x s0 s1 s2 s3 m qual : Str} {params : Arguments} {scope : Scope} {f cc f2 : Addr} {C : Str} {fd fd2 : FuncData} {k : Nat} {f' : Fun'} {p0 p1 p2 p3 p4 q1 q2 q3 q4 : Pos}
    {g : List Value → List Value → List Value}
    (Sd : SupD P K x qual params [.Expr (.Call (.Attribute (.Call (.Name "super" p0) [] [] p1) m p2) [.Name s1 q1, .Name s2 q2] [⟨some s3, .Name s3 q3, q4⟩] p3) p4] scope cc f fd) (Sc : SupScope [s0, s1, s2, s3] [s0, s1, s2, s3] scope s0) (Cl : SupC K m cc (cm C) f2)
    (har : (params.posonlyargs ++ params.args).head?.map (·.arg) = some s0)
    (F2 : FnOk P w K mg base (L2.CX P w) k f2 fd2 ps2 (spOf K cm 4 f')) (hb2 : KBn K fd2 ps2 3 [s3] g fun vs zs => vs ++ zs) (hsup : mg "super" = none) (htop : (P.main.scope.names.lookup ("super" : Str)).isSome = false)
    (hm : (m == ("__class__" : Str)) = false) (hbi : bootBuiltins "super" = some (.type "super"))
    (hi : ∀ L cd, interactive (PySem.W.ksEnv qual scope L f cd cc) = false) (hs : ∀ L cd, swapsWith (.Call (.Attribute (.Call (.Name "super" p0) [] [] p1) m p2) [.Name s1 q1, .Name s2 q2] [⟨some s3, .Name s3 q3, q4⟩] p3) none p4.line (PySem.W.ksEnv qual scope L f cd cc) = pure false)
    (hcall : ∀ env : PySem.Env, ∃ pl : Sem Bool, eval (.Call (.Attribute (.Call (.Name "super" p0) [] [] p1) m p2) [.Name s1 q1, .Name s2 q2] [⟨some s3, .Name s3 q3, q4⟩] p3) env = (do
      let ov ← attributeBase (.Call (.Name "super" p0) [] [] p1) m env (eval (.Call (.Name "super" p0) [] [] p1) env)
      standAt p2.atName
      let (f, first) ← holding [ov] (getMethod ov m pl)
      callWith p3 f first (backTo p3 (starEach [.Name s1 q1, .Name s2 q2] env)) (backToKw p3 (keywordEach [⟨some s3, .Name s3 q3, q4⟩] env))))
    (hall : ∀ env, (backToKw p3 (keywordEach [⟨some s3, .Name s3 q3, q4⟩] env)).all (·.1.isSome) = true) (hks : ∀ env, (backToKw p3 (keywordEach [⟨some s3, .Name s3 q3, q4⟩] env)).filterMap (·.1) = [s3])
    (he : ∀ env, starEach [.Name s1 q1, .Name s2 q2] env = (false, eval (.Name s1 q1) env) :: starEach [.Name s2 q2] env) (he2 : ∀ env, starEach [.Name s2 q2] env = (false, eval (.Name s2 q2) env) :: starEach [] env) (hpl : ∀ env, ((backTo p3 (starEach [.Name s1 q1, .Name s2 q2] env)).any (·.1) || (backToKw p3 (keywordEach [⟨some s3, .Name s3 q3, q4⟩] env)).any (·.1.isNone)) = false)
    (hd : ∀ y ∈ [s1, s2, s3], (y == ("__debug__" : Str)) = false ∧ (y == ("__classdict__" : Str)) = false) :
    FnOk P w K mg base (L2.CX P w) (k + 1) f fd [s0, s1, s2, s3] (spOf K cm 4 (fnSup C f')) := by
  have vis : ∀ (X : Cx), X.env.scope = scope → ∀ y ∈ [s0, s1, s2, s3], Vis X.env.scope y := fun X e y hy => .inl (by rw [e]; exact Sc.par y hy)
  have F3 := fn_super (t := tCons (tVar 1) (tCons (tVar 2) tNil)) (tk := tCons (tVar 3) tNil) (n := 2) Sd Sc Cl har F2 hb2 hsup htop hm hbi
    (fun X eN eS => pa_cons (pe_var (by rw [eN]; rfl) (vis X eS s1 (by simp)) (hd s1 (by simp)).1 (hd s1 (by simp)).2) (pa_cons (pe_var (by rw [eN]; rfl) (vis X eS s2 (by simp)) (hd s2 (by simp)).1 (hd s2 (by simp)).2) pa_nil (he2 _)) (he _))
    (fun X eN eS => pk_cons (pe_var (by rw [eN]; rfl) (vis X eS s3 (by simp)) (hd s3 (by simp)).1 (hd s3 (by simp)).2) pk_nil) hi hs hcall hall hks he hpl
  refine F3.imp fun vs H Q E h => ?_
  obtain ⟨hl, F, ss, r, R, e, hp⟩ := h
  match vs, hl with
  | [v0, v1, v2, v3], _ =>
    match ss, R.len with
    | [t0, t1, t2, t3], _ =>
      unfold fnSup at e
      split at e
      · rename_i C' fs rest eq
        cases eq
        split at e
        · rename_i ec
          subst ec
          obtain ⟨v, h1, h2⟩ := R.slot 0 _ rfl (by simp)
          cases h1
          obtain ⟨a, o, rfl, h4, h5, h6⟩ := h2.of_own rfl
          cases h6 with
          | ins rf =>
            refine ⟨rfl, a, _, _, rfl, h4, v1, rfl, v2, rfl, v3, rfl, rfl, rfl, rfl, F, [.ins C' fs, t1, t2, t3], ?_⟩
            cases q : f' [.ins C' fs, t1, t2, t3] with
            | none => rw [q] at e; cases e
            | some z =>
              rw [q] at e
              refine ⟨z, R, rfl, ?_⟩
              cases z with
              | ret s ss' =>
                cases e
                exact fun v F' H' p x => hp .non F' H' p ⟨.val .non, fun _ _ z => by cases z⟩
              | exc E fs ss' =>
                cases e
                exact hp
        · cases e
      · cases e
end
end L2.Fn
set_option maxRecDepth 100000
set_option maxHeartbeats 4000000
/-! FnK: a list or a tuple walked, enumerate of both. -/
namespace L2.Fn
open PySem PySem.Spec PyProof.Rows L2

section
open Builtin AutoSeq1
theorem meets_enumT (l : Addr) (items : Array Value) (n : Nat) (dct : Option Addr) (sl : Array (Option Value)) :
    Meets (Builtin.«enumerate.__new__» ⟨[.type "enumerate", .ref l], []⟩) (fun _ R s => s.heap.get? l = some { cls := .type "tuple", dict := dct, data := .seq items n, slots := sl } ∧
      R (.ok (.ret (.ref (s.heap.push { cls := .type "tuple_iterator", data := .fields #[.ref l, .int 0 0] }).objs.size)))
        { s with heap := (s.heap.push { cls := .type "tuple_iterator", data := .fields #[.ref l, .int 0 0] }).push { cls := .type "enumerate", data := .fields #[.none, .bool false, .ref s.heap.objs.size, rawInt 0, .none, .none] } }) :=
  .of_wp fun prog w A R s ⟨hl, h⟩ => by
    obtain ⟨hp, g, d, tk, os⟩ := s
    have hL : hp.IsTuple l items := ⟨_, hl, rfl, n, rfl⟩
    have hsub := PySem.sub_enumerate
    wp_walk using wpAny_loadPart' hl
    refine wpAny_stack_any fun st => wpAny_pure ?_
    split
    · rename_i c _ _ _ _ _
      cases (c == Value.type "enumerate")
      · wp_walk using wpAny_loadPart' hl, wpAny_pyIter_tuple hL
        exact ⟨_, rfl, h⟩
      · wp_walk using wpAny_loadPart' hl, wpAny_pyIter_tuple hL
        exact ⟨_, rfl, h⟩
    · wp_walk using wpAny_loadPart' hl, wpAny_pyIter_tuple hL
      exact ⟨_, rfl, h⟩
end
section
variable {prog : Program} {w : World} {A : Around} {E : Value → Shared → Prop} {s : Shared}
theorem call_enumT {l : Addr} {items : Array Value} {Q : Value → Shared → Prop} (hL : s.heap.IsTuple l items)
    (h : ∀ h', IsEnum h' (s.heap.objs.size + 1) s.heap.objs.size 0 .none → h'.IsTupleIter s.heap.objs.size l 0 → h'.objs.size = s.heap.objs.size + 2 →
      (∀ b o, s.heap.get? b = some o → h'.get? b = some o) → Q (.ref (s.heap.objs.size + 1)) { s with heap := h' }) :
    wpAny (model prog w) A (call (.type "enumerate") [.ref l]) Q E s := by
  obtain ⟨⟨c, dct, dt, sl⟩, hl, hc, n, hd⟩ := hL
  replace hc : c = .type "tuple" := hc
  replace hd : dt = .seq items n := hd
  subst hc hd
  refine callType_new F.called_enumerate (by decide) (F.typeCall_enumerate_1 _) (F.newCall_enumerate_1 _) (fun obj => F.args_object_init_2 obj _) F.entry_enumerate_new
    (meets_enumT l items n dct sl) ⟨hl, ?_⟩
  have hz : (s.heap.push { cls := .type "tuple_iterator", data := .fields #[.ref l, .int 0 0] }).objs.size = s.heap.objs.size + 1 := Heap.size_push ..
  show _ ∧ _
  rw [hz]
  have he : IsEnum ((s.heap.push { cls := .type "tuple_iterator", data := .fields #[.ref l, .int 0 0] }).push
      { cls := .type "enumerate", data := .fields #[.none, .bool false, .ref s.heap.objs.size, rawInt 0, .none, .none] }) (s.heap.objs.size + 1) s.heap.objs.size 0 .none := by
    have := Heap.get?_push_size (s.heap.push { cls := .type "tuple_iterator", data := .fields #[.ref l, .int 0 0] })
      (o := { cls := .type "enumerate", data := .fields #[.none, .bool false, .ref s.heap.objs.size, rawInt 0, .none, .none] }) rfl
    rw [hz] at this; exact this
  refine ⟨⟨_, he, rfl⟩, h _ he ⟨_, Heap.get?_push_of_some _ (Heap.get?_push_size _ rfl), rfl, rfl⟩ (by rw [Heap.size_push, hz]) fun b o x => Heap.get?_push_of_some _ (Heap.get?_push_of_some _ x)⟩
end

theorem enumT_end {prog : Program} {w : World} {A : Around} {E : Value → Shared → Prop} {s : Shared} {e it a : Addr} {items : Array Value} {i : Nat} {j : Int} {old : Value} {Q : Option Value → Shared → Prop} (hh : A.handled = none)
    (he : IsEnum s.heap e it j old) (hit : s.heap.IsTupleIter it a i) (ht : s.heap.IsTuple a items) (hx : items[i]? = none)
    (hQ : ∀ h', Heap.ExtBut it s.heap h' → Q none { s with heap := h' }) : wpAny (model prog w) A (pyNext (.ref e)) Q E s := by
  have hT : s.TypeIs (.ref e) "enumerate" := ⟨_, he, rfl⟩
  unfold pyNext
  refine wpAny_bind (wpAny_attempt (wpAny_callSpecial?_slot (name := Str.ofString "__next__") hT F.slot_enumerate_next
    (wpAny_call_entry F.slot_enumerate_next hT F.entry_enumerate_next ?_ (F.args_enumerate_next_1 _))))
  show wpAny _ _ (field (.ref e) 2 >>= _) _ _ _
  refine wpAny_bind (wpAny_field he rfl (x := .ref it) rfl ?_)
  refine wpAny_bind (wpAny_nextOf_tuple_end hh hit ht hx fun h' x he' hx' => ?_)
  obtain ⟨o, ho, hc⟩ := hx'
  refine wpAny_bind (wpAny_isInstance (T := "StopIteration") (b := true) ⟨o, ho, hc⟩ isSubtype_stop ?_)
  exact wpAny_pure (hQ _ he')

def Itet (K : PySem.W.Frag) (a : Addr) : It :=
  ⟨fun i H => ∃ (xs : List V) (x : V), SqT K H a xs ∧ xs[i]? = some x, fun i H v H' => ∃ T x, v = .ref T ∧ H T = none ∧ H' = upd H T (.tup [.int (i : Nat), x]) ∧ ∀ xs, SqT K H a xs → xs[i]? = some x, fun i H => ∃ xs : List V, SqT K H a xs ∧ xs.length ≤ i⟩
theorem turn_enumT {P : Program} {w : World} {K : PySem.W.Frag} {elts : List Expr} {kk : Nat} {tpos : Pos} (a e it : Addr) :
    Turn P w K (.Tuple elts kk tpos) (Itet K a) [e, it] e (fun i h => (∃ old, IsEnum h e it ((i : Nat) : Int) old) ∧ h.IsTupleIter it a i ∧ e ≠ it) where
  mem := by simp
  obj := fun i h st b hb => by
    obtain ⟨⟨old, he⟩, ⟨o, ho, hc, hd⟩, _⟩ := st
    have e' : b = e ∨ b = it := by simpa using hb
    rcases e' with z | z
    · rw [z]; exact ⟨_, he, fun v q => nomatch q⟩
    · rw [z]; exact ⟨o, ho, fun v q => by rw [hd] at q; cases q⟩
  keep := fun i h h' st k => let ⟨⟨old, he⟩, hi, hne⟩ := st; ⟨⟨old, k e (by simp) _ he⟩, hi.at fun o q => k it (by simp) o q, hne⟩
  item := by
    intro X hP hw hK hc i pins s σ H E I hf st hg
    subst hP hw hK
    obtain ⟨⟨old, he⟩, hit, hne⟩ := st
    obtain ⟨xs, x, hq, hx⟩ := hg
    obtain ⟨its, rv, p, hz⟩ := I.tuple hq
    obtain ⟨u, hu, ru⟩ := rv.get hx
    have p : s.heap.IsTuple a its.toArray := p
    have hel : e < s.heap.objs.size := Heap.lt_size he
    have hil : it < s.heap.objs.size := by obtain ⟨_, q, _⟩ := hit; exact Heap.lt_size q
    have hait : a ≠ it := by
      rintro rfl
      obtain ⟨o1, e1, _, d1⟩ := hit
      obtain ⟨o2, e2, _, n, d2⟩ := p
      rw [e1] at e2; cases e2; rw [d1] at d2; cases d2
    have hae : e ≠ a := by
      rintro rfl
      obtain ⟨o2, e2, _, n, d2⟩ := p
      rw [he] at e2; cases e2; cases d2
    refine wpAny_pyNext_enum_itemD (Draws.tuple (show X.A.in1.handled = none from I.ok.hd hc) it a hait its.toArray) he ⟨hit, p⟩ (by
      obtain ⟨q, _⟩ := List.getElem?_eq_some_iff.mp hu; simpa using q) hne (by simp [hne, hae]) fun y h' tk hy ho hit' hT hsz hk => ?_
    have ey : y = u := by
      have hy : its.toArray[i]? = some y := hy
      rw [List.getElem?_toArray, hu] at hy; exact (Option.some.inj hy).symm
    subst ey
    refine ⟨_, rfl, wpAny_letOwnedTupleGo_enum (s := { s with heap := h', toks := tk + 1 }) ho fun h'' he' sb => ?_⟩
    have hT2 : h''.get? s.heap.objs.size = some { cls := .type "tuple", data := .seq #[.int i tk, y] } := (sb.2 _ (Nat.ne_of_gt hel)).trans hT
    have new : ObjOk X.prog X.w (upd H s.heap.objs.size (.tup [.int (i : Nat), x])) h'' s.heap.objs.size (.tup [.int (i : Nat), x]) :=
      ⟨by show 2 ≤ sizeLine; decide, [.int i tk, y], .cons ⟨_, rfl⟩ (.cons ru .nil), ⟨_, hT2, rfl, _, rfl⟩⟩
    have I1 : Inv X pins σ (upd H s.heap.objs.size (.tup [.int (i : Nat), x])) { s with heap := h'', toks := tk + 1 } :=
      I.turnedNew (ch := [e, it]) (fun b ob hb q => (sb.2 b (fun z => hb (by simp [z]))).trans (hk b ob (fun z => hb (by simp [z])) (fun z => hb (by simp [z])) q)) hf (Nat.le_refl _) new
    refine ⟨.ref s.heap.objs.size, _, I1, rfl, ⟨_, x, rfl, I.hok.fresh (Nat.le_refl _), rfl, fun ys hy => by rw [I.tuple_inj hy hq]; exact hx⟩, ⟨⟨y, ?_⟩, hit'.1.at fun o q => (sb.2 it (Ne.symm hne)).trans q, hne⟩, fun b hb => ?_⟩
    · have e1 : ((i + 1 : Nat) : Int) = (i : Int) + 1 := by omega
      rw [e1]; exact he'
    · have hb' : b < s.heap.objs.size := by
        have e' : b = e ∨ b = it := by simpa using hb
        rcases e' with z | z
        · rw [z]; exact hel
        · rw [z]; exact hil
      rw [upd_ne (Nat.ne_of_lt hb')]
      exact (hf b hb).1
  done := by
    intro X hP hw hK hc i pins s σ H E I hf st hg
    subst hP hw hK
    obtain ⟨⟨old, he⟩, hit, hne⟩ := st
    obtain ⟨xs, hq, hx⟩ := hg
    obtain ⟨its, rv, p, hz⟩ := I.tuple hq
    have p : s.heap.IsTuple a its.toArray := p
    obtain ⟨f0, f1, f2, f3, f4, f5⟩ := hf it (by simp)
    have hl := rv.length
    exact enumT_end (I.ok.hd hc) he hit p (by simp; omega) fun h' eb => ⟨rfl, I.turned (t' := s.toks) (fun b o hb q => eb b o hb q) f0 f1 f3 f4 f5⟩
  self := fun A i s Q E st h => let ⟨⟨_, he⟩, _⟩ := st; wpAny_pyIter_enum he h

theorem Rep.seqT {K : PySem.W.Frag} {cm : Wd} {F : Hp} {a : Addr} {vs : List V} {ds : List D} (h : SqT K F a vs) (r : RepL K cm F vs ds) : Wk K cm F (Itet K a) (enumD ds) where
  stop := fun i H m hl => ⟨vs, SqT.mono m h, by rw [r.length]; simpa [enumD] using hl⟩
  go := fun i H m hl => by
    have hv : i < vs.length := by rw [r.length]; simpa [enumD] using hl
    exact ⟨vs, vs[i], SqT.mono m h, by simp [hv]⟩
  yld := fun i d e F1 σ1 H1 ρ1 x H2 m hr y => by
    obtain ⟨T, z, rfl, hT, rfl, y⟩ := y
    simp only [enumD, List.getElem?_mapIdx] at e
    cases q : ds[i]? with
    | none => rw [q] at e; cases e
    | some d' =>
      rw [q] at e
      cases e
      obtain ⟨v, h1, h2⟩ := r.get q
      have := y vs (SqT.mono (fun a o q => hr.sub a o (m a o q)) h)
      rw [h1] at this
      cases this
      exact ⟨_, Post.cold hr hT, rd_tup (σ := σ1) (ρ := ρ1) hr hT (.cons .int (.cons (h2.mono m) .nil))⟩
/-- a list or a tuple -/
def iSeq (K : PySem.W.Frag) (tl : TE) : TI := fun σ H R => tl σ H fun x H1 => ∃ a, x = .ref a ∧ (((∃ xs, SqL K H1 a xs) ∧ R (Itl K a) H1) ∨ ((∃ xs, SqT K H1 a xs) ∧ R (Itt K a) H1))
def iEnumS (K : PySem.W.Frag) (ta : TA) : TI := fun σ H R => ta σ H fun vs H1 => ∃ a xs, vs = [.ref a] ∧ ((SqL K H1 a xs ∧ R (Ite K a) H1) ∨ (SqT K H1 a xs ∧ R (Itet K a) H1))
section
variable {X : Cx} {cm : Wd} {W : WX} {tg e a b c : Expr} {te ta tb tc : TE} {m ma mb mc : ME D} {pos p : Pos} {P : Nat → Bool}
theorem pi_seq {l : Expr} {tl : TE} (hl : PE X l tl) : PI X tg l (iSeq X.K tl) := by
  refine ⟨fun pins s σ H R I h => ?_⟩
  refine thn (hl.run pins s σ H _ I h) fun v s1 ⟨x, H1, I1, r1, q1⟩ => ?_
  obtain ⟨a, e, q⟩ := q1
  subst e
  cases r1
  rcases q with ⟨⟨xs, hq⟩, q⟩ | ⟨⟨xs, hq⟩, q⟩
  · obtain ⟨its, rv, p, hz⟩ := I1.list hq
    refine wpAny_pyIter_list p.isList ?_
    refine ⟨s1.heap.objs.size, [s1.heap.objs.size], _, _, H1, rfl, I1.kept (t' := s1.toks) fun b o e => Heap.get?_push_of_some _ e, turn_list a _, ⟨_, Heap.get?_push_size _ rfl, rfl, rfl⟩, fun b hb => ?_, q⟩
    have e : b = s1.heap.objs.size := by simpa using hb
    subst e
    exact I1.fpOk (Nat.le_refl _) (I1.hok.fresh (Nat.le_refl _))
  · obtain ⟨its, rv, p, hz⟩ := I1.tuple hq
    refine wpAny_pyIter_tuple (show s1.heap.IsTuple a its.toArray from p) ?_
    refine ⟨s1.heap.objs.size, [s1.heap.objs.size], _, _, H1, rfl, I1.kept (t' := s1.toks) fun b o e => Heap.get?_push_of_some _ e, turn_tuple a _, ⟨_, Heap.get?_push_size _ rfl, rfl, rfl⟩, fun b hb => ?_, q⟩
    have e : b = s1.heap.objs.size := by simpa using hb
    subst e
    exact I1.fpOk (Nat.le_refl _) (I1.hok.fresh (Nat.le_refl _))
theorem pi_enumS {ta : TA} {tpos : Pos} {elts : List Expr} {kk : Nat} (hg : Gl X "enumerate") (hm : X.mg "enumerate" = none) (ha : PA X [e] ta) (hs : starEach [e] X.env = [(false, eval e X.env)] := by rfl) :
    PI X (.Tuple elts kk tpos) (.Call (.Name "enumerate" p) [e] [] pos) (iEnumS X.K ta) := by
  refine ⟨fun pins s σ H R I h => ?_⟩
  refine Call_ (ld_blt I hg hm boot_enumerate (PyProof.Rows.callWith_type1 (thn (ha.run pos pins s σ H _ I h) fun us s1 ⟨vs, H1, I1, r1, q1⟩ => ?_) hs rfl))
  obtain ⟨a, xs, ex, q⟩ := q1
  subst ex
  cases r1 with
  | cons r rr =>
    cases rr
    cases r
    have fin : ∀ b, b ∈ [s1.heap.objs.size + 1, s1.heap.objs.size] → s1.heap.objs.size ≤ b := fun b hb => by
      have e' : b = s1.heap.objs.size + 1 ∨ b = s1.heap.objs.size := by simpa using hb
      rcases e' with z | z
      · rw [z]; exact Nat.le_add_right _ _
      · rw [z]; exact Nat.le_refl _
    rcases q with ⟨hq, q⟩ | ⟨hq, q⟩
    · obtain ⟨its, rv, p', hz⟩ := I1.list hq
      refine call_enumerate_list p'.isList fun h' he hit hsz hk => wpAny_pyIter_enum he ?_
      have I2 : Inv X pins σ H1 { s1 with heap := h' } := I1.kept (t' := s1.toks) hk
      exact ⟨s1.heap.objs.size + 1, [s1.heap.objs.size + 1, s1.heap.objs.size], _, _, H1, rfl, I2, turn_enum a (s1.heap.objs.size + 1) s1.heap.objs.size, ⟨⟨.none, he⟩, hit, Nat.succ_ne_self _⟩, fun b hb => I1.fpOk (fin b hb) (I1.hok.fresh (fin b hb)), q⟩
    · obtain ⟨its, rv, p', hz⟩ := I1.tuple hq
      refine call_enumT (show s1.heap.IsTuple a its.toArray from p') fun h' he hit hsz hk => wpAny_pyIter_enum he ?_
      have I2 : Inv X pins σ H1 { s1 with heap := h' } := I1.kept (t' := s1.toks) hk
      exact ⟨s1.heap.objs.size + 1, [s1.heap.objs.size + 1, s1.heap.objs.size], _, _, H1, rfl, I2, turn_enumT a (s1.heap.objs.size + 1) s1.heap.objs.size, ⟨⟨.none, he⟩, hit, Nat.succ_ne_self _⟩, fun b hb => I1.fpOk (fin b hb) (I1.hok.fresh (fin b hb)), q⟩
def mItems (m : ME D) : ME (List D) := m.bnd fun d => opt (itemsD d)
def mEnum (m : ME D) : ME (List D) := m.bnd fun d => opt ((itemsD d).map enumD)
theorem ie_seq (h : DE X cm W e te m) : IE X cm W tg e (iSeq X.K te) (mItems m) := by
  refine ⟨pi_seq h.pe, fun ρ r e F σ H R hr hp => ?_⟩
  refine h.sim.stepI e hr hp fun d ρ1 v F1 H1 e1 p1 r1 => ?_
  obtain ⟨xs, e2, rfl⟩ := opt_ok e1
  cases r1 with
  | lst h1 h2 => cases e2; exact ⟨_, rfl, .inl ⟨⟨_, SqL.of (p1.rel.sub _ _ h1)⟩, hp _ F1 H1 p1 (wk_list (SqL.of h1) h2)⟩⟩
  | scr h1 h2 => cases e2; exact ⟨_, rfl, .inl ⟨⟨_, SqL.mono p1.rel.sub h1⟩, hp _ F1 H1 p1 (wk_list h1 h2)⟩⟩
  | tup h1 h2 => cases e2; exact ⟨_, rfl, .inr ⟨⟨_, SqT.of (p1.rel.sub _ _ h1)⟩, hp _ F1 H1 p1 (wk_tup (SqT.of h1) h2)⟩⟩
  | ktp h1 h2 => cases e2; exact ⟨_, rfl, .inr ⟨⟨_, SqT.mono p1.rel.sub h1⟩, hp _ F1 H1 p1 (wk_tup h1 h2)⟩⟩
  | _ => cases e2
theorem ie_enum {elts : List Expr} {kk : Nat} {tpos : Pos} (hg : Gl X "enumerate") (hm : X.mg "enumerate" = none) (h : DE X cm W a ta ma) (h1 : starEach (a :: []) X.env = (false, eval a X.env) :: starEach [] X.env := by rfl) (hs : starEach [a] X.env = [(false, eval a X.env)] := by rfl) :
    IE X cm W (.Tuple elts kk tpos) (.Call (.Name "enumerate" p) [a] [] pos) (iEnumS X.K (tCons ta tNil)) (mEnum ma) := by
  refine ⟨pi_enumS hg hm (pa_cons h.pe pa_nil h1) hs, fun ρ r e F σ H R hr hp => ?_⟩
  refine h.sim.stepI e hr hp fun d ρ1 v F1 H1 e1 p1 r1 => ?_
  obtain ⟨xs, e2, rfl⟩ := opt_ok e1
  cases r1 with
  | lst h1 h2 => cases e2; exact ⟨_, _, rfl, .inl ⟨SqL.of (p1.rel.sub _ _ h1), hp _ F1 H1 p1 (wk_enum (SqL.of h1) h2)⟩⟩
  | scr h1 h2 => cases e2; exact ⟨_, _, rfl, .inl ⟨SqL.mono p1.rel.sub h1, hp _ F1 H1 p1 (wk_enum h1 h2)⟩⟩
  | tup h1 h2 => cases e2; exact ⟨_, _, rfl, .inr ⟨SqT.of (p1.rel.sub _ _ h1), hp _ F1 H1 p1 (Rep.seqT (SqT.of h1) h2)⟩⟩
  | ktp h1 h2 => cases e2; exact ⟨_, _, rfl, .inr ⟨SqT.mono p1.rel.sub h1, hp _ F1 H1 p1 (Rep.seqT h1 h2)⟩⟩
  | _ => cases e2
/-- range(a, b, c) -/
def rangeD3 (lo c : Int) (n : Nat) : List D := (List.range n).map fun i => D.int (lo + (i : Nat) * c)
instance : ∀ i j c n, Decidable (RgC i j c n) := fun i j c n => by unfold RgC; infer_instance
def gRange3 : D → D → D → Option (List D)
  | .int i, .int j, .int c => if RgC i j c (Builtin.Range.rangeSize i j c).toNat then some (rangeD3 i c (Builtin.Range.rangeSize i j c).toNat) else none
  | _, _, _ => none
def mRange3 (ma mb mc : ME D) : ME (List D) := ma.bnd fun x => mb.bnd fun y => mc.bnd fun z => opt (gRange3 x y z)
theorem wk_range3 {K : PySem.W.Frag} {F : Hp} {lo c : Int} {n : Nat} : Wk K cm F (Itc lo c n) (rangeD3 lo c n) where
  stop := fun i H m hl => by
    show n ≤ i
    simpa [rangeD3] using hl
  go := fun i H m hl => by
    show i < n
    simpa [rangeD3] using hl
  yld := fun i d e F1 σ1 H1 ρ1 x H2 m hr y => by
    obtain ⟨rfl, rfl⟩ := y
    have hi : i < n := by
      have := (List.getElem?_eq_some_iff.mp e).1
      simpa [rangeD3] using this
    simp [rangeD3, hi] at e
    subst e
    exact ⟨F1, Post.refl hr, .int⟩
theorem ie_range3 (hg : Gl X "range") (hm : X.mg "range" = none) (h : DE X cm W a ta ma) (h' : DE X cm W b tb mb) (h'' : DE X cm W c tc mc)
    (s1 : starEach (c :: []) X.env = (false, eval c X.env) :: starEach [] X.env := by rfl) (s2 : starEach (b :: c :: []) X.env = (false, eval b X.env) :: starEach [c] X.env := by rfl) (s3 : starEach [a, b, c] X.env = (false, eval a X.env) :: starEach [b, c] X.env := by rfl)
    (hpl : (backTo pos (starEach [b, c] X.env)).any (·.1) = false := by rfl) : IE X cm W tg (.Call (.Name "range" p) [a, b, c] [] pos) (iRng3 (tCons ta (tCons tb (tCons tc tNil)))) (mRange3 ma mb mc) := by
  refine ⟨pi_range3 hg hm (pa_cons h.pe (pa_cons h'.pe (pa_cons h''.pe pa_nil s1) s2) s3) s3 hpl, fun ρ r e F σ H R hr hp => ?_⟩
  refine h.sim.stepI e hr hp fun x ρ1 v1 F1 H1 e1 p1 r1 => ?_
  refine h'.sim.stepI e1 p1.rel (hp.move p1) fun y ρ2 v2 F2 H2 e2 p2 r2 => ?_
  refine h''.sim.stepI e2 p2.rel ((hp.move p1).move p2) fun z ρ3 v3 F3 H3 e3 p3 r3 => ?_
  obtain ⟨xs, e4, rfl⟩ := opt_ok e3
  unfold gRange3 at e4
  split at e4
  · split at e4
    · rename_i hc
      cases e4
      cases r1; cases r2; cases r3
      exact ⟨_, _, _, _, rfl, hc, hp _ F3 H3 ((p1.trans p2).trans p3) wk_range3⟩
    · cases e4
  · cases e4
/-! ### list(range(..)), tuple(range(..)) -/
instance : ∀ i j, Decidable (RgOk i j) := fun i j => by unfold RgOk; infer_instance
theorem rep_rgV {K : PySem.W.Frag} {F : Hp} {lo hi : Int} : RepL K cm F (rgV lo hi) (rangeD lo (hi - lo).toNat) := by
  unfold rgV rangeD
  generalize List.range (hi - lo).toNat = l
  induction l with
  | nil => exact .nil
  | cons x l ih => exact .cons .int ih
def gLstRg (lo hi : D) : Option S := match lo, hi with
  | .int i, .int j => if RgOk i j then some (.lst (rangeD i (j - i).toNat)) else none
  | _, _ => none
def gTupRg (lo hi : D) : Option D := match lo, hi with
  | .int i, .int j => if RgOk i j then some (.tup (rangeD i (j - i).toNat)) else none
  | _, _ => none
theorem oe_listRg1 {p2 pos2 : Pos} (hc : X.calm = true) (hgl : Gl X "list") (hml : X.mg "list" = none) (hg : Gl X "range") (hm : X.mg "range" = none) (h : DE X cm W a ta ma) (na : starEach [a] X.env = (false, eval a X.env) :: starEach [] X.env := by rfl)
    (nb : starEach [.Call (.Name "range" p) [a] [] pos] X.env = (false, eval (.Call (.Name "range" p) [a] [] pos) X.env) :: starEach [] X.env := by rfl) :
    OE X cm W (.Call (.Name "list" p2) [.Call (.Name "range" p) [a] [] pos] [] pos2) (tLstRg (tRg1 ta)) (ma.bnd fun x => opt (gLstRg (.int 0) x)) := by
  refine ⟨pe_listRg hc hgl hml (prg_1 hg hm h.pe na) nb, fun ρ r e F σ H Q hr hp => ?_⟩
  refine h.sim.step e hr hp fun x ρ1 v1 F1 H1 e1 p1 r1 => ?_
  obtain ⟨s, e2, rfl⟩ := opt_ok e1
  cases r1 with
  | @int n =>
    simp only [gLstRg] at e2
    split at e2
    · rename_i hk
      cases e2
      refine ⟨n, rfl, hk, fun q hq => ?_⟩
      exact hp _ F1 _ (p1.trans (Post.warm p1.rel hq)) ⟨.own upd_same (p1.rel.noF hq) (.lst rep_rgV), fun a e o => by cases e; exact ⟨fun z => (p1.rel.owned' z).1 hq, p1.gone hq⟩⟩
    · cases e2
  | _ => cases e2
theorem oe_listRg2 {p2 pos2 : Pos} (hc : X.calm = true) (hgl : Gl X "list") (hml : X.mg "list" = none) (hg : Gl X "range") (hm : X.mg "range" = none) (h : DE X cm W a ta ma) (h' : DE X cm W b tb mb) (na : starEach [a, b] X.env = (false, eval a X.env) :: starEach [b] X.env := by rfl)
    (nb : starEach [b] X.env = (false, eval b X.env) :: starEach [] X.env := by rfl) (hp : (backTo pos (starEach [b] X.env)).any (·.1) = false := by rfl)
    (nc : starEach [.Call (.Name "range" p) [a, b] [] pos] X.env = (false, eval (.Call (.Name "range" p) [a, b] [] pos) X.env) :: starEach [] X.env := by rfl) :
    OE X cm W (.Call (.Name "list" p2) [.Call (.Name "range" p) [a, b] [] pos] [] pos2) (tLstRg (tRg2 ta tb)) (ma.bnd fun x => mb.bnd fun y => opt (gLstRg x y)) := by
  refine ⟨pe_listRg hc hgl hml (prg_2 hg hm h.pe h'.pe na nb hp) nc, fun ρ r e F σ H Q hr hp => ?_⟩
  refine h.sim.step e hr hp fun x ρ1 v1 F1 H1 e1 p1 r1 => ?_
  refine h'.sim.step e1 p1.rel (hp.trans tr_O p1) fun y ρ2 v2 F2 H2 e2 p2 r2 => ?_
  obtain ⟨s, e3, rfl⟩ := opt_ok e2
  have pp := p1.trans p2
  cases r1 with
  | @int n =>
    cases r2 with
    | @int n' =>
      simp only [gLstRg] at e3
      split at e3
      · rename_i hk
        cases e3
        refine ⟨n, n', rfl, rfl, hk, fun q hq => ?_⟩
        exact hp _ F2 _ (pp.trans (Post.warm pp.rel hq)) ⟨.own upd_same (pp.rel.noF hq) (.lst rep_rgV), fun a e o => by cases e; exact ⟨fun z => (pp.rel.owned' z).1 hq, pp.gone hq⟩⟩
      · cases e3
    | _ => cases e3
  | _ => cases e3
theorem de_tupRg1 {p2 pos2 : Pos} (hc : X.calm = true) (hgl : Gl X "tuple") (hml : X.mg "tuple" = none) (hg : Gl X "range") (hm : X.mg "range" = none) (h : DE X cm W a ta ma) (na : starEach [a] X.env = (false, eval a X.env) :: starEach [] X.env := by rfl)
    (nb : starEach [.Call (.Name "range" p) [a] [] pos] X.env = (false, eval (.Call (.Name "range" p) [a] [] pos) X.env) :: starEach [] X.env := by rfl) :
    DE X cm W (.Call (.Name "tuple" p2) [.Call (.Name "range" p) [a] [] pos] [] pos2) (tTupRg (tRg1 ta)) (ma.bnd fun x => opt (gTupRg (.int 0) x)) := by
  refine ⟨pe_tupRg hc hgl hml (prg_1 hg hm h.pe na) nb, fun ρ r e F σ H Q hr hp => ?_⟩
  refine h.sim.step e hr hp fun x ρ1 v1 F1 H1 e1 p1 r1 => ?_
  obtain ⟨s, e2, rfl⟩ := opt_ok e1
  cases r1 with
  | @int n =>
    simp only [gTupRg] at e2
    split at e2
    · rename_i hk
      cases e2
      refine ⟨n, rfl, hk, fun q hq => ?_⟩
      exact hp _ _ _ (p1.trans (Post.cold p1.rel hq)) (rd_tup (σ := σ) (ρ := ρ1) p1.rel hq rep_rgV)
    · cases e2
  | _ => cases e2
end
end L2.Fn
set_option maxRecDepth 100000
set_option maxHeartbeats 4000000
/-! FnL: a dict comprehension, a comprehension of two clauses. -/
namespace L2.Fn
open PySem PySem.Spec PyProof.Rows L2

section
variable {K : PySem.W.Frag} {cm : Wd} {W : WX}
def dcL (g : MG) (tt : ME Bool) (tk tv : ME D) (vs : List Nat) : List D → List (Key × D) → Slots → Option (List (Key × D) × Slots)
  | [], acc, ρ => some (acc, ρ)
  | d :: ds, acc, ρ => match g (.val d) (wipeE ρ vs) with
    | none => none
    | some ρ1 => match tt ρ1 with
      | some (.ok true ρ2) => (match tk ρ2 with
        | some (.ok y ρ3) => (match tv ρ3 with
          | some (.ok z ρ4) => (match keyD y with
            | some k => if acc.length < sizeLine then dcL g tt tk tv vs ds (putD acc k z) (wipeE ρ4 vs) else none
            | none => none)
          | _ => none)
        | _ => none)
      | some (.ok false ρ2) => dcL g tt tk tv vs ds acc (wipeE ρ2 vs)
      | _ => none
def mDc (it : ME (List D)) (g : MG) (tt : ME Bool) (tk tv : ME D) (vs : List Nat) : ME S := it.bnd fun ds ρ =>
  match dcL g tt tk tv vs ds [] ρ with
    | some (ys, ρ') => some (.ok (.dK ys) ρ')
    | none => none
theorem sim_dc {wi : TI} {g : TG} {tt : TT} {tk tv : TE} {vs : List Nat} {mi : ME (List D)} {mg : MG} {mt : ME Bool} {mk mv : ME D} (hi : SimI K cm W wi mi) (hg : SimG K cm (pinOut vs) g mg) (ht : Sim K cm WF RB tt mt) (hk : Sim K cm WF (RD K cm) tk mk) (he : Sim K cm WF (RD K cm) tv mv) :
    Sim K cm W (RO K cm) (tDc wi g tt tk tv vs) (mDc mi mg mt mk mv vs) := by
  intro ρ r e F σ H Q hr hp
  unfold mDc ME.bnd at e
  cases q : mi ρ with
  | none => rw [q] at e; cases e
  | some x =>
    rw [q] at e
    cases x with
    | ex C fs ρ' => cases e; exact hi ρ _ q F σ H _ hr hp
    | ok ds ρ' =>
      simp only at e
      cases q2 : dcL mg mt mk mv vs ds [] ρ' with
      | none => rw [q2] at e; cases e
      | some z =>
        obtain ⟨ys, ρe⟩ := z
        rw [q2] at e
        cases e
        refine hi ρ _ q F σ H _ hr fun J F' H' p wk => ?_
        intro Dd hD
        refine ⟨fun i n H2 => ∃ F1 ρ1 acc vacc, n = ds.length - i ∧ i ≤ ds.length ∧ (∀ a o, F' a = some o → F1 a = some o) ∧ Post K cm pinAll F' σ H' ρ' F1 σ H2 ρ1 ∧ dcL mg mt mk mv vs (ds.drop i) acc ρ1 = some (ys, ρe) ∧
          H2 Dd = some (.dK vacc) ∧ F1 Dd = none ∧ (¬ owns σ ρ1 Dd) ∧ RepK K cm F1 vacc acc, ⟨ds.length, F', ρ', [], [], by simp, Nat.zero_le _, fun _ _ h => h, Post.warm p.rel hD, by simpa using q2, upd_same, p.rel.noF hD, fun z => (p.rel.owned' z).1 hD, .nil⟩, ?_⟩
        rintro i n H2 ⟨F1, ρ1, acc, vacc, rfl, hi', m1, p1, e1, d1, d2, d3, d4⟩
        by_cases hlt : i < ds.length
        · have hd : ds.drop i = ds[i] :: ds.drop (i + 1) := List.drop_eq_getElem_cons hlt
          rw [hd] at e1
          simp only [dcL] at e1
          refine .inr ⟨wk.go i H2 (fun a o h => p1.rel.sub a o (m1 a o h)) hlt, _, fun H3 z => ⟨ds.length - (i + 1), by omega, z⟩, fun x H3 y => ?_⟩
          obtain ⟨F2, p2, rx⟩ := wk.yld i ds[i] (by simp [hlt]) F1 σ H2 ρ1 x H3 m1 p1.rel y
          cases q3 : mg (.val ds[i]) (wipeE ρ1 vs) with
          | none => rw [q3] at e1; cases e1
          | some ρ2 =>
            rw [q3] at e1
            simp only at e1
            refine hg _ _ ρ2 q3 F2 (wipe σ vs) H3 x _ (p2.rel.wiped vs) (.val rx) (fun _ _ z => by cases z) fun F3 σ3 H4 b0 b1 b2 b3 b4 b5 b6 => ?_
            have p3 : Post K cm (pinOut vs) F2 (wipe σ vs) H3 (wipeE ρ1 vs) F3 σ3 H4 ρ2 := ⟨b0, b1, b2, b3, fun a h => (b4 a h).elim .inl fun z => z.elim .inr fun z => (by cases z.2), b5, b6⟩
            refine ⟨wipe_ext b6 fun i hi => b5 i (by simpa [pinOut] using hi), ?_⟩
            have s2 := p2.safe d1 d2 d3
            have own' : ∀ a, owns (wipe σ vs) (wipeE ρ1 vs) a → owns σ ρ1 a := fun a ⟨i, h⟩ => ⟨i, (wipe_own h).2⟩
            have s3 := p3.safe s2.1 s2.2.1 (fun z => s2.2.2 (own' _ z))
            cases q4 : mt ρ2 with
            | none => rw [q4] at e1; cases e1
            | some z4 =>
              rw [q4] at e1
              cases z4 with
              | ex C fs ρx => cases e1
              | ok b ρ3 =>
                refine ht ρ2 _ q4 F3 σ3 H4 _ b0 fun b' F4 H5 p4 eb => ?_
                cases (show b' = b from eb)
                have s4 := p4.safe s3.1 s3.2.1 s3.2.2
                cases b with
                | false =>
                  rw [if_neg (by simp)]
                  simp only at e1
                  have pu := Post.unwipe p2.rel (p3.trans p4.any)
                  refine ⟨F4, wipeE ρ3 vs, acc, vacc, rfl, hlt, fun a o h => pu.mono a o (p2.mono a o (m1 a o h)), p1.trans (p2.trans pu), e1, s4.1, s4.2.1, ?_, d4.mono fun a o h => pu.mono a o (p2.mono a o h)⟩
                  exact (pu.safe s2.1 s2.2.1 s2.2.2).2.2
                | true =>
                  rw [if_pos rfl]
                  simp only at e1
                  cases q5 : mk ρ3 with
                  | none => rw [q5] at e1; cases e1
                  | some z5 =>
                    rw [q5] at e1
                    cases z5 with
                    | ex C fs ρx => cases e1
                    | ok dk ρ4 =>
                      simp only at e1
                      refine hk ρ3 _ q5 F4 σ3 H5 _ p4.rel fun v F5 H6 p5 rk => ?_
                      have s5 := p5.safe s4.1 s4.2.1 s4.2.2
                      cases q6 : mv ρ4 with
                      | none => rw [q6] at e1; cases e1
                      | some z6 =>
                        rw [q6] at e1
                        cases z6 with
                        | ex C fs ρx => cases e1
                        | ok d ρ5 =>
                          simp only at e1
                          refine he ρ4 _ q6 F5 σ3 H6 _ p5.rel fun z F6 H7 p6 rv => ?_
                          have s6 := p6.safe s5.1 s5.2.1 s5.2.2
                          cases q7 : keyD dk with
                          | none => rw [q7] at e1; cases e1
                          | some k =>
                            rw [q7] at e1
                            simp only at e1
                            split at e1
                            · rename_i hsz
                              have pu := Post.unwipe p2.rel (p3.trans ((p4.trans p5).trans p6).any)
                              have s7 := (pu.safe s2.1 s2.2.1 s2.2.2)
                              have mm : ∀ a o, F1 a = some o → F6 a = some o := fun a o h => pu.mono a o (p2.mono a o h)
                              have rk' : Rep K cm F5 v dk := rk
                              refine ⟨vacc, k, rk'.key q7, s6.1, by rw [d4.len]; exact hsz, F6, wipeE ρ5 vs, putD acc k d, putK vacc k z, rfl, hlt, fun a o h => mm a o (m1 a o h), (p1.trans (p2.trans pu)).bump hD s7.2.1 s7.2.2, e1, upd_same, s7.2.1, s7.2.2, (d4.mono mm).put k rv⟩
                            · cases e1
        · have ei : i = ds.length := by omega
          subst ei
          rw [List.drop_length] at e1
          cases e1
          refine .inl ⟨wk.stop ds.length H2 (fun a o h => p1.rel.sub a o (m1 a o h)) (Nat.le_refl _), hp _ F1 H2 (p.trans p1) ⟨.own d1 d2 (.dK d4), fun a e _ => ?_⟩⟩
          cases e
          exact ⟨d3, p.gone hD⟩

theorem Post.wiping {F : Hp} {σ : St} {H : Hp} {ρ : Slots} (vs : List Nat) (R : Rel K cm F σ H ρ) : Post K cm (pinOut vs) F σ H ρ F (wipe σ vs) H (wipeE ρ vs) :=
  ⟨R.wiped vs, fun _ _ h => h, fun _ h => .inl h, fun _ _ h _ => h, fun a ⟨i, h⟩ => .inl ⟨i, (wipe_own h).2⟩, fun i h => wipe_out (by simpa [pinOut] using h), wipe_length _ _⟩
theorem Post.unwipe2 {F F' : Hp} {σ σ' : St} {H H' : Hp} {ρ ρ' : Slots} {vs : List Nat} (p : Post K cm (pinOut vs) F σ H ρ F' σ' H' ρ') : Post K cm pinAll F σ H ρ F' σ H' (wipeE ρ' vs) ∧ ∀ a, owns σ (wipeE ρ' vs) a → owns σ' ρ' a := by
  have es : ∀ i, i ∉ vs → σ'[i]? = σ[i]? := fun i h => p.pin i (by simpa [pinOut] using h)
  have own2 : ∀ i a, ownAt σ (wipeE ρ' vs) i a → ownAt σ' ρ' i a := fun i a ⟨s, h1, h2, h3⟩ => by
    obtain ⟨q, h1⟩ := wipe_slot h1 (by rintro rfl; cases h2)
    exact ⟨s, h1, h2, by rw [es i q]; exact h3⟩
  refine ⟨⟨⟨?_, p.rel.sub, fun i s h n => ?_, fun i j a h1 h2 => p.rel.sep i j a (own2 i a h1) (own2 j a h2)⟩, p.mono, p.lim, p.keep, fun a ⟨i, h⟩ => p.new a ⟨i, own2 i a h⟩, fun _ _ => rfl, rfl⟩, fun a ⟨i, h⟩ => ⟨i, own2 i a h⟩⟩
  · rw [wipeE_length, ← p.rel.len, p.sl]
  · obtain ⟨q, h⟩ := wipe_slot h n
    obtain ⟨v, h1, h2⟩ := p.rel.slot i s h n
    exact ⟨v, by rw [← es i q]; exact h1, h2⟩
/-! ### two clauses -/
/-- the second clause's turns: what they add -/
def lc2I (g1 : MG) (tt1 : ME Bool) (te : ME D) (vs1 : List Nat) : List D → List D → Slots → Option (List D × Slots)
  | [], acc, ρ => some (acc, ρ)
  | d :: ds, acc, ρ => match g1 (.val d) (wipeE ρ vs1) with
    | none => none
    | some ρ1 => match tt1 ρ1 with
      | some (.ok true ρ2) => (match te ρ2 with
        | some (.ok y ρ3) => if acc.length < sizeLine then lc2I g1 tt1 te vs1 ds (acc ++ [y]) (wipeE ρ3 vs1) else none
        | _ => none)
      | some (.ok false ρ2) => lc2I g1 tt1 te vs1 ds acc (wipeE ρ2 vs1)
      | _ => none
def lc2O (g : MG) (tt : ME Bool) (mi1 : ME (List D)) (inner : List D → List D → Slots → Option (List D × Slots)) (vs : List Nat) : List D → List D → Slots → Option (List D × Slots)
  | [], acc, ρ => some (acc, ρ)
  | d :: ds, acc, ρ => match g (.val d) (wipeE ρ vs) with
    | none => none
    | some ρ1 => match tt ρ1 with
      | some (.ok true ρ2) => (match mi1 ρ2 with
        | some (.ok es ρ3) => (match inner es acc ρ3 with
          | some (acc', ρ4) => lc2O g tt mi1 inner vs ds acc' (wipeE ρ4 vs)
          | none => none)
        | _ => none)
      | some (.ok false ρ2) => lc2O g tt mi1 inner vs ds acc (wipeE ρ2 vs)
      | _ => none
def mLc2 (it : ME (List D)) (g : MG) (tt : ME Bool) (it1 : ME (List D)) (g1 : MG) (tt1 : ME Bool) (te : ME D) (vs vs1 : List Nat) : ME S := it.bnd fun ds ρ =>
  match lc2O g tt it1 (lc2I g1 tt1 te vs1) vs ds [] ρ with
    | some (ys, ρ') => some (.ok (.lst ys) ρ')
    | none => none
theorem sim_lc2 {wi wi1 : TI} {g g1 : TG} {tt tt1 : TT} {te : TE} {vs vs1 : List Nat} {mi mi1 : ME (List D)} {mg mg1 : MG} {mt mt1 : ME Bool} {me : ME D} (hv : ∀ i ∈ vs1, i ∈ vs) (hi : SimI K cm W wi mi) (hg : SimG K cm (pinOut vs) g mg) (ht : Sim K cm WF RB tt mt)
    (hi1 : SimI K cm WF wi1 mi1) (hg1 : SimG K cm (pinOut vs1) g1 mg1) (ht1 : Sim K cm WF RB tt1 mt1) (he : Sim K cm WF (RD K cm) te me) :
    Sim K cm W (RO K cm) (tLc2 wi g tt wi1 g1 tt1 te vs vs1) (mLc2 mi mg mt mi1 mg1 mt1 me vs vs1) := by
  intro ρ r e F σ H Q hr hp
  unfold mLc2 ME.bnd at e
  cases q : mi ρ with
  | none => rw [q] at e; cases e
  | some x =>
    rw [q] at e
    cases x with
    | ex C fs ρ' => cases e; exact hi ρ _ q F σ H _ hr hp
    | ok ds ρ' =>
      simp only at e
      cases q2 : lc2O mg mt mi1 (lc2I mg1 mt1 me vs1) vs ds [] ρ' with
      | none => rw [q2] at e; cases e
      | some z =>
        obtain ⟨ys, ρe⟩ := z
        rw [q2] at e
        cases e
        refine hi ρ _ q F σ H _ hr fun J F' H' p wk => ?_
        intro Dd hD
        refine ⟨fun i n H2 => ∃ F1 ρ1 acc vacc, n = ds.length - i ∧ i ≤ ds.length ∧ (∀ a o, F' a = some o → F1 a = some o) ∧ Post K cm pinAll F' σ H' ρ' F1 σ H2 ρ1 ∧ lc2O mg mt mi1 (lc2I mg1 mt1 me vs1) vs (ds.drop i) acc ρ1 = some (ys, ρe) ∧
          H2 Dd = some (.lst vacc) ∧ F1 Dd = none ∧ (¬ owns σ ρ1 Dd) ∧ RepL K cm F1 vacc acc, ⟨ds.length, F', ρ', [], [], by simp, Nat.zero_le _, fun _ _ h => h, Post.warm p.rel hD, by simpa using q2, upd_same, p.rel.noF hD, fun z => (p.rel.owned' z).1 hD, .nil⟩, ?_⟩
        rintro i n H2 ⟨F1, ρ1, acc, vacc, rfl, hi', m1, p1, e1, d1, d2, d3, d4⟩
        by_cases hlt : i < ds.length
        · have hd : ds.drop i = ds[i] :: ds.drop (i + 1) := List.drop_eq_getElem_cons hlt
          rw [hd] at e1
          simp only [lc2O] at e1
          refine .inr ⟨wk.go i H2 (fun a o h => p1.rel.sub a o (m1 a o h)) hlt, _, fun H3 z => ⟨ds.length - (i + 1), by omega, z⟩, fun x H3 y => ?_⟩
          obtain ⟨F2, p2, rx⟩ := wk.yld i ds[i] (by simp [hlt]) F1 σ H2 ρ1 x H3 m1 p1.rel y
          cases q3 : mg (.val ds[i]) (wipeE ρ1 vs) with
          | none => rw [q3] at e1; cases e1
          | some ρ2 =>
            rw [q3] at e1
            simp only at e1
            refine hg _ _ ρ2 q3 F2 (wipe σ vs) H3 x _ (p2.rel.wiped vs) (.val rx) (fun _ _ z => by cases z) fun F3 σ3 H4 b0 b1 b2 b3 b4 b5 b6 => ?_
            have p3 : Post K cm (pinOut vs) F2 (wipe σ vs) H3 (wipeE ρ1 vs) F3 σ3 H4 ρ2 := ⟨b0, b1, b2, b3, fun a h => (b4 a h).elim .inl fun z => z.elim .inr fun z => (by cases z.2), b5, b6⟩
            refine ⟨wipe_ext b6 fun i hi => b5 i (by simpa [pinOut] using hi), ?_⟩
            have s2 := p2.safe d1 d2 d3
            have own' : ∀ a, owns (wipe σ vs) (wipeE ρ1 vs) a → owns σ ρ1 a := fun a ⟨i, h⟩ => ⟨i, (wipe_own h).2⟩
            have s3 := p3.safe s2.1 s2.2.1 (fun z => s2.2.2 (own' _ z))
            cases q4 : mt ρ2 with
            | none => rw [q4] at e1; cases e1
            | some z4 =>
              rw [q4] at e1
              cases z4 with
              | ex C fs ρx => cases e1
              | ok b ρ3 =>
                refine ht ρ2 _ q4 F3 σ3 H4 _ b0 fun b' F4 H5 p4 eb => ?_
                cases (show b' = b from eb)
                have s4 := p4.safe s3.1 s3.2.1 s3.2.2
                cases b with
                | false =>
                  rw [if_neg (by simp)]
                  simp only at e1
                  have pu := Post.unwipe p2.rel (p3.trans p4.any)
                  refine ⟨F4, wipeE ρ3 vs, acc, vacc, rfl, hlt, fun a o h => pu.mono a o (p2.mono a o (m1 a o h)), p1.trans (p2.trans pu), e1, s4.1, s4.2.1, ?_, d4.mono fun a o h => pu.mono a o (p2.mono a o h)⟩
                  exact (pu.safe s2.1 s2.2.1 s2.2.2).2.2
                | true =>
                  rw [if_pos rfl]
                  simp only at e1
                  cases q5 : mi1 ρ3 with
                  | none => rw [q5] at e1; cases e1
                  | some z5 =>
                    rw [q5] at e1
                    cases z5 with
                    | ex C fs ρx => cases e1
                    | ok es ρ4 =>
                      simp only at e1
                      cases q6 : lc2I mg1 mt1 me vs1 es acc ρ4 with
                      | none => rw [q6] at e1; cases e1
                      | some z6 =>
                        obtain ⟨acc', ρ5⟩ := z6
                        rw [q6] at e1
                        simp only at e1
                        refine hi1 ρ3 _ q5 F4 σ3 H5 _ p4.rel fun J1 F5 H6 p5 wk1 => ?_
                        have s5 := p5.safe s4.1 s4.2.1 s4.2.2
                        have PW : Post K cm (pinOut vs) F' σ H' ρ' F5 σ3 H6 ρ4 := (p1.trans p2).any.trans ((Post.wiping vs p2.rel).trans (p3.trans (p4.trans p5).any))
                        refine ⟨fun j n H7 => ∃ F6 ρ6 bcc vbcc, n = es.length - j ∧ j ≤ es.length ∧ (∀ a o, F5 a = some o → F6 a = some o) ∧ Post K cm (pinOut vs) F' σ H' ρ' F6 σ3 H7 ρ6 ∧ lc2I mg1 mt1 me vs1 (es.drop j) bcc ρ6 = some (acc', ρ5) ∧
                          H7 Dd = some (.lst vbcc) ∧ F6 Dd = none ∧ (¬ owns σ3 ρ6 Dd) ∧ RepL K cm F6 vbcc bcc, ⟨es.length, F5, ρ4, acc, vacc, by simp, Nat.zero_le _, fun _ _ h => h, PW, by simpa using q6, s5.1, s5.2.1, s5.2.2, d4.mono fun a o h => p5.mono a o (p4.mono a o (p3.mono a o (p2.mono a o h)))⟩, ?_⟩
                        rintro j n H7 ⟨F6, ρ6, bcc, vbcc, rfl, hj', n1, pw, f1, g1', g2, g3, g4⟩
                        by_cases hlt2 : j < es.length
                        · have hd2 : es.drop j = es[j] :: es.drop (j + 1) := List.drop_eq_getElem_cons hlt2
                          rw [hd2] at f1
                          simp only [lc2I] at f1
                          refine .inr ⟨wk1.go j H7 (fun a o h => pw.rel.sub a o (n1 a o h)) hlt2, _, fun H8 z => ⟨es.length - (j + 1), by omega, z⟩, fun x2 H8 y2 => ?_⟩
                          obtain ⟨F7, p7, rx2⟩ := wk1.yld j es[j] (by simp [hlt2]) F6 σ3 H7 ρ6 x2 H8 n1 pw.rel y2
                          cases t3 : mg1 (.val es[j]) (wipeE ρ6 vs1) with
                          | none => rw [t3] at f1; cases f1
                          | some ρ7 =>
                            rw [t3] at f1
                            simp only at f1
                            refine hg1 _ _ ρ7 t3 F7 (wipe σ3 vs1) H8 x2 _ (p7.rel.wiped vs1) (.val rx2) (fun _ _ z => by cases z) fun F8 σ8 H9 b0 b1 b2 b3 b4 b5 b6 => ?_
                            have p8 : Post K cm (pinOut vs1) F7 (wipe σ3 vs1) H8 (wipeE ρ6 vs1) F8 σ8 H9 ρ7 := ⟨b0, b1, b2, b3, fun a h => (b4 a h).elim .inl fun z => z.elim .inr fun z => (by cases z.2), b5, b6⟩
                            refine ⟨wipe_ext b6 fun i hi => b5 i (by simpa [pinOut] using hi), ?_⟩
                            have s7 := p7.safe g1' g2 g3
                            have own'' : ∀ a, owns (wipe σ3 vs1) (wipeE ρ6 vs1) a → owns σ3 ρ6 a := fun a ⟨i, h⟩ => ⟨i, (wipe_own h).2⟩
                            have s8 := p8.safe s7.1 s7.2.1 (fun z => s7.2.2 (own'' _ z))
                            cases t4 : mt1 ρ7 with
                            | none => rw [t4] at f1; cases f1
                            | some z4 =>
                              rw [t4] at f1
                              cases z4 with
                              | ex C fs ρx => cases f1
                              | ok b ρ8 =>
                                refine ht1 ρ7 _ t4 F8 σ8 H9 _ b0 fun b' F9 H10 p9 eb => ?_
                                cases (show b' = b from eb)
                                have s9 := p9.safe s8.1 s8.2.1 s8.2.2
                                cases b with
                                | false =>
                                  rw [if_neg (by simp)]
                                  simp only at f1
                                  have pu := Post.unwipe p7.rel (p8.trans p9.any)
                                  have px := p7.trans pu
                                  have sx := px.safe g1' g2 g3
                                  exact ⟨F9, wipeE ρ8 vs1, bcc, vbcc, rfl, hlt2, fun a o h => px.mono a o (n1 a o h), pw.trans px.any, f1, sx.1, sx.2.1, sx.2.2, g4.mono px.mono⟩
                                | true =>
                                  rw [if_pos rfl]
                                  simp only at f1
                                  cases t5 : me ρ8 with
                                  | none => rw [t5] at f1; cases f1
                                  | some z5 =>
                                    rw [t5] at f1
                                    cases z5 with
                                    | ex C fs ρx => cases f1
                                    | ok d ρ9 =>
                                      simp only at f1
                                      split at f1
                                      · rename_i hsz
                                        refine he ρ8 _ t5 F9 σ8 H10 _ p9.rel fun v F10 H11 p10 rv => ?_
                                        have s10 := p10.safe s9.1 s9.2.1 s9.2.2
                                        have pu := Post.unwipe p7.rel (p8.trans (p9.trans p10).any)
                                        have px := p7.trans pu
                                        have sx := px.safe g1' g2 g3
                                        refine ⟨vbcc, s10.1, by rw [g4.length]; exact hsz, F10, wipeE ρ9 vs1, bcc ++ [d], vbcc ++ [v], rfl, hlt2, fun a o h => px.mono a o (n1 a o h), (pw.trans px.any).bump hD sx.2.1 sx.2.2, f1, upd_same, sx.2.1, sx.2.2, (g4.mono px.mono).append (.one rv)⟩
                                      · cases f1
                        · have ej : j = es.length := by omega
                          subst ej
                          rw [List.drop_length] at f1
                          cases f1
                          obtain ⟨pz, oz⟩ := pw.unwipe2
                          refine .inl ⟨wk1.stop es.length H7 (fun a o h => pw.rel.sub a o (n1 a o h)) (Nat.le_refl _), F6, _, _, vbcc, rfl, hlt, pz.mono, pz, e1, g1', g2, fun z => g3 (oz _ z), g4⟩
        · have ei : i = ds.length := by omega
          subst ei
          rw [List.drop_length] at e1
          cases e1
          refine .inl ⟨wk.stop ds.length H2 (fun a o h => p1.rel.sub a o (m1 a o h)) (Nat.le_refl _), hp _ F1 H2 (p.trans p1) ⟨.own d1 d2 (.lst d4), fun a e _ => ?_⟩⟩
          cases e
          exact ⟨d3, p.gone hD⟩
end
end L2.Fn
set_option maxRecDepth 100000
set_option maxHeartbeats 4000000
/-! FnM: the rules of FnL as judgements; sorted of tuples. -/
namespace L2.Fn
open PySem PySem.Spec PyProof.Rows L2
section
variable {X : Cx} {cm : Wd} {W : WX} {P : Nat → Bool} {pos : Pos} {wi : TI} {g : TG} {tt : TT} {te : TE} {mi : ME (List D)} {mg : MG} {mt : ME Bool} {me : ME D} {elt kx vx tgt iter : Expr} {ifs : List Expr} {scope : Scope} {own : List (Str × Nat)}
theorem oe_dc {tk tv : TE} {mk mv : ME D} (hc : X.calm = true) (hN : X.N.Nodup) (hi : IE X cm W tgt iter wi mi) (ok : BlkOk X.N X.env.scope scope own)
    (hg : ∀ (s : Shared) (H : Hp) (C : Addr) (cl : List (Str × Addr)) (fp : List Addr), GE (X.blk s H scope (compEnvC scope cl C X.env) fp) cm (pinOut (own.map (·.2))) tgt g mg)
    (ht : ∀ (s : Shared) (H : Hp) (C : Addr) (cl : List (Str × Addr)) (fp : List Addr), IFs (X.blk s H scope (compEnvC scope cl C X.env) fp) cm WF ifs tt mt)
    (hk : ∀ (s : Shared) (H : Hp) (C : Addr) (cl : List (Str × Addr)) (fp : List Addr), DE (X.blk s H scope (compEnvC scope cl C X.env) fp) cm WF kx tk mk)
    (he : ∀ (s : Shared) (H : Hp) (C : Addr) (cl : List (Str × Addr)) (fp : List Addr), DE (X.blk s H scope (compEnvC scope cl C X.env) fp) cm WF vx tv mv) (hs : ∀ x, foldedSetIterable iter X.env x = pure x := by intro _; rfl) :
    OE X cm W (.DictComp kx vx [⟨tgt, iter, ifs, 0⟩] scope pos) (tDc wi g tt tk tv (own.map (·.2))) (mDc mi mg mt mk mv (own.map (·.2))) :=
  ⟨pe_dc hc hN hi.pi ok (fun s H C cl fp => (hg s H C cl fp).pg) (fun s H C cl fp => (ht s H C cl fp).pts) (fun s H C cl fp => (hk s H C cl fp).pe) (fun s H C cl fp => (he s H C cl fp).pe) hs,
    sim_dc hi.sim (hg X.s_0 X.H_0 0 [] []).sim (ht X.s_0 X.H_0 0 [] []).sim (hk X.s_0 X.H_0 0 [] []).sim (he X.s_0 X.H_0 0 [] []).sim⟩
theorem oe_lc2 {tgt1 iter1 : Expr} {ifs1 : List Expr} {vs1 : List Nat} {wi1 : TI} {g1 : TG} {tt1 : TT} {mi1 : ME (List D)} {mg1 : MG} {mt1 : ME Bool} (hc : X.calm = true) (hN : X.N.Nodup) (hi : IE X cm W tgt iter wi mi) (ok : BlkOk X.N X.env.scope scope own) (hv : ∀ i ∈ vs1, i ∈ own.map (·.2))
    (hg : ∀ (s : Shared) (H : Hp) (C : Addr) (cl : List (Str × Addr)) (fp : List Addr), GE (X.blk s H scope (compEnvC scope cl C X.env) fp) cm (pinOut (own.map (·.2))) tgt g mg)
    (ht : ∀ (s : Shared) (H : Hp) (C : Addr) (cl : List (Str × Addr)) (fp : List Addr), IFs (X.blk s H scope (compEnvC scope cl C X.env) fp) cm WF ifs tt mt)
    (hi1 : ∀ (s : Shared) (H : Hp) (C : Addr) (cl : List (Str × Addr)) (fp : List Addr), IE (X.blk s H scope (compEnvC scope cl C X.env) fp) cm WF tgt1 iter1 wi1 mi1)
    (hg1 : ∀ (s : Shared) (H : Hp) (C : Addr) (cl : List (Str × Addr)) (fp : List Addr), GE (X.blk s H scope (compEnvC scope cl C X.env) fp) cm (pinOut vs1) tgt1 g1 mg1)
    (ht1 : ∀ (s : Shared) (H : Hp) (C : Addr) (cl : List (Str × Addr)) (fp : List Addr), IFs (X.blk s H scope (compEnvC scope cl C X.env) fp) cm WF ifs1 tt1 mt1)
    (he : ∀ (s : Shared) (H : Hp) (C : Addr) (cl : List (Str × Addr)) (fp : List Addr), DE (X.blk s H scope (compEnvC scope cl C X.env) fp) cm WF elt te me) (hs : ∀ x, foldedSetIterable iter X.env x = pure x := by intro _; rfl) (hs1 : ∀ env x, foldedSetIterable iter1 env x = pure x := by intro _ _; rfl) :
    OE X cm W (.ListComp elt [⟨tgt, iter, ifs, 0⟩, ⟨tgt1, iter1, ifs1, 0⟩] scope pos) (tLc2 wi g tt wi1 g1 tt1 te (own.map (·.2)) vs1) (mLc2 mi mg mt mi1 mg1 mt1 me (own.map (·.2)) vs1) :=
  ⟨pe_lc2 hc hN hi.pi ok hv (fun s H C cl fp => (hg s H C cl fp).pg) (fun s H C cl fp => (ht s H C cl fp).pts) (fun s H C cl fp => (hi1 s H C cl fp).pi) (fun s H C cl fp => (hg1 s H C cl fp).pg) (fun s H C cl fp => (ht1 s H C cl fp).pts) (fun s H C cl fp => (he s H C cl fp).pe) hs hs1,
    sim_lc2 hv hi.sim (hg X.s_0 X.H_0 0 [] []).sim (ht X.s_0 X.H_0 0 [] []).sim (hi1 X.s_0 X.H_0 0 [] []).sim (hg1 X.s_0 X.H_0 0 [] []).sim (ht1 X.s_0 X.H_0 0 [] []).sim (he X.s_0 X.H_0 0 [] []).sim⟩
end

/-! ### sorted of tuples of ints -/
def tupsD : List D → Option (List (List Int))
  | [] => some []
  | .tup ds :: r => match intsD ds, tupsD r with
    | some ns, some nss => some (ns :: nss)
    | _, _ => none
  | _ :: _ => none
theorem intsD_eq : ∀ {ds : List D} {ns : List Int}, intsD ds = some ns → ds = ns.map D.int
  | [], ns, e => by cases e; rfl
  | d :: ds, ns, e => by
    cases d <;> simp only [intsD] at e <;> try (cases e; done)
    cases q : intsD ds with
    | none => rw [q] at e; cases e
    | some ms => rw [q] at e; cases e; rw [intsD_eq q]; rfl
theorem tupsD_eq : ∀ {ds : List D} {nss : List (List Int)}, tupsD ds = some nss → ds = nss.map fun ns => D.tup (ns.map D.int)
  | [], nss, e => by cases e; rfl
  | d :: ds, nss, e => by
    cases d with
    | tup xs =>
      simp only [tupsD] at e
      cases q1 : intsD xs with
      | none => rw [q1] at e; cases e
      | some ns =>
        cases q2 : tupsD ds with
        | none => rw [q1, q2] at e; cases e
        | some mss => rw [q1, q2] at e; cases e; rw [tupsD_eq q2, intsD_eq q1]; rfl
    | _ => cases e
theorem RepL.perm {K : PySem.W.Frag} {cl : Str → Addr} {F : Hp} {α : Type} {f : α → D} {vs ws : List V} (p : ws.Perm vs) : ∀ {as : List α}, RepL K cl F vs (as.map f) → ∃ bs : List α, bs.Perm as ∧ RepL K cl F ws (bs.map f) := by
  induction p with
  | nil => intro as h; exact ⟨as, .refl _, h⟩
  | cons x p ih =>
    intro as h
    cases as with
    | nil => cases h
    | cons a as => cases h with | cons h1 h2 =>
      obtain ⟨bs, p', h'⟩ := ih h2
      exact ⟨a :: bs, p'.cons a, .cons h1 h'⟩
  | swap x y l =>
    intro as h
    cases as with
    | nil => cases h
    | cons a as => cases h with | cons h1 h2 =>
      cases as with
      | nil => cases h2
      | cons b as => cases h2 with | cons h2 h3 => exact ⟨b :: a :: as, .swap a b as, .cons h2 (.cons h1 h3)⟩
  | trans p q ih1 ih2 =>
    intro as h
    obtain ⟨bs, p1, h1⟩ := ih2 h
    obtain ⟨cs, p2, h2⟩ := ih1 h1
    exact ⟨cs, p2.trans p1, h2⟩
theorem sorted_uniqueC {α : Type} {code : α → Int} : ∀ {xs ys : List α}, (∀ x ∈ xs, ∀ y ∈ xs, code x = code y → x = y) → xs.Perm ys → xs.Pairwise (fun a b => code a ≤ code b) → ys.Pairwise (fun a b => code a ≤ code b) → xs = ys
  | [], ys, _, p, _, _ => by simpa using p.symm.eq_nil.symm
  | x :: xs, [], _, p, _, _ => absurd p.eq_nil (by simp)
  | x :: xs, y :: ys, inj, p, h1, h2 => by
    have hx : x ∈ y :: ys := p.subset List.mem_cons_self
    have hy : y ∈ x :: xs := p.symm.subset List.mem_cons_self
    obtain ⟨a1, a2⟩ := List.pairwise_cons.mp h1
    obtain ⟨b1, b2⟩ := List.pairwise_cons.mp h2
    have e : x = y := by
      rcases List.mem_cons.mp hx with e | hx
      · exact e
      · rcases List.mem_cons.mp hy with e | hy'
        · exact e.symm
        · have q1 := a1 y hy'
          have q2 := b1 x hx
          exact inj x List.mem_cons_self y hy (by omega)
    subst e
    rw [sorted_uniqueC (fun a ha b hb => inj a (List.mem_cons_of_mem _ ha) b (List.mem_cons_of_mem _ hb)) (List.Perm.cons_inv p) a2 b2]
theorem code_inj {B : Int} : ∀ {ns ms : List Int}, ns.length = ms.length → TS.Bd B ns → TS.Bd B ms → TS.code B ns = TS.code B ms → ns = ms
  | [], [], _, _, _, _ => rfl
  | a :: ns, b :: ms, hl, h1, h2, e => by
    have hl' : ns.length = ms.length := by simpa using hl
    rcases Int.lt_trichotomy a b with z | z | z
    · have := TS.code_lt hl' h1.tail h2.tail z; omega
    · subst z
      have : TS.code B ns = TS.code B ms := by
        have e : a * B ^ ns.length + TS.code B ns = a * B ^ ms.length + TS.code B ms := e
        rw [hl'] at e; omega
      rw [code_inj hl' h1.tail h2.tail this]
    · have := TS.code_lt hl'.symm h2.tail h1.tail z; omega
def sortT (B : Int) (nss : List (List Int)) : List (List Int) := nss.mergeSort fun a b => decide (TS.code B a ≤ TS.code B b)
theorem sortT_perm (B : Int) (nss : List (List Int)) : (sortT B nss).Perm nss := List.mergeSort_perm nss _
theorem sortT_sorted (B : Int) (nss : List (List Int)) : (sortT B nss).Pairwise fun a b => TS.code B a ≤ TS.code B b := by
  have := List.pairwise_mergeSort (le := fun a b : List Int => decide (TS.code B a ≤ TS.code B b)) (fun a b c h1 h2 => by simp at *; omega) (fun a b => by simp; omega) nss
  exact this.imp fun h => by simpa using h
def bdT (d : Nat) (B : Int) (ns : List Int) : Bool := decide (ns.length = d) && ns.all fun m => decide (0 ≤ m) && decide (m < B)
theorem bdT_ok {d : Nat} {B : Int} {ns : List Int} (h : bdT d B ns = true) : ns.length = d ∧ TS.Bd B ns := by
  unfold bdT at h
  rw [Bool.and_eq_true, List.all_eq_true] at h
  refine ⟨by simpa using h.1, fun m hm => ?_⟩
  have := h.2 m hm
  simpa using this
def gSortT (d : Nat) (B : Int) : D → Option S
  | .lst xs => (tupsD xs).bind fun nss => if nss.length < 64 ∧ nss.all (bdT d B) = true then some (.lst ((sortT B nss).map fun ns => D.tup (ns.map D.int))) else none
  | _ => none
section
variable {X : Cx} {cm : Wd}
theorem Rep.tupI {K : PySem.W.Frag} {F H : Hp} {x : V} {ns : List Int} (m : ∀ a o, F a = some o → H a = some o) (h : Rep K cm F x (.tup (ns.map D.int))) : TupI K H x ns := by
  cases h with
  | @tup a vs _ h1 h2 =>
    have := h2.ints (intsD_map ns)
    subst this
    exact ⟨a, rfl, SqT.of (m _ _ h1)⟩
theorem cd_sortT {d : Nat} {B : Int} : CallD1 X cm (rSortU X.K d B) (gSortT d B) := by
  intro F σ H ρ x dx s Q hr hx hg hQ
  cases hx with
  | @lst a vs xs h r =>
    simp only [gSortT] at hg
    cases q : tupsD xs with
    | none => rw [q] at hg; cases hg
    | some nss =>
      rw [q] at hg
      simp only [Option.bind_some] at hg
      split at hg
      · rename_i hc
        cases hg
        have e := tupsD_eq q
        subst e
        have all := List.all_eq_true.mp hc.2
        refine ⟨a, vs, rfl, SqL.of (hr.sub _ _ h), by rw [r.length]; simpa using hc.1, fun x hx => ?_, fun ys p hp hs hn => ?_⟩
        · obtain ⟨i, hi⟩ := List.mem_iff_getElem?.mp hx
          obtain ⟨d', e1, e2⟩ := r.get_lt hi
          rw [List.getElem?_map] at e1
          cases q2 : nss[i]? with
          | none => rw [q2] at e1; cases e1
          | some ns =>
            rw [q2] at e1
            cases e1
            have b := bdT_ok (all ns (List.mem_of_getElem? q2))
            exact ⟨ns, e2.tupI hr.sub, b.1, b.2⟩
        · obtain ⟨mss, p1, r1⟩ := RepL.perm hp r
          have hpw : mss.Pairwise fun a b => TS.code B a ≤ TS.code B b := by
            clear p1 hp
            induction ys generalizing mss with
            | nil => cases mss with
              | nil => exact .nil
              | cons _ _ => cases r1
            | cons y ys ih =>
              cases mss with
              | nil => exact .nil
              | cons m mss =>
                cases r1 with
                | cons r2 r3 =>
                  obtain ⟨h1, h2⟩ := List.pairwise_cons.mp hs
                  refine List.pairwise_cons.mpr ⟨fun b hb => ?_, ih h2 mss r3⟩
                  obtain ⟨i, hi⟩ := List.mem_iff_getElem?.mp hb
                  obtain ⟨v, e1, e2⟩ := r3.get (i := i) (d := D.tup (b.map D.int)) (by rw [List.getElem?_map, hi]; rfl)
                  exact h1 v (List.mem_of_getElem? e1) _ _ (r2.tupI hr.sub) (e2.tupI hr.sub)
          have e : mss = sortT B nss := sorted_uniqueC (fun a ha b hb => by
            have ba := bdT_ok (all a (p1.subset ha))
            have bb := bdT_ok (all b (p1.subset hb))
            exact code_inj (by rw [ba.1, bb.1]) ba.2 bb.2) (p1.trans (sortT_perm B nss).symm) hpw (sortT_sorted B nss)
          subst e
          exact hQ _ _ _ (Post.warm hr hn) (rd_lst hr hn r1)
      · cases hg
  | _ => cases hg
end
end L2.Fn
set_option maxRecDepth 100000
set_option maxHeartbeats 4000000
/-! FnW: short words for printed derivations. -/
namespace L2.Fn
open PySem PySem.Spec PyProof.Rows L2

/-! ### comprehension blocks -/
def nkB (a : Option NameKind) (b : NameKind) : Bool := a == some b
def blkB (N : List Str) (sc scope : Scope) (own : List (Str × Nat)) : Bool :=
  (scope.kind == .function) && (scope.names.all fun y => scope.names.lookup y.1 == some y.2) && (own.all fun p => N[p.2]? == some p.1) &&
    (scope.names.all fun y => !(y.2 == .free) || (sc.names.lookup y.1 == some .cell || sc.names.lookup y.1 == some .free)) &&
    (scope.names.all fun y => !(y.2 == .local || y.2 == .cell) || ((own.map (·.1)).contains y.1 || !N.contains y.1))
theorem blk_ok {N : List Str} {sc scope : Scope} {own : List (Str × Nat)} (h : blkB N sc scope own = true) : BlkOk N sc scope own := by
  unfold blkB at h
  simp only [Bool.and_eq_true, List.all_eq_true, Bool.or_eq_true, Bool.not_eq_true', beq_iff_eq] at h
  obtain ⟨⟨⟨⟨h1, h2⟩, h3⟩, h4⟩, h5⟩ := h
  refine ⟨?_, fun y hy => h2 y hy, fun p hp => h3 p hp, fun y hy e => ?_, fun y hy e => ?_⟩
  · revert h1; cases scope.kind <;> intro h1 <;> first | rfl | cases h1
  · rcases h4 y hy with z | z
    · rw [e] at z; cases z
    · exact z
  · rcases h5 y hy with z | z
    · rcases e with e | e
      · rw [e] at z; cases z
      · rw [e] at z; cases z
    · rcases z with z | z
      · exact .inl (by simpa using z)
      · exact .inr (by simpa using z)
theorem takes_WF {X : Cx} : Takes X WF := fun u s' ⟨_, _, _, _, _, _, _, _, _, _, _, _, _, _, _, _, w⟩ => w.elim

section
variable {X : Cx} {cm : Wd} {W : WX} {P : Nat → Bool} {x : Str} {e a b c : Expr} {es : List Expr} {t ta tb tc : TE} {ts tk : TA} {m ma mb mc : ME D} {mo : ME S} {ms : ME (List Ar)} {pos p px apos p' pos' tpos : Pos}
theorem de_v (i : Nat) (hN : X.N[i]? = some x := by rfl) (hv : Vis X.env.scope x := by first | exact Or.inl rfl | exact Or.inr (Or.inl rfl) | exact Or.inr (Or.inr rfl)) (hd : (x == ("__debug__" : Str)) = false := by decide) (hcd : (x == ("__classdict__" : Str)) = false := by decide) : DE X cm W (.Name x pos) (tVar i) (mVar i) := de_var hN hv hd hcd
theorem oe_v (i : Nat) (hN : X.N[i]? = some x := by rfl) (hv : Vis X.env.scope x := by first | exact Or.inl rfl | exact Or.inr (Or.inl rfl) | exact Or.inr (Or.inr rfl)) (hd : (x == ("__debug__" : Str)) = false := by decide) (hcd : (x == ("__classdict__" : Str)) = false := by decide) : OE X cm W (.Name x pos) (tVar i) (mMove i) := oe_move hN hv hd hcd
theorem ce_v (i : Nat) (hs : CE' X cm W es ts ms) (hN : X.N[i]? = some x := by rfl) (hv : Vis X.env.scope x := by first | exact Or.inl rfl | exact Or.inr (Or.inl rfl) | exact Or.inr (Or.inr rfl)) (hd : (x == ("__debug__" : Str)) = false := by decide) (hcd : (x == ("__classdict__" : Str)) = false := by decide)
    (h : starEach (.Name x px :: es) X.env = (false, eval (.Name x px) X.env) :: starEach es X.env := by rfl) : CE' X cm W (.Name x px :: es) (tCons (tVar i) ts) (mIo i ms) := ce_io hs hN hv hd hcd h
theorem de_fv (i : Nat) {L : List Str} {f : Str} (hL : FldOk X.K cm L f) (hN : X.N[i]? = some x := by rfl) (hv : Vis X.env.scope x := by first | exact Or.inl rfl | exact Or.inr (Or.inl rfl) | exact Or.inr (Or.inr rfl)) (hd : (x == ("__debug__" : Str)) = false := by decide) (hcd : (x == ("__classdict__" : Str)) = false := by decide)
    (hb : attributeBase (.Name x px) f X.env (eval (.Name x px) X.env) = eval (.Name x px) X.env := by rfl) : DE X cm W (.Attribute (.Name x px) f pos) (tFld X.K (tVar i) f) (mFldN L f i) := de_fldN hL hN hv hd hcd hb
theorem de_ixv (i : Nat) (hb : DE X cm W b tb mb) (hN : X.N[i]? = some x := by rfl) (hv : Vis X.env.scope x := by first | exact Or.inl rfl | exact Or.inr (Or.inl rfl) | exact Or.inr (Or.inr rfl)) (hd : (x == ("__debug__" : Str)) = false := by decide) (hcd : (x == ("__classdict__" : Str)) = false := by decide) (hs : PlainIx b := by exact fun _ _ => rfl) : DE X cm W (.Subscript (.Name x px) b pos) (tOp (rIx X.K) (tVar i) tb) (mIxN i mb) := de_ixN hN hv hb hs hd hcd
theorem ge_v (i : Nat) (hnd : X.N.Nodup) (hi : X.N[i]? = some x := by rfl) (hx : Loc X.env.scope x := by first | exact Or.inl rfl | exact Or.inr rfl) (hP : P i = false := by rfl) (hf : X.fn x = true ∨ X.env.scope.names.lookup x = some .local := by first | exact Or.inl rfl | exact Or.inr rfl) : GE X cm P (.Name x pos) (gName i) (gSetM i) := ge_name hnd hi hx hP hf
end
/-! ### what is known of a def, a class, an error -/
structure Cal (P : Program) (w : World) (K : PySem.W.Frag) (mg : Str → Option Value) (base : Heap) (cm : Wd) (x : Str) (k n : Nat) (f : Fun') : Prop where
  ok : ∃ fd ps, FnOk P w K mg base (L2.CX P w) k (He.ga K x) fd ps (spOf K cm n f) ∧ Binds K fd ps []
  g : mg x = some (.ref (He.ga K x))
  kp : PySem.W.keepIn K (.ref (He.ga K x)) = true
structure Mak (P : Program) (w : World) (K : PySem.W.Frag) (mg : Str → Option Value) (base : Heap) (cm : Wd) (C : Str) (k n : Nat) (ks : List Str) (f : Fun') : Prop where
  ok : ∃ fd ps g, FnOk P w K mg base (L2.CX P w) k (He.ma K (cm C) "__init__") fd ps (spOf K cm (n + 1 + ks.length) f) ∧ KBn K fd ps (n + 1) ks g (fun vs zs => vs ++ zs)
  mkr : Mk K (cm C) (He.ma K (cm C) "__init__")
  g : mg C = some (.ref (cm C))
structure ErrP (P : Program) (w : World) (K : PySem.W.Frag) (mg : Str → Option Value) (base : Heap) (cm : Wd) (C f : Str) : Prop where
  T : OexC K (cm C)
  iC : PySem.W.findIn K (.ref (cm C)) "__init__" = some (some (.ref (He.ma K (cm C) "__init__")))
  tI : PySem.W.typeIn K (.ref (He.ma K (cm C) "__init__")) = some (.type "function")
  ok : ∃ fd ps, FnOk P w K mg base CX0 1 (He.ma K (cm C) "__init__") fd ps (spExc (cm C) f) ∧ Binds K fd ps []
  g : mg C = some (.ref (cm C))
def Ln (ms : ME (List Ar)) (n : Nat) : Prop := ∀ ρ as ρ', ms ρ = some (.ok as ρ') → as.length = n
theorem ln_nil : Ln aNil 0 := fun _ _ _ h => an_nil h
theorem ln_cons {m : ME D} {ms : ME (List Ar)} {n : Nat} (h : Ln ms n) : Ln (aCons m ms) (n + 1) := fun _ _ _ q => an_cons h q
theorem ln_io {j : Nat} {ms : ME (List Ar)} {n : Nat} (h : Ln ms n) : Ln (mIo j ms) (n + 1) := fun _ _ _ q => an_io h q
section
variable {X : Cx} {cm : Wd} {W : WX} {P : Nat → Bool} {x C f' : Str} {e a b c : Expr} {es : List Expr} {kws : List Keyword} {t ta tb tc : TE} {ts tk : TA} {m ma mb mc : ME D} {ms : ME (List Ar)} {f : Fun'} {k n : Nat} {ks : List Str} {pos p px p' : Pos}
theorem oe_cal (Cl : Cal X.prog X.w X.K X.mg X.base cm x k n f) (hr : Room k X.A) (hg : Gl X x) (tk : Takes X W) (hs : CE' X cm W (e :: es) ts ms) (hn : Ln ms n)
    (hdb : (x == ("__debug__" : Str)) = false := by decide) (he : starEach (e :: es) X.env = (false, eval e X.env) :: starEach es X.env := by rfl) (hpl : (backTo pos (starEach es X.env)).any (·.1) = false := by rfl) :
    OE X cm W (.Call (.Name x p) (e :: es) [] pos) (tCallSD (spOf X.K cm n f) [] (WE W) ts) (mCall f [] ms) := by
  obtain ⟨fd, ps, h1, h2⟩ := Cl.ok
  exact oe_call h1 hr hg Cl.g Cl.kp h2 .nil (fun _ => .nil) tk hs hn hdb he hpl
theorem oe_mak {ms mk : ME (List D)} (M : Mak X.prog X.w X.K X.mg X.base cm C k n ks f) (hr : Room (k + 1) X.A) (hg : Gl X C) (tk' : Takes X W) (hs : AE X cm W (e :: es) ts ms) (hk : KE' X cm W kws tk mk)
    (hall : (backToKw pos (keywordEach kws X.env)).all (·.1.isSome) = true := by rfl) (hks : (backToKw pos (keywordEach kws X.env)).filterMap (·.1) = ks := by rfl) (hdb : (C == ("__debug__" : Str)) = false := by decide)
    (he : starEach (e :: es) X.env = (false, eval e X.env) :: starEach es X.env := by rfl) (hpl : ((backTo pos (starEach (e :: es) X.env)).any (·.1) || (backToKw pos (keywordEach kws X.env)).any (·.1.isNone)) = false := by rfl) :
    OE X cm W (.Call (.Name C p) (e :: es) kws pos) (tMakeKS (cm C) n ks.length (spOf X.K cm (n + 1 + ks.length) f) (fun vs zs => vs ++ zs) (WE W) ts tk) (mMakeK C f n ks.length ms mk) := by
  obtain ⟨fd, ps, g, h1, h2⟩ := M.ok
  exact oe_makeK M.mkr h1 hr hg M.g h2 tk' hs hk hall hks hdb he hpl
theorem se_rais (E : ErrP X.prog X.w X.K X.mg X.base cm C f') (hc : X.calm = true) (tk : Takes X W) (hr : Room 2 X.A) (hg : Gl X C) (ha : DE X cm W a ta ma)
    (hdb : (C == ("__debug__" : Str)) = false := by decide) (he : starEach (a :: []) X.env = (false, eval a X.env) :: starEach [] X.env := by rfl) (hpl : (backTo pos (starEach [] X.env)).any (·.1) = false := by rfl) :
    SE X cm W P (.Raise (some (.Call (.Name C p) [a] [] pos)) none p') (fun _ σ H => tMkO (cm C) (spExc (cm C) f') [] (tCons ta tNil) σ H fun cls d H' => W cls d σ H') (sRaise1 C f' ma) := by
  obtain ⟨fd, ps, h1, h2⟩ := E.ok
  exact se_raise1 hc tk E.T E.iC E.tI h1 hr h2 hg E.g ha hdb he hpl
end

theorem u1 {k : Nat} {A : Around} (r : Room k A) : A.units + 1 < cLine := by have := r.units; omega
def cmOf (K : PySem.W.Frag) : Wd := ⟨fun C => He.ga K C, fun _ _ _ _ => False⟩
end L2.Fn
set_option maxRecDepth 100000
set_option maxHeartbeats 4000000
/-! FnX: the words with K told, so that a comprehension's reading leans on nothing of its block. -/
namespace L2.Fn
open PySem PySem.Spec PyProof.Rows L2
section
variable {X : Cx} {cm : Wd} {W : WX} {P : Nat → Bool} {x f' C : Str} {e a b c tgt : Expr} {es : List Expr} {t ta tb tc te : TE} {ts tk : TA} {m ma mb mc : ME D} {mo : ME S} {ms : ME (List Ar)} {pos p px apos p' pos' tpos p2 : Pos} {f : Fun'} {k n : Nat}
theorem k_fv (K : PySem.W.Frag) (i : Nat) {L : List Str} {f : Str} (hL : FldOk K cm L f) (hK : X.K = K := by rfl) (hN : X.N[i]? = some x := by rfl) (hv : Vis X.env.scope x := by first | exact Or.inl rfl | exact Or.inr (Or.inl rfl) | exact Or.inr (Or.inr rfl)) (hd : (x == ("__debug__" : Str)) = false := by decide) (hcd : (x == ("__classdict__" : Str)) = false := by decide)
    (hb : attributeBase (.Name x px) f X.env (eval (.Name x px) X.env) = eval (.Name x px) X.env := by rfl) : DE X cm W (.Attribute (.Name x px) f pos) (tFld K (tVar i) f) (mFldN L f i) := by subst hK; exact de_fldN hL hN hv hd hcd hb
theorem k_fld (K : PySem.W.Frag) {L : List Str} {f : Str} (hL : FldOk K cm L f) (h : DE X cm W e t m) (hK : X.K = K := by rfl) (hb : attributeBase e f X.env (eval e X.env) = eval e X.env := by rfl) : DE X cm W (.Attribute e f pos) (tFld K t f) (mFld L f m) := by subst hK; exact de_fld hL h hb
theorem k_con (K : PySem.W.Frag) {L : List (Str × D)} {f : Str} (hL : ConOk K cm L f) (h : DE X cm W e t m) (hK : X.K = K := by rfl) (hb : attributeBase e f X.env (eval e X.env) = eval e X.env := by rfl) : DE X cm W (.Attribute e f pos) (tCon K t f) (mCon L f m) := by subst hK; exact de_con hL h hb
theorem k_ix (K : PySem.W.Frag) (ha : DE X cm W a ta ma) (hb : DE X cm W b tb mb) (hK : X.K = K := by rfl) (hs : PlainIx b := by exact fun _ _ => rfl) : DE X cm W (.Subscript a b pos) (tOp (rIx K) ta tb) (mIx ma mb) := by subst hK; exact de_ix ha hb hs
theorem k_ixv (K : PySem.W.Frag) (i : Nat) (hb : DE X cm W b tb mb) (hK : X.K = K := by rfl) (hN : X.N[i]? = some x := by rfl) (hv : Vis X.env.scope x := by first | exact Or.inl rfl | exact Or.inr (Or.inl rfl) | exact Or.inr (Or.inr rfl)) (hd : (x == ("__debug__" : Str)) = false := by decide) (hcd : (x == ("__classdict__" : Str)) = false := by decide) (hs : PlainIx b := by exact fun _ _ => rfl) : DE X cm W (.Subscript (.Name x px) b pos) (tOp (rIx K) (tVar i) tb) (mIxN i mb) := by subst hK; exact de_ixN hN hv hb hs hd hcd
theorem k_len (K : PySem.W.Frag) (hm : X.mg "len" = none) (h : DE X cm W a ta ma) (hK : X.K = K := by rfl) (hg : Gl X "len" := by rfl)
    (h1 : starEach (a :: []) X.env = (false, eval a X.env) :: starEach [] X.env := by rfl) (hpl : (backTo pos (starEach [] X.env)).any (·.1) = false := by rfl) : DE X cm W (.Call (.Name "len" p) [a] [] pos) (tCB (fun xs H Q => ∃ x n, xs = [x] ∧ LenV K x H n ∧ Q (.int n) H) (tCons ta tNil)) (mLen ma) := by
  subst hK; exact de_len hg hm h (by decide) (by decide) h1 hpl
theorem k_lenv (K : PySem.W.Frag) (i : Nat) (hm : X.mg "len" = none) (hK : X.K = K := by rfl) (hN : X.N[i]? = some x := by rfl) (hv : Vis X.env.scope x := by first | exact Or.inl rfl | exact Or.inr (Or.inl rfl) | exact Or.inr (Or.inr rfl)) (hd : (x == ("__debug__" : Str)) = false := by decide) (hcd : (x == ("__classdict__" : Str)) = false := by decide) (hg : Gl X "len" := by rfl)
    (h1 : starEach (.Name x px :: []) X.env = (false, eval (.Name x px) X.env) :: starEach [] X.env := by rfl) (hpl : (backTo pos (starEach [] X.env)).any (·.1) = false := by rfl) :
    DE X cm W (.Call (.Name "len" p) [.Name x px] [] pos) (tCB (fun xs H Q => (∃ x n, xs = [x] ∧ LenV K x H n ∧ Q (.int n) H) ∨ ∃ p kvs, xs = [.ref p] ∧ H p = some (.dK kvs) ∧ Q (.int kvs.length) H) (tCons (tVar i) tNil)) (mLenN i) := by
  subst hK; exact de_lenN hg hm hN hv hd hcd (by decide) (by decide) h1 hpl
theorem k_sl (K : PySem.W.Frag) {lo hi : Option Expr} {tl th : TO} {ml mh : ME (Option Int)} (h : DE X cm W a ta ma) (hl : OEp X cm W lo tl ml) (hh : OEp X cm W hi th mh) (hK : X.K = K := by rfl) : OE X cm W (.Subscript a (.Slice lo hi none p2) pos) (tSl (rSlL K) ta tl th) (mSlL ma ml mh) := by subst hK; exact oe_slL h hl hh
theorem k_eq (K : PySem.W.Frag) (hu : X.A.units + 64 < cLine) (hK : X.K = K := by rfl) : OpR X (compareOp .Eq) (rEqD K) := by subst hK; exact op_eqD hu
theorem k_ne (K : PySem.W.Frag) (hu : X.A.units + 64 < cLine) (hK : X.K = K := by rfl) : OpR X (compareOp .NotEq) (rNeD K) := by subst hK; exact op_neD hu
theorem k_in (K : PySem.W.Frag) (hK : X.K = K := by rfl) : OpR X (compareOp .In) (rIn K false) := by subst hK; exact op_in_seq
theorem k_nin (K : PySem.W.Frag) (hK : X.K = K := by rfl) : OpR X (compareOp .NotIn) (rIn K true) := by subst hK; exact op_notIn_seq
theorem k_inv (K : PySem.W.Frag) (neg : Bool) (i : Nat) {op : CmpOp} (hx : OpR X (compareOp op) (rIn K neg)) (ha : DE X cm W a ta ma) (hK : X.K = K := by rfl) (hN : X.N[i]? = some x := by rfl) (hv : Vis X.env.scope x := by first | exact Or.inl rfl | exact Or.inr (Or.inl rfl) | exact Or.inr (Or.inr rfl)) (hd : (x == ("__debug__" : Str)) = false := by decide) (hcd : (x == ("__classdict__" : Str)) = false := by decide) (hm : behindInMarks op (.Name x px) = false := by rfl) :
    OE X cm W (.Compare a [op] [.Name x px] pos) (tOp (rIn K neg) ta (tVar i)) (mInN neg i ma) := by subst hK; exact oe_inN neg hx ha hN hv hd hcd hm
theorem k_tinv (K : PySem.W.Frag) (neg : Bool) (i : Nat) {op : CmpOp} (hx : OpR X (compareOp op) (rIn K neg)) (ha : DE X cm W a ta ma) (hK : X.K = K := by rfl) (hN : X.N[i]? = some x := by rfl) (hv : Vis X.env.scope x := by first | exact Or.inl rfl | exact Or.inr (Or.inl rfl) | exact Or.inr (Or.inr rfl)) (hd : (x == ("__debug__" : Str)) = false := by decide) (hcd : (x == ("__classdict__" : Str)) = false := by decide) (hm : behindInMarks op (.Name x px) = false := by rfl) :
    TEs X cm W (.Compare a [op] [.Name x px] pos) (tTest (tOp (rIn K neg) ta (tVar i))) (mTest (mInN neg i ma)) := by subst hK; exact te_inN neg hx ha hN hv hd hcd hm
theorem k_seq (K : PySem.W.Frag) (h : DE X cm W e te m) (hK : X.K = K := by rfl) : IE X cm W tgt e (iSeq K te) (mItems m) := by subst hK; exact ie_seq h
theorem k_enum (K : PySem.W.Frag) {elts : List Expr} {kk : Nat} (hm : X.mg "enumerate" = none) (h : DE X cm W a ta ma) (hK : X.K = K := by rfl) (hg : Gl X "enumerate" := by rfl) (h1 : starEach (a :: []) X.env = (false, eval a X.env) :: starEach [] X.env := by rfl) (hs : starEach [a] X.env = [(false, eval a X.env)] := by rfl) :
    IE X cm W (.Tuple elts kk tpos) (.Call (.Name "enumerate" p) [a] [] pos) (iEnumS K (tCons ta tNil)) (mEnum ma) := by subst hK; exact ie_enum hg hm h h1 hs
theorem k_tup (K : PySem.W.Frag) {es : List Expr} {kk : Nat} {g : TGs} {ms : MGs} {n : Nat} (hc : X.calm = true) (h : GEs X cm P es g ms) (hK : X.K = K := by rfl) (hn : (assignEach es X.env).length = n := by rfl) (hst : (assignEach es X.env).findIdx? (·.1) = none := by rfl) :
    GE X cm P (.Tuple es kk pos) (gTup K n g) (gTupM n ms) := by subst hK; exact ge_tup hc h hn hst
theorem k_isT (K : PySem.W.Frag) {T : String} {f : String → Bool} {y : Str} (hT : IsT T f) (hm : X.mg "isinstance" = none) (hm2 : X.mg y = none) (hv2 : bootBuiltins y = some (.type T)) (ha : DE X cm W a ta ma) (hK : X.K = K := by rfl) (hg : Gl X "isinstance" := by rfl) (hg2 : Gl X y := by rfl) (hyn : y ≠ "__name__" := by decide) (hyd : (y == ("__debug__" : Str)) = false := by decide)
    (h1 : starEach (.Name y p2 :: []) X.env = (false, eval (.Name y p2) X.env) :: starEach [] X.env := by rfl) (h2 : starEach (a :: [.Name y p2]) X.env = (false, eval a X.env) :: starEach [.Name y p2] X.env := by rfl) (hpl : (backTo pos (starEach [.Name y p2] X.env)).any (·.1) = false := by rfl) :
    OE X cm W (.Call (.Name "isinstance" p) [a, .Name y p2] [] pos) (tCB (rIsi K) (tCons ta (tCons (tC (.ty T)) tNil))) (mIsT f ma) := by subst hK; exact oe_isT hT hg hm hg2 hm2 hv2 ha hyn hyd h1 h2 hpl
theorem k_list (K : PySem.W.Frag) (hK : X.K = K := by rfl) : CallR X (.type "list") (fun xs H Q => ∃ p ys, xs = [.ref p] ∧ (SqL K H p ys ∨ SqT K H p ys) ∧ ∀ l, H l = none → Q (.ref l) (upd H l (.lst ys))) := by subst hK; exact call_list_of
theorem k_tuple (K : PySem.W.Frag) (hK : X.K = K := by rfl) : CallR X (.type "tuple") (fun xs H Q => ∃ p ys, xs = [.ref p] ∧ ((SqL K H p ys ∧ ∀ l, H l = none → Q (.ref l) (upd H l (.tup ys))) ∨ (SqT K H p ys ∧ Q (.ref p) H))) := by subst hK; exact call_tuple_of
theorem k_sorted (K : PySem.W.Frag) (hK : X.K = K := by rfl) : CallR X (.builtin "sorted") (rSortedI K) := by subst hK; exact cr_sortedI
theorem k_sortT (K : PySem.W.Frag) {d : Nat} {B : Int} (hd : 1 ≤ d) (hK : X.K = K := by rfl) : CallR X (.builtin "sorted") (rSortU K d B) := by subst hK; exact cr_sortT hd
theorem k_sum (K : PySem.W.Frag) (hc : X.calm = true) (hK : X.K = K := by rfl) : CallR X (.builtin "sum") (rSum K) := by subst hK; exact cr_sum hc
theorem k_cal (K : PySem.W.Frag) (Cl : Cal X.prog X.w K X.mg X.base cm x k n f) (hr : Room k X.A) (tk : Takes X W) (hs : CE' X cm W (e :: es) ts ms) (hn : Ln ms n) (hK : X.K = K := by rfl) (hg : Gl X x := by rfl)
    (hdb : (x == ("__debug__" : Str)) = false := by decide) (he : starEach (e :: es) X.env = (false, eval e X.env) :: starEach es X.env := by rfl) (hpl : (backTo pos (starEach es X.env)).any (·.1) = false := by rfl) :
    OE X cm W (.Call (.Name x p) (e :: es) [] pos) (tCallSD (spOf K cm n f) [] (WE W) ts) (mCall f [] ms) := by subst hK; exact oe_cal Cl hr hg tk hs hn hdb he hpl
end
end L2.Fn
set_option maxRecDepth 100000
set_option maxHeartbeats 4000000
/-! FnY: facts told by the head, the law's def at its call. -/
namespace L2.Fn
open PySem PySem.Spec PyProof.Rows L2

/-! ### error classes -/
def oexB (K : PySem.W.Frag) (C : Addr) : Bool := (match K.lookup C with
  | some ⟨.type ty, _, .cls cd, sl⟩ => decide (ty = "type") && (match cd.mro, sl.toList with
    | .ref C' :: bm, [_, _, _, _, some (.builtin n), _] => C' == C && n == "ValueError.__new__" && !cd.hasDel && cd.hasDict && PySem.HandSPX.refsVE bm
    | _, _ => false)
  | _ => false) && (decide (PySem.W.findIn K (.ref C) "__setattr__" = some (some (.builtin "object.__setattr__"))) && (decide (PySem.W.subIn K (.ref C) (.type "BaseException") = some true) && (decide (PySem.W.typeIn K (.ref C) = some (.type "type")) && PySem.W.keepIn K (.ref C))))
theorem oexB_ok {K : PySem.W.Frag} {C : Addr} (h : oexB K C = true) : OexC K C := by
  obtain ⟨h1, h⟩ := Bool.and_eq_true_iff.mp h
  obtain ⟨h2, h⟩ := Bool.and_eq_true_iff.mp h
  obtain ⟨h3, h⟩ := Bool.and_eq_true_iff.mp h
  obtain ⟨h4, h5⟩ := Bool.and_eq_true_iff.mp h
  refine ⟨?_, of_decide_eq_true h2, of_decide_eq_true h3, of_decide_eq_true h4, h5⟩
  split at h1
  · rename_i ty dd cd sl ho
    obtain ⟨q1, q2⟩ := Bool.and_eq_true_iff.mp h1
    have e1 := of_decide_eq_true q1
    subst e1
    split at q2
    · rename_i C' bm k0 k1 k2 k3 n k5 hm hs
      simp only [Bool.and_eq_true, beq_iff_eq, Bool.not_eq_true'] at q2
      obtain ⟨⟨⟨⟨e1, e2⟩, e3⟩, e4⟩, e5⟩ := q2
      subst e1 e2
      obtain ⟨n1, n2, n3, n4, n5, n6, n7, n8, n9, n10, n11⟩ := cd
      simp only at hm e3 e4
      subst hm e3 e4
      have es : sl = #[k0, k1, k2, k3, some (.builtin "ValueError.__new__"), k5] := by
        rw [← Array.toList_inj]; exact hs
      subst es
      exact ⟨_, _, _, _, bm, _, _, _, _, _, _, _, _, _, _, ho, e5⟩
    · cases q2
  · cases h1
def excCB (K : PySem.W.Frag) (D : Addr) : Bool := decide (PySem.W.findIn K (.ref D) "__getattribute__" = some (some (.builtin "BaseException.__getattribute__"))) && (decide (PySem.W.findIn K (.ref D) "__getattr__" = some none) && (decide (PySem.W.subIn K (.ref D) (.type "BaseException") = some true) && (PySem.W.hasDictIn K D &&
  (decide (PySem.W.findIn K (.ref D) "__class__" = some (some (.builtin "object.__class__"))) && (decide (PySem.W.specialIn K (.builtin "object.__class__") "__get__" = some (some (.builtin "getset_descriptor.__get__"))) && (decide (PySem.W.takesIn K (.builtin "object.__class__") = some true) && decide (PySem.W.mroIn K D (.type "object") = some true)))))))
theorem excCB_ok {K : PySem.W.Frag} {D : Addr} (h : excCB K D = true) : ExcC K D := by
  obtain ⟨h1, h⟩ := Bool.and_eq_true_iff.mp h
  obtain ⟨h2, h⟩ := Bool.and_eq_true_iff.mp h
  obtain ⟨h3, h⟩ := Bool.and_eq_true_iff.mp h
  obtain ⟨h4, h⟩ := Bool.and_eq_true_iff.mp h
  obtain ⟨h5, h⟩ := Bool.and_eq_true_iff.mp h
  obtain ⟨h6, h⟩ := Bool.and_eq_true_iff.mp h
  obtain ⟨h7, h8⟩ := Bool.and_eq_true_iff.mp h
  exact ⟨of_decide_eq_true h1, of_decide_eq_true h2, of_decide_eq_true h3, h4, of_decide_eq_true h5, of_decide_eq_true h6, of_decide_eq_true h7, of_decide_eq_true h8⟩
def kitB (K : PySem.W.Frag) (C D : Addr) : Bool := decide (PySem.W.kitOne K (.ref C) (.ref D) = some true)
def initB (K : PySem.W.Frag) (C : Addr) : Bool := decide (PySem.W.findIn K (.ref C) "__init__" = some (some (.ref (He.ma K C "__init__")))) && decide (PySem.W.typeIn K (.ref (He.ma K C "__init__")) = some (.type "function"))

/-! ### a method with super() -/
abbrev SupV : Type := Option (Str × Str × Arguments × FuncBody × Scope × Addr × Addr)
def supW (K : PySem.W.Frag) (C m : Str) : SupV := match K.lookup (He.ma K (He.ga K C) m) with
  | some ⟨_, _, .func fd, _⟩ => some (fd.name, fd.qualname, fd.params, fd.body, fd.scope, fd.globals, fd.builtins)
  | _ => none
def ccOf (K : PySem.W.Frag) (f : Addr) : Addr := match K.lookup f with
  | some ⟨_, _, .func fd, _⟩ => (match fd.closure with
    | [(_, c)] => c
    | _ => 0)
  | _ => 0
def supB (P : Program) (K : PySem.W.Frag) (C m q : Str) (f2 : Addr) : Bool :=
  let f := He.ma K (He.ga K C) m
  let cc := ccOf K f
  (match K.lookup f with
  | some ⟨_, _, .func fd, _⟩ => (match fd.closure with
    | [(n, _)] => n == "__class__"
    | _ => false) && (match fd.defaults with
    | .none => true
    | _ => false) && PySem.W.codeIn K fd.code q && (match fd.code with
    | .ref cda => (match K.lookup cda with
      | some ⟨_, _, .fields vs, _⟩ => (match vs[2]? with
        | some (Value.str file _) => (P.main.file : Str) == file
        | _ => false)
      | _ => false)
    | _ => false)
  | _ => false) && (match K.lookup cc with
  | some ⟨_, _, .cell (some (.ref D)), _⟩ => D == He.ga K C
  | _ => false) && ((PySem.W.clsIn K (He.ga K C)).isSome && (decide (PySem.W.mroIn K (He.ga K C) (.ref (He.ga K C)) = some true) && (decide (PySem.W.ks_superIn K (He.ga K C) (He.ga K C) m = some (some (.ref f2))) &&
    (decide (PySem.W.typeIn K (.ref f2) = some (.type "function")) && (PySem.W.fnIn K f2 && decide (PySem.W.nsIn K cStatics "thirdparty.any" = some none))))))
theorem sup_ok {P : Program} {K : PySem.W.Frag} {C m q x : Str} {f2 : Addr} {params : Arguments} {body : List Stmt} {scope : Scope} (h : supB P K C m q f2 = true) (w : supW K C m = some (x, q, params, .stmts body, scope, mainGlobals, builtinsNs)) :
    (∃ fd, SupD P K x q params body scope (ccOf K (He.ma K (He.ga K C) m)) (He.ma K (He.ga K C) m) fd) ∧ SupC K m (ccOf K (He.ma K (He.ga K C) m)) (He.ga K C) f2 := by
  unfold supB at h
  simp only [Bool.and_eq_true] at h
  obtain ⟨⟨h1, h2⟩, h3, h4, h5, h6, h7, h8⟩ := h
  refine ⟨?_, ?_⟩
  · unfold supW at w
    split at w
    · rename_i oc od fd osl ho
      rw [ho] at h1
      simp only [Bool.and_eq_true] at h1
      obtain ⟨⟨⟨g1, g2⟩, g3⟩, g4⟩ := h1
      obtain ⟨n1, n2, n3, n4, n5, n6, n7, n8, n9, n10, n11, n12, n13, n14, n15⟩ := fd
      have e := Option.some.inj w
      simp only [Prod.mk.injEq] at e
      obtain ⟨e1, e2, e3, e4, e5, e6, e7⟩ := e
      subst e1 e2 e3 e4 e5 e6 e7
      simp only at g1 g2 g3 g4
      split at g1
      · rename_i n c
        have : n = "__class__" := beq_iff_eq.mp g1
        subst this
        have hcc : ccOf K (He.ma K (He.ga K C) m) = c := by unfold ccOf; rw [ho]
        split at g2
        · split at g4
          · rename_i cda
            split at g4
            · rename_i ccl cdd vs ccs ho2
              split at g4
              · rename_i file tf hv
                rw [hcc]
                exact ⟨_, _, _, _, _, _, _, _, _, _, _, _, _, _, _, _, rfl, ho, g3, ho2, hv, g4⟩
              · cases g4
            · cases g4
          · cases g4
        · cases g2
      · cases g1
    · cases w
  · refine ⟨?_, Option.isSome_iff_exists.mp h3, of_decide_eq_true h4, of_decide_eq_true h5, of_decide_eq_true h6, h7, of_decide_eq_true h8⟩
    split at h2
    · rename_i D sl ho
      have := beq_iff_eq.mp h2
      subst this
      exact ⟨_, _, _, ho⟩
    · cases h2
/-! ### keywords all written -/
theorem FunD.kall {K : PySem.W.Frag} {x qual : Str} {params : Arguments} {body : List Stmt} {scope : Scope} {f : Addr} {fd : FuncData} {ps ks : List Str} {n : Nat} (F : FunD K x qual params body scope [] [] f fd)
    (h : ∀ (kV doc pm : Value) (an : Option Addr) (cdv ct : Value) (us ws : List Value), us.length = n → ws.length = ks.length → bindArgs (PySem.W.fnOf x qual params body scope .none kV doc pm an cdv ct) ⟨us, ks.zip ws⟩ = pure (ps.zip (us ++ ws))) :
    KBn K fd ps n ks (fun us ws => us ++ ws) (fun vs zs => vs ++ zs) := by
  obtain ⟨oc, od, dV, kV, doc, pm, an, cdv, ct, osl, rfl, lk, hcd, hD, hK⟩ := F.ex
  rcases hD with ⟨_, rfl⟩ | ⟨e, _⟩
  · exact ⟨fun s us ws X l1 l2 => .of_eq (h kV doc pm an cdv ct us ws l1 l2), fun r1 r2 => r1.append r2⟩
  · exact absurd rfl e
theorem SupD.kall {P : Program} {K : PySem.W.Frag} {x qual : Str} {params : Arguments} {body : List Stmt} {scope : Scope} {cc f : Addr} {fd : FuncData} {ps ks : List Str} {n : Nat} (F : SupD P K x qual params body scope cc f fd)
    (h : ∀ (kV doc pm : Value) (an : Option Addr) (cdv ct : Value) (cc : Addr) (us ws : List Value), us.length = n → ws.length = ks.length → bindArgs (PySem.W.ksFn x qual params body scope .none kV doc pm an cdv ct cc) ⟨us, ks.zip ws⟩ = pure (ps.zip (us ++ ws))) :
    KBn K fd ps n ks (fun us ws => us ++ ws) (fun vs zs => vs ++ zs) := by
  obtain ⟨oc, od, kV, doc, pm, an, cda, ct, osl, ccl, cdd, vsc, ccs, file, tf, rfl, lk, hcd, lkc, hvs, hfile⟩ := F.ex
  exact ⟨fun s us ws X l1 l2 => .of_eq (h kV doc pm an (.ref cda) ct cc us ws l1 l2), fun r1 r2 => r1.append r2⟩
/-! ### the Hook -/
def af (g : Addr → Option Obj) : List Addr := cStatics :: He.asD g 5
structure SaysF (fa : List He.Fa) (fn : List He.DefD) (ex : PySem.W.Frag → Bool) (sw : PySem.W.Frag → List SupV) (sv : List SupV) (K : PySem.W.Frag) : Prop where
  d : He.SaysD fa fn K
  ex : ex K = true
  sw : sw K = sv
abbrev AlF : Type := He.AlD × Bool × List SupV
def obsF (fa : List He.Fa) (fn : List He.DefD) (ex : PySem.W.Frag → Bool) (sw : PySem.W.Frag → List SupV) (g : Addr → Option Obj) : AlF := (He.obsD fa fn (He.frG g (af g)), ex (He.frG g (af g)), sw (He.frG g (af g)))
def hookF (fa : List He.Fa) (fn : List He.DefD) (ex : PySem.W.Frag → Bool) (sw : PySem.W.Frag → List SupV) (sv : List SupV) : PySem.W.Hook where
  α := AlF
  obs := fun s => obsF fa fn ex sw s.heap.get?
  val := fun _ => (He.valD fn, true, sv)
  says := fun _ h => ∃ K : PySem.W.Frag, K.In h ∧ SaysF fa fn ex sw sv K
  of := fun _ _ e => ⟨_, He.frG_in, ⟨congrArg (fun z : AlF => z.1) e, congrArg (fun z : AlF => z.2.1) e, congrArg (fun z : AlF => z.2.2) e⟩⟩
  keeps := fun _ _ _ ⟨K, hK, c⟩ k => ⟨K, PySem.W.Frag.In.keeps hK k, c⟩
theorem obsF_eq {fa : List He.Fa} {fn : List He.DefD} {ex : PySem.W.Frag → Bool} {sw : PySem.W.Frag → List SupV} {sv : List SupV} {g : Addr → Option Obj} {s : Shared} (h : ∀ a, g a = s.heap.get? a) : obsF fa fn ex sw g = (hookF fa fn ex sw sv).obs s := by
  have e : g = s.heap.get? := funext h
  rw [e] <;> rfl
/-! ### the law's own def -/
def spNo (sp : Sp) : Sp := fun vs H Q _ => sp vs H Q fun _ _ _ => False
theorem fn_cx0 {P : Program} {w : World} {K : PySem.W.Frag} {mg : Str → Option Value} {base : Heap} {k : Nat} {f : Addr} {fd : FuncData} {ps : List Str} {sp : Sp} (F : FnOk P w K mg base (L2.CX P w) k f fd ps sp) : FnOk P w K mg base CX0 k f fd ps (spNo sp) := by
  refine ⟨fun vs H Q E h => F.len vs H Q _ h, fun A outer s H args us vs Q E hr he hb hv hs => codeAny_mono (F.run A outer s H args us vs Q _ hr he hb hv hs) fun r s' h => ?_⟩
  cases r with
  | ok fl => cases fl <;> exact h
  | error e =>
    obtain ⟨_, _, _, _, _, _, _, _, _, _, _, _, z⟩ := h
    exact z.elim
theorem law_sp {K : PySem.W.Frag} {cm : Wd} {f : Fun'} {H : Hp} {a : Addr} {ns : List Int} {ss : List S} (hS : SqL K H a (ns.map V.int)) (h : f [.val (.scr (ns.map D.int))] = some (.ret (.val (.bl true)) ss)) : spNo (spOf K cm 1 f) [.ref a] H (fun v _ => v = .bl true) fun _ _ _ => False := by
  refine ⟨rfl, H, _, _, ⟨rfl, fun _ _ h => h, fun i s h1 h2 => ?_, fun i j b h1 h2 => ?_⟩, h, fun v F' H' p x => ?_⟩
  · cases i with
    | zero => cases h1; exact ⟨_, rfl, .val (.scr hS (RepL.of_ints ns))⟩
    | succ i => simp at h1
  · obtain ⟨s, q1, q2, _⟩ := h1
    cases i with
    | zero => cases q1; cases q2
    | succ i => simp at q1
  · exact rep_bl x.1.of_val
end L2.Fn
set_option maxRecDepth 100000
set_option maxHeartbeats 4000000
/-! FnZ: several except clauses that name the error. -/
namespace L2.Fn
open PySem PySem.Spec PyProof.Rows L2
/-- a clause: the class that it names, its suite's reading -/
abbrev Clz := Value × (Addr → Value → Option Addr → TS)
def unE (i : Nat) (D : Ends) : Ends := { nx := fun τ G => D.nx (τ.set i none) G, rt := D.rt, bk := fun τ G => D.bk (τ.set i none) G, ct := fun τ G => D.ct (τ.set i none) G }
/-- what the clauses want of an error that leaves the body -/
def wAsL (K : PySem.W.Frag) (i : Nat) (W0 : WX) (D : Ends) : List Clz → WX
  | [] => W0
  | k :: r => fun cl d σ H => ∃ b, PySem.W.exmOne K cl k.1 = some b ∧ (b = true → ∀ p, H p = none → k.2 p cl d (unE i D) (σ.set i (some (.ref p))) H) ∧ (b = false → wAsL K i W0 D r cl d σ H)
inductive ClzOk (X : Cx) (nm : Str) : List ExceptHandler → List Clz → Prop
  | nil : ClzOk X nm [] []
  | cons {x : Str} {k : Clz} {b0 : Stmt} {sts : List Stmt} {q1 q2 : Pos} {hr : List ExceptHandler} {r : List Clz} (hc : Names X x k.1)
      (hz : ∀ (p : Addr) (oe : Obj) (cl : Value) (d : Option Addr) (pn : List (Addr × Obj)), Zc cl d oe → (∃ vs, oe.data = .fields vs) → PSs (X.suite p ((p, oe) :: pn)) (b0 :: sts) (k.2 p cl d)) (hr' : ClzOk X nm hr r) :
      ClzOk X nm (.ExceptHandler (some (.Name x q1)) (some nm) (b0 :: sts) q2 :: hr) (k :: r)
section
variable {X : Cx} {nm : Str} {i : Nat} {body : List Stmt} {h0 : ExceptHandler} {hr : List ExceptHandler} {ks : List Clz} {pos : Pos} {tb : WX → TS} {W0 : WX}
theorem ps_try_asL (hs : X.stack = X.env :: X.outer) (hf : X.env.frame = some X.env.locals) (hN : X.N.Nodup) (hi : X.N[i]? = some nm) (hln : X.env.kindOf nm = some .local) (tk : Takes X W0)
    (hb : ∀ (W : WX) (pn : List (Addr × Obj)) (xe : Value → Shared → Prop), Takes (X.tr pn xe) W → PassesOwn (model X.prog X.w) X.A X.env xe → PSs (X.tr pn xe) body (tb W))
    (hh : ClzOk X nm (h0 :: hr) ks) : PS X (.Try body (h0 :: hr) [] [] pos) (fun D σ H => tb (wAsL X.K i W0 D ks) D σ H) := by
  constructor
  intro pins st0 σ0 H0 D I0 z0
  have ok := I0.ok
  have frs_ : X.A.frames = some (X.env :: X.outer) := by rw [ok.frames, hs]
  have loc_ : Loc X.env.scope nm := .inl hln
  refine wpAny_Try_except ?_
  let after : Value → Shared → Prop := fun u t1 => wpAny (model X.prog X.w) X.A (noteFrame u X.env) (fun _ t2 => wpAny (model X.prog X.w) X.A (setFlight u none) (fun _ t3 =>
    wpAny (model X.prog X.w) X.A (handleBy u X.env (h0 :: hr)) (SP X pins D) X.xe t3) X.xe t2) X.xe t1
  have takes_ : Takes (X.tr (X.pn ++ pins) after) (wAsL X.K i W0 D ks) := by
    intro u t1 xx
    obtain ⟨p, B, tI, pins', σ1, H1, cl, d, rfl, Ja, nb, up, sky, na, os, ag, w⟩ := xx
    have Jb : Inv X pins σ1 H1 tI := Ja.ofTry ok
    have sky2 : Sky B (X.env :: X.outer) p (Zc cl d) X.env.locals t1.heap := by rw [← hs]; exact sky
    show wpAny (model X.prog X.w) X.A (noteFrame (.ref p) X.env) _ _ _
    refine Sky.land Zc.steady frs_ hf sky2 fun g3 l3 u3 => ?_
    have Jc : Inv X pins σ1 H1 { t1 with heap := g3 } := Jb.landed nb l3.1 (up.trans u3) os ag
    obtain ⟨o3, vs3, at3, z3, d3⟩ := l3.there
    have nofr : p ∉ frs (X.env :: X.outer) := fun hm => by
      obtain ⟨_, o', e', no⟩ := l3.2.2.1.mem hm
      rw [at3] at e'
      cases e'
      exact no _ d3
    have nloc : p ≠ X.env.locals := fun z => nofr (List.mem_filterMap.mpr ⟨X.env, List.mem_cons_self, by rw [hf, z]⟩)
    have nfs : p ∉ X.fs := fun hm => by
      obtain ⟨e, he, q⟩ := List.mem_filterMap.mp hm
      exact nofr (List.mem_filterMap.mpr ⟨e, List.mem_cons_of_mem _ he, q⟩)
    have S3 := Jc.suite at3 d3 na nloc nfs
    have walk : ∀ {hr' : List ExceptHandler} {ks' : List Clz}, ClzOk X nm hr' ks' → wAsL X.K i W0 D ks' cl d σ1 H1 → wpAny (model X.prog X.w) X.A (handleBy (.ref p) X.env hr') (SP X pins D) X.xe { t1 with heap := g3 } := by
      intro hr' ks' hk
      induction hk with
      | nil =>
        intro w
        refine wpAny_handleBy_nil ?_
        obtain ⟨m1, m2, m3, o4, vs4, T4, oT4, ts4, at4, z4, d4, f4, r4⟩ := id l3
        unfold PySem.passOn
        refine wpAny_bind (wpAny_field at4 d4 f4 ?_)
        rw [if_neg (by simp : ¬ ((Value.ref T4 == Value.none) = true))]
        have last : wpAny (model X.prog X.w) X.A (setFlight (.ref p) X.env.frame) (fun _ t4 => wpAny (model X.prog X.w) X.A (throw (.ref p) : Sem Flow) (SP X pins D) X.xe t4) X.xe { t1 with heap := g3 } := by
          rw [hf]
          exact HandSPX.setFlight_upZ l3 fun g4 hg4 u4 => wpAny_throw (tk _ _ ⟨p, B, tI, pins, σ1, H1, cl, d, rfl, Jb, nb, (up.trans u3).trans u4, .inr (.inr (by rw [hs]; exact hg4)), na, os, ag, w⟩)
        first
          | exact wpAny_bind (wpAny_pure (wpAny_bind last))
          | exact wpAny_bind last
      | @cons x k b0 sts q1 q2 hr2 r2 hc hz _ ih =>
        rintro ⟨b, hb1, yes, no⟩
        refine wpAny_handleBy_cons (codeAny_handlers_test ?_) (by intro q; cases q)
        have looks : PySem.W.Looks (model X.prog X.w) g3 (typeOf (.ref p)) cl := fun _ _ _ _ k q => wpAny_typeOf_ref (k _ _ at3) (by rw [z3.1]; exact q)
        have names : ∀ {Q E : Value → Shared → Prop}, Q k.1 { t1 with heap := g3 } → wpAny (model X.prog X.w) (X.A.mark (some (.ref p))) (eval (.Name x q1) X.env) Q E { t1 with heap := g3 } := by
          intro Q E q
          obtain ⟨hg, hdb, hm | ⟨hm, hv, hnn⟩⟩ := hc
          · exact ld_glob (X := X.suite p ((p, o3) :: (X.pn ++ pins))) S3 hg hm q hdb
          · exact ld_blt (X := X.suite p ((p, o3) :: (X.pn ++ pins))) S3 hg hm hv q hnn hdb
        refine names ((PySem.W.exm_one (M := model X.prog X.w) Jc.kIn looks hb1).here ?_)
        cases b with
        | false => exact ih (no rfl)
        | true =>
          refine codeAny_handlers_suite_as ?_
          refine HandSPX.lands_againZ l3 fun g4 l4 u4 => ?_
          have Jd : Inv X pins σ1 H1 { t1 with heap := g4 } := Jb.landed nb l4.1 ((up.trans u3).trans u4) os ag
          obtain ⟨o4, vs4, at4, z4, d4⟩ := l4.there
          refine store_ok (X := X.suite p ((p, o4) :: (X.pn ++ pins))) (v := .ref p) (Jd.suite at4 d4 na nloc nfs) hN hi loc_ rfl (fun t5 S5 => ?_) (.inr hln)
          refine wpAny_mono ((hz p o4 cl d (X.pn ++ pins) z4 ⟨_, d4⟩).run [] t5 _ H1 _ S5 (yes rfl p na)) (fun fl t6 sp => ?_) (fun _ _ z => False.elim z)
          have done : ∀ {σ6 : St} {H6 : Hp} {Q : Shared → Prop}, Inv (X.suite p ((p, o4) :: (X.pn ++ pins))) [] σ6 H6 t6 → (∀ t7, Inv X pins (σ6.set i none) H6 t7 → Q t7) →
              wpAny (model X.prog X.w) X.A (do bindName X.env nm .none; unbindBehindTheSuite X.env nm q2) (fun _ t7 => Q t7) X.xe t6 := fun S6 q => gone_ok (S6.unsuite ok) hN hi hln q
          cases fl with
          | next => obtain ⟨σ6, H6, S6, q6⟩ := sp; exact done S6 fun t7 J7 => ⟨_, _, J7, q6⟩
          | brk => obtain ⟨σ6, H6, S6, q6⟩ := sp; exact done S6 fun t7 J7 => ⟨_, _, J7, q6⟩
          | cont => obtain ⟨σ6, H6, S6, q6⟩ := sp; exact done S6 fun t7 J7 => ⟨_, _, J7, q6⟩
          | ret u => obtain ⟨v6, σ6, H6, S6, r6, q6⟩ := sp; exact done S6 fun t7 J7 => ⟨_, _, _, J7, r6, q6⟩
    exact walk hh w
  refine wpAny_mono ((hb (wAsL X.K i W0 D ks) (X.pn ++ pins) after takes_ PassesOwn.looking).run [] st0 σ0 H0 D (I0.toTry _) z0) (fun fl t1 sp => ?_) (fun _ _ z => z)
  cases fl with
  | next => obtain ⟨σ1, H1, J1, q⟩ := sp; exact wpAny_execs_nil ⟨σ1, H1, J1.ofTry ok, q⟩
  | brk => obtain ⟨σ1, H1, J1, q⟩ := sp; exact ⟨σ1, H1, J1.ofTry ok, q⟩
  | cont => obtain ⟨σ1, H1, J1, q⟩ := sp; exact ⟨σ1, H1, J1.ofTry ok, q⟩
  | ret u => obtain ⟨v, σ1, H1, J1, r, q⟩ := sp; exact ⟨v, σ1, H1, J1.ofTry ok, r, q⟩
end
/-- a handler: which classes it catches, its suite -/
abbrev Hdl := (Str → Option Bool) × MS
/-- a suite's end, seen from outside -/
def hEnd (i : Nat) : Option Out → Option Out
  | some (.nx ρ2) => if (ρ2.set i .no).all notErr then some (.nx (ρ2.set i .no)) else none
  | some (.bk ρ2) => if (ρ2.set i .no).all notErr then some (.bk (ρ2.set i .no)) else none
  | some (.ct ρ2) => if (ρ2.set i .no).all notErr then some (.ct (ρ2.set i .no)) else none
  | some (.rt s ρ2) => if (ρ2.set i .no).all notErr && notErr s then some (.rt s (ρ2.set i .no)) else none
  | _ => none
def sHand (i : Nat) (C : Str) (fs : List (Str × D)) (ρ1 : Slots) : List Hdl → Option Out
  | [] => some (.ex C fs ρ1)
  | h :: r => match h.1 C with
    | some true => if i < ρ1.length then hEnd i (h.2 (ρ1.set i (.err C fs))) else none
    | some false => sHand i C fs ρ1 r
    | none => none
def sTryL (i : Nat) (mb : MS) (hs : List Hdl) : MS := fun ρ => match mb ρ with
  | some (.ex C fs ρ1) => if ρ1.all notErr then sHand i C fs ρ1 hs else none
  | r => r
inductive HzOk (X : Cx) (cm : Wd) (P : Nat → Bool) (nm : Str) : List ExceptHandler → List Clz → List Hdl → Prop
  | nil : HzOk X cm P nm [] [] []
  | cons {x : Str} {c : Value} {ts : Addr → Value → Option Addr → TS} {sub : Str → Option Bool} {ms : MS} {b0 : Stmt} {sts : List Stmt} {q1 q2 : Pos} {hr : List ExceptHandler} {r : List Clz} {hs : List Hdl} (hc : Names X x c) (hsub : ExmOk X.K cm sub c)
      (hz : ∀ (p : Addr) (oe : Obj) (cl : Value) (d : Option Addr) (pn : List (Addr × Obj)), Zc cl d oe → (∃ vs, oe.data = .fields vs) → SSE (X.suite p ((p, oe) :: pn)) (errWd X.K cm p cl d) WF P (b0 :: sts) (ts p cl d) ms) (hr' : HzOk X cm P nm hr r hs) :
      HzOk X cm P nm (.ExceptHandler (some (.Name x q1)) (some nm) (b0 :: sts) q2 :: hr) ((c, ts) :: r) ((sub, ms) :: hs)
section
variable {X : Cx} {cm : Wd} {W : WX} {P : Nat → Bool} {nm : Str} {i : Nat} {body : List Stmt} {h0 : ExceptHandler} {hr : List ExceptHandler} {ks : List Clz} {hs : List Hdl} {pos : Pos} {tb : WX → TS} {mb : MS}
theorem HzOk.clz (h : HzOk X cm P nm hr ks hs) : ClzOk X nm hr ks := by
  induction h with
  | nil => exact .nil
  | cons hc _ hz _ ih => exact .cons hc (fun p oe cl d pn z1 z2 => (hz p oe cl d pn z1 z2).pss) ih
/-- the clauses, one after the other -/
theorem sim_hand {F : Hp} {σ : St} {H : Hp} {ρ ρ1 : Slots} {De : Ends} {C : Str} {fs : List (Str × D)} {d : Option Addr} {F1 : Hp} {σ1 : St} {H1 : Hp} {z : Out} (hP : P i = false) (hk : HzOk X cm P nm hr ks hs) (p1 : Post X.K cm P F σ H ρ F1 σ1 H1 ρ1) (hx : ExR X.K cm F1 d fs) (hne : NoErr ρ1)
    (e : sHand i C fs ρ1 hs = some z) (hp : SPost X.K cm W P F σ H ρ De z) : wAsL X.K i W De ks (.ref (cm C)) d σ1 H1 := by
  induction hk with
  | nil =>
    cases e
    exact hp d F1 σ1 H1 p1 hx
  | @cons x c ts sub ms b0 sts q1 q2 hr r hs hc hsub hz hr' ih =>
    unfold sHand at e
    dsimp only at e
    cases hsb : sub C with
    | none => rw [hsb] at e; cases e
    | some b =>
      rw [hsb] at e
      refine ⟨b, hsub C b hsb, fun eb p hpn => ?_, fun eb => ?_⟩
      · subst eb
        dsimp only at e
        split at e
        · rename_i hi1
          have su := (hz p { cls := .ref (cm C), dict := d, data := .fields #[] } (.ref (cm C)) d [] ⟨rfl, rfl⟩ ⟨_, rfl⟩).sim
          obtain ⟨R2, ow2⟩ := rel_err (q := p) (cls := .ref (cm C)) p1.rel hne hi1 hx rfl
          have back : ∀ {F' : Hp} {σ' : St} {H' : Hp} {ρ' : Slots}, (ρ'.set i .no).all notErr = true → Post X.K (errWd X.K cm p (.ref (cm C)) d) P F1 (σ1.set i (some (.ref p))) H1 (ρ1.set i (.err C fs)) F' σ' H' ρ' → Post X.K cm P F σ H ρ F' (σ'.set i none) H' (ρ'.set i .no) := by
            intro F' σ' H' ρ' hn p2
            refine p1.trans ⟨Rel.wd (cm := errWd X.K cm p (.ref (cm C)) d) rfl (rel_no p2.rel) (noErr_of hn), p2.mono, fun b hb => (p2.lim b hb).elim .inl fun z => z.elim (fun z => .inr (.inl (ow2 b z))) fun z => .inr (.inr z), fun b o hb n => p2.keep b o hb fun z => n (ow2 b z), fun b hb => ?_, fun k hk => ?_, ?_⟩
            · obtain ⟨j, _, z⟩ := owns_no hb
              rcases p2.new b ⟨j, z⟩ with z | z
              · exact .inl (ow2 b z)
              · exact .inr z
            · have hk' : k ≠ i := fun z => by rw [z, hP] at hk; cases hk
              rw [List.getElem?_set_ne (Ne.symm hk'), p2.pin k hk, List.getElem?_set_ne (Ne.symm hk')]
            · rw [List.length_set, p2.sl, List.length_set]
          cases q2 : ms (ρ1.set i (.err C fs)) with
          | none => rw [q2] at e; cases e
          | some z2 =>
            rw [q2] at e
            refine su _ z2 q2 F1 _ H1 _ R2 ?_
            cases z2 with
            | nx ρ2 =>
              simp only [hEnd] at e
              split at e
              · rename_i hn; cases e; exact fun F' σ' H' p2 => hp F' _ H' (back hn p2)
              · cases e
            | bk ρ2 =>
              simp only [hEnd] at e
              split at e
              · rename_i hn; cases e; exact fun F' σ' H' p2 => hp F' _ H' (back hn p2)
              · cases e
            | ct ρ2 =>
              simp only [hEnd] at e
              split at e
              · rename_i hn; cases e; exact fun F' σ' H' p2 => hp F' _ H' (back hn p2)
              · cases e
            | rt s ρ2 =>
              simp only [hEnd] at e
              split at e
              · rename_i hn
                cases e
                obtain ⟨hn1, hn2⟩ := Bool.and_eq_true_iff.mp hn
                refine fun v F' σ' H' p2 x => hp v F' _ H' (back hn1 p2) ⟨RepS.wd (K := X.K) (cm := errWd X.K cm p (.ref (cm C)) d) (cm' := cm) rfl x.1 (fun C' fs' ec => by rw [ec] at hn2; cases hn2), fun b eb o => ⟨fun z => ?_, ?_⟩⟩
                · obtain ⟨j, _, z⟩ := owns_no z
                  exact (x.2 b eb o).1 ⟨j, z⟩
                · rcases (x.2 b eb o).2 with z | z
                  · exact p1.new b (ow2 b z)
                  · exact p1.gone z
              · cases e
            | ex C' fs' ρ2 => cases e
        · cases e
      · subst eb
        exact ih e
theorem se_tryL (hs' : X.stack = X.env :: X.outer) (hf : X.env.frame = some X.env.locals) (hN : X.N.Nodup) (hi : X.N[i]? = some nm) (hln : X.env.kindOf nm = some .local) (tk : Takes X W)
    (hb : ∀ (W : WX) (pn : List (Addr × Obj)) (xe : Value → Shared → Prop), Takes (X.tr pn xe) W → PassesOwn (model X.prog X.w) X.A X.env xe → SSE (X.tr pn xe) cm W P body (tb W) mb)
    (hk : HzOk X cm P nm (h0 :: hr) ks hs) (hP : P i = false := by rfl) :
    SE X cm W P (.Try body (h0 :: hr) [] [] pos) (fun De σ H => tb (wAsL X.K i W De ks) De σ H) (sTryL i mb hs) := by
  refine ⟨ps_try_asL hs' hf hN hi hln tk (fun W pn xe t p => (hb W pn xe t p).pss) hk.clz, fun ρ r e F σ H De hr hp => ?_⟩
  have tk0 : Takes (X.tr [] fun e s1 => wpAny (model X.prog X.w) X.A (noteFrame e X.env) (fun _ s2 => wpAny (model X.prog X.w) X.A (setFlight e none) (fun _ _ => True) (fun _ _ => True) s2) (fun _ _ => True) s1) (wAsL X.K i W De ks) := by
    rintro u s' ⟨a, B, sI, pins', σ', H', cls, d, rfl, J', nb, up, sky, na, os, ag, w⟩
    have hfr : X.A.frames = some (X.env :: X.outer) := by rw [← hs']; exact J'.ok.frames
    have sky' : Sky B (X.env :: X.outer) a (Zc cls d) X.env.locals s'.heap := by rw [← hs']; exact sky
    exact Sky.land (Q := fun _ _ => True) Zc.steady hfr hf sky' fun _ _ _ => True.intro
  have sb := (hb (wAsL X.K i W De ks) [] _ tk0 PassesOwn.looking).sim
  unfold sTryL at e
  cases q : mb ρ with
  | none => rw [q] at e; cases e
  | some z =>
    rw [q] at e
    refine sb ρ z q F σ H De hr ?_
    cases z with
    | nx ρ1 => cases e; exact hp
    | bk ρ1 => cases e; exact hp
    | ct ρ1 => cases e; exact hp
    | rt s ρ1 => cases e; exact hp
    | ex C fs ρ1 =>
      intro d F1 σ1 H1 p1 hx
      simp only at e
      split at e
      · rename_i hne
        exact sim_hand hP hk p1 hx (noErr_of hne) e hp
      · cases e
end
/-! ### str(b), max(xs), min(xs), xs.index(y) -/
section
variable {X : Cx} {cm : Wd} {W : WX} {P : Nat → Bool} {e o : Expr} {te to : TE} {me mo : ME D} {pos : Pos}
def rStrB : List V → Hp → VK → Prop := fun xs H Q => ∃ b : Bool, xs = [.bl b] ∧ Q (.str (if b then "True" else "False")) H
theorem call_str_bl : CallR X (.type "str") rStrB := by
  rintro pins s σ H xs us Q I r ⟨b, rfl, q⟩
  obtain ⟨u, rfl, r1⟩ := vals1 r
  cases r1
  exact PySem.P.str_of_bool ⟨.str _, H, I.tok _, ⟨_, rfl⟩, q⟩
def gStrB : D → Option S
  | .bl b => some (.val (.str (if b then "True" else "False")))
  | _ => none
theorem cd_strB : CallD1 X cm rStrB gStrB := by
  intro F σ H ρ x dx s Q hr hx hg hQ
  cases hx with
  | bl => cases hg; exact ⟨_, rfl, hQ _ F H (Post.refl hr) (rd_val .str)⟩
  | _ => cases hg
/-- the greatest, the least of some ints -/
def topI (ns : List Int) : Int := (ns.find? fun m => ns.all fun y => decide (y ≤ m)).getD 0
def lowI (ns : List Int) : Int := (ns.find? fun m => ns.all fun y => decide (m ≤ y)).getD 0
theorem topI_eq {ns : List Int} {m : Int} (h1 : m ∈ ns) (h2 : ∀ y, y ∈ ns → y ≤ m) : topI ns = m := by
  unfold topI
  cases q : ns.find? fun m => ns.all fun y => decide (y ≤ m) with
  | none =>
    have := List.find?_eq_none.mp q m h1
    exact absurd (List.all_eq_true.mpr fun y hy => by simpa using h2 y hy) this
  | some k =>
    have a := List.find?_some q
    have b := List.mem_of_find?_eq_some q
    have c : m ≤ k := by simpa using List.all_eq_true.mp a m h1
    have d := h2 k b
    simp; omega
theorem lowI_eq {ns : List Int} {m : Int} (h1 : m ∈ ns) (h2 : ∀ y, y ∈ ns → m ≤ y) : lowI ns = m := by
  unfold lowI
  cases q : ns.find? fun m => ns.all fun y => decide (m ≤ y) with
  | none =>
    have := List.find?_eq_none.mp q m h1
    exact absurd (List.all_eq_true.mpr fun y hy => by simpa using h2 y hy) this
  | some k =>
    have a := List.find?_some q
    have b := List.mem_of_find?_eq_some q
    have c : k ≤ m := by simpa using List.all_eq_true.mp a m h1
    have d := h2 k b
    simp; omega
def gExt (f : List Int → Int) : D → Option S
  | .lst xs => (intsD xs).bind fun ns => if 0 < ns.length then some (.val (.int (f ns))) else none
  | _ => none
abbrev gMaxL := gExt topI
abbrev gMinL := gExt lowI
theorem cd_ext {r : List V → Hp → VK → Prop} {f : List Int → Int} (hr' : ∀ (a : Addr) (ns : List Int) (H : Hp) (Q : VK), SqL X.K H a (ns.map V.int) → 0 < ns.length → Q (.int (f ns)) H → r [V.ref a] H Q) : CallD1 X cm r (gExt f) := by
  intro F σ H ρ x dx s Q hr hx hg hQ
  cases hx with
  | @lst a vs xs h r =>
    simp only [gExt] at hg
    cases q : intsD xs with
    | none => rw [q] at hg; cases hg
    | some ns =>
      rw [q] at hg
      simp only [Option.bind_some] at hg
      split at hg
      · rename_i hl
        cases hg
        have e := r.ints q
        subst e
        exact hr' _ ns _ _ (SqL.of (hr.sub _ _ h)) hl (hQ _ F H (Post.refl hr) (rd_val .int))
      · cases hg
  | _ => cases hg
theorem cd_maxL : CallD1 X cm (rMax X.K) gMaxL := cd_ext fun a ns H Q h1 h2 q => ⟨a, ns, rfl, h1, h2, fun m k1 k2 => by rw [← topI_eq k1 k2]; exact q⟩
theorem cd_minL : CallD1 X cm (rMin X.K) gMinL := cd_ext fun a ns H Q h1 h2 q => ⟨a, ns, rfl, h1, h2, fun m k1 k2 => by rw [← lowI_eq k1 k2]; exact q⟩
theorem k_maxL (K : PySem.W.Frag) (hc : X.calm = true) (hK : X.K = K := by rfl) : CallR X (.builtin "max") (rMax K) := by subst hK; exact cr_max hc
theorem k_minL (K : PySem.W.Frag) (hc : X.calm = true) (hK : X.K = K := by rfl) : CallR X (.builtin "min") (rMin K) := by subst hK; exact cr_min hc
def gIndex : D → D → Option D := fun x y => match x, flatD y with
  | .lst xs, some v => (flatsD xs).bind fun ys => (ys.findIdx? fun z => eqV z v).map fun j => D.int j
  | _, _ => none
/-- o.index(e), o a list -/
def mIndex (mo me : ME D) : ME D := mo.bnd fun x => match x with
  | .lst xs => me.bnd fun y => opt (gIndex (.lst xs) y)
  | _ => fun _ => none
theorem de_index {apos : Pos} (ho : DE X cm W o to mo) (he : DE X cm W e te me)
    (hbase : attributeBase o "index" X.env (eval o X.env) = eval o X.env := by rfl)
    (hfew : ((backTo pos (starEach [e] X.env)).all (fun x => !x.1) && (backToKw pos (keywordEach [] X.env)).all (fun x => x.1.isSome)
      && decide ([e].length + ([] : List Keyword).length + (if ([] : List Keyword).isEmpty then 0 else 1) < 30)) = true := by rfl)
    (hline : (apos.endLine == pos.line) = true := by rfl) (hs : starEach (e :: []) X.env = (false, eval e X.env) :: starEach [] X.env := by rfl) (hpl : (backTo pos (starEach [] X.env)).any (·.1) = false := by rfl) :
    DE X cm W (.Call (.Attribute o "index" apos) [e] [] pos) (tBM X.K "list" (rIndex X.K) to (tCons te tNil)) (mIndex mo me) := by
  refine ⟨pe_bm PySem.F.plainAttrs_list PySem.F.slot_list_index PySem.F.type_list_index mt_index ho.pe (pa_cons he.pe pa_nil hs) hbase hfew hline hs hpl, fun ρ r e F σ H Q hr hp => ?_⟩
  refine ho.sim.step e hr hp fun dx ρ1 x F1 H1 e1 p1 r1 => ?_
  cases r1 with
  | @lst a vs xs h rl =>
    refine ⟨.inl ⟨rfl, _, SqL.of (p1.rel.sub _ _ h)⟩, ?_⟩
    refine he.sim.step e1 p1.rel (hp.trans tr_D p1) fun dy ρ2 y F2 H2 e2 p2 r2 => ?_
    obtain ⟨d, h1, rfl⟩ := opt_ok e2
    unfold gIndex at h1
    split at h1
    · rename_i xs' v q0 q1
      cases q0
      cases q2 : flatsD xs with
      | none => rw [q2] at h1; cases h1
      | some ys =>
        rw [q2, Option.bind_some] at h1
        cases q3 : ys.findIdx? (fun z => eqV z v) with
        | none => rw [q3] at h1; cases h1
        | some j =>
          rw [q3] at h1
          cases h1
          obtain ⟨e3, f3⟩ := r2.flat q1
          obtain ⟨e4, f4⟩ := rl.flats q2
          subst e3 e4
          obtain ⟨hj, hjv, hno⟩ := List.findIdx?_eq_some_iff_getElem.mp q3
          refine ⟨a, vs, y, j, vs[j], rfl, rfl, SqL.of (p2.rel.sub _ _ (p2.mono _ _ h)), f3, f4, List.getElem?_eq_getElem hj, hjv, fun m z' hm hz => ?_, hp _ F2 H2 (p1.trans p2) .int⟩
          have hmv : m < vs.length := by omega
          have := hno m hm
          rw [List.getElem?_eq_getElem hmv] at hz
          cases hz
          simpa using this
    · cases h1
  | _ => cases e1
end
def kinB (K : PySem.W.Frag) (C D : Addr) : Bool := decide (PySem.W.kitOne K (.ref C) (.ref D) = some false)
end L2.Fn
set_option maxRecDepth 100000
set_option maxHeartbeats 4000000
/-! FnV: a name's own list walked, asked for its type, and it stays the name's own. -/
namespace L2.Fn
open PySem PySem.Spec PyProof.Rows L2
def lcNL (j : Nat) (g : MG) (tt : ME Bool) (te : ME D) (vs : List Nat) : Nat → Nat → List D → Slots → Option (List D × Slots)
  | 0, _, _, _ => none
  | f + 1, k, acc, ρ => match ρ[j]? with
    | some (.lst xs) => if xs.length ≤ sizeLine then (match xs[k]? with
      | none => some (acc, ρ)
      | some d => match g (.val d) (wipeE ρ vs) with
        | none => none
        | some ρ1 => match tt ρ1 with
          | some (.ok true ρ2) => (match te ρ2 with
            | some (.ok y ρ3) => lcNL j g tt te vs f (k + 1) (acc ++ [y]) (wipeE ρ3 vs)
            | _ => none)
          | some (.ok false ρ2) => lcNL j g tt te vs f (k + 1) acc (wipeE ρ2 vs)
          | _ => none) else none
    | _ => none
/-- the list at a slot, its length -/
def lenAt (ρ : Slots) (j : Nat) : Nat := match ρ[j]? with
  | some (.lst xs) => xs.length
  | _ => 0
def mLcLive (j : Nat) (g : MG) (tt : ME Bool) (te : ME D) (vs : List Nat) : ME S := fun ρ => match lcNL j g tt te vs (lenAt ρ j + 1) 0 [] ρ with
  | some (ys, ρ') => some (.ok (.lst ys) ρ')
  | none => none
def mLcN (j : Nat) (g : MG) (tt : ME Bool) (te : ME D) (vs : List Nat) : ME S := fun ρ => match ρ[j]? with
  | some (.val _) => mLc (mItems (mVar j)) g tt te vs ρ
  | _ => mLcLive j g tt te vs ρ
section
variable {K : PySem.W.Frag} {cm : Wd} {W : WX}
theorem sim_lcLive {g : TG} {tt : TT} {te : TE} {vs : List Nat} {j : Nat} {mg : MG} {mt : ME Bool} {me : ME D} (hg : SimG K cm (pinOut vs) g mg) (ht : Sim K cm WF RB tt mt) (he : Sim K cm WF (RD K cm) te me) :
    Sim K cm W (RO K cm) (tLc (iSeq K (tVar j)) g tt te vs) (mLcLive j mg mt me vs) := by
  intro ρ r e F σ H Q hr hp
  unfold mLcLive at e
  cases q2 : lcNL j mg mt me vs (lenAt ρ j + 1) 0 [] ρ with
  | none => rw [q2] at e; cases e
  | some z =>
    obtain ⟨ys, ρe⟩ := z
    rw [q2] at e
    cases e
    obtain ⟨xs0, hx0⟩ : ∃ xs, ρ[j]? = some (.lst xs) := by
      unfold lcNL at q2
      split at q2
      · rename_i xs h; exact ⟨xs, h⟩
      · cases q2
    obtain ⟨v0, hv0, _⟩ := hr.slot j _ hx0 (by simp)
    obtain ⟨a, us0, rfl, ha0, _, _⟩ := list_slot hr hx0 hv0
    refine ⟨_, hv0, a, rfl, .inl ⟨⟨us0, SqL.of ha0⟩, ?_⟩⟩
    intro Dd hD
    refine ⟨fun k n H2 => ∃ F1 ρ1 acc vacc, (∀ b o, F b = some o → F1 b = some o) ∧ Post K cm pinAll F σ H ρ F1 σ H2 ρ1 ∧ lcNL j mg mt me vs n k acc ρ1 = some (ys, ρe) ∧
      H2 Dd = some (.lst vacc) ∧ F1 Dd = none ∧ (¬ owns σ ρ1 Dd) ∧ RepL K cm F1 vacc acc ∧ acc.length ≤ k, ⟨lenAt ρ j + 1, F, ρ, [], [], fun _ _ h => h, Post.warm hr hD, q2, upd_same, hr.noF hD, fun z => (hr.owned' z).1 hD, .nil, Nat.le_refl _⟩, ?_⟩
    rintro k n H2 ⟨F1, ρ1, acc, vacc, m1, p1, e1, d1, d2, d3, d4, d5⟩
    cases n with
    | zero => cases e1
    | succ n =>
      unfold lcNL at e1
      split at e1
      · rename_i xs hx
        obtain ⟨a', us, ea, ha, _, rl⟩ := list_slot p1.rel hx hv0
        cases ea
        split at e1
        · rename_i hsz
          cases hk : xs[k]? with
          | none =>
            rw [hk] at e1
            cases e1
            refine .inl ⟨⟨us, SqL.of ha, by rw [rl.length]; exact List.getElem?_eq_none_iff.mp hk⟩, hp _ F1 H2 p1 ⟨.own d1 d2 (.lst d4), fun b e _ => ?_⟩⟩
            cases e
            exact ⟨d3, .inr hD⟩
          | some d =>
            rw [hk] at e1
            dsimp only at e1
            obtain ⟨w, hw, rw'⟩ := rl.get hk
            have hkl := (List.getElem?_eq_some_iff.mp hk).1
            refine .inr ⟨⟨us, w, SqL.of ha, hw⟩, _, fun H3 z => ⟨n, Nat.lt_succ_self n, z⟩, fun x H3 y => ?_⟩
            obtain ⟨rfl, y⟩ := y
            have ex := y us (SqL.of ha)
            rw [hw] at ex
            cases ex
            cases q3 : mg (.val d) (wipeE ρ1 vs) with
            | none => rw [q3] at e1; cases e1
            | some ρ2 =>
              rw [q3] at e1
              simp only at e1
              have p2 := Post.refl (P := pinAll) p1.rel
              refine hg _ _ ρ2 q3 F1 (wipe σ vs) _ w _ (p2.rel.wiped vs) (.val rw') (fun _ _ z => by cases z) fun F3 σ3 H4 b0 b1 b2 b3 b4 b5 b6 => ?_
              have p3 : Post K cm (pinOut vs) F1 (wipe σ vs) _ (wipeE ρ1 vs) F3 σ3 H4 ρ2 := ⟨b0, b1, b2, b3, fun a h => (b4 a h).elim .inl fun z => z.elim .inr fun z => (by cases z.2), b5, b6⟩
              refine ⟨wipe_ext b6 fun i hi => b5 i (by simpa [pinOut] using hi), ?_⟩
              have own' : ∀ a, owns (wipe σ vs) (wipeE ρ1 vs) a → owns σ ρ1 a := fun a ⟨i, h⟩ => ⟨i, (wipe_own h).2⟩
              have s3 := p3.safe d1 d2 (fun z => d3 (own' _ z))
              cases q4 : mt ρ2 with
              | none => rw [q4] at e1; cases e1
              | some z4 =>
                rw [q4] at e1
                cases z4 with
                | ex C fs ρx => cases e1
                | ok b ρ3 =>
                  refine ht ρ2 _ q4 F3 σ3 H4 _ b0 fun b' F4 H5 p4 eb => ?_
                  cases (show b' = b from eb)
                  have s4 := p4.safe s3.1 s3.2.1 s3.2.2
                  cases b with
                  | false =>
                    rw [if_neg (by simp)]
                    simp only at e1
                    have pu := Post.unwipe p2.rel (p3.trans p4.any)
                    exact ⟨F4, wipeE ρ3 vs, acc, vacc, fun a o h => pu.mono a o (m1 a o h), p1.trans pu, e1, s4.1, s4.2.1, (pu.safe d1 d2 d3).2.2, d4.mono fun a o h => pu.mono a o h, by omega⟩
                  | true =>
                    rw [if_pos rfl]
                    simp only at e1
                    cases q5 : me ρ3 with
                    | none => rw [q5] at e1; cases e1
                    | some z5 =>
                      rw [q5] at e1
                      cases z5 with
                      | ex C fs ρx => cases e1
                      | ok y0 ρ4 =>
                        simp only at e1
                        refine he ρ3 _ q5 F4 σ3 H5 _ p4.rel fun v F5 H6 p5 rv => ?_
                        have s5 := p5.safe s4.1 s4.2.1 s4.2.2
                        have pu := Post.unwipe p2.rel (p3.trans (p4.trans p5).any)
                        have s6 := (pu.safe d1 d2 d3)
                        have lv := d4.length
                        exact ⟨vacc, s5.1, by omega, F5, wipeE ρ4 vs, acc ++ [y0], vacc ++ [v], fun a o h => pu.mono a o (m1 a o h), (p1.trans pu).bump hD s6.2.1 s6.2.2, e1, upd_same, s6.2.1, s6.2.2, (d4.mono fun a o h => pu.mono a o h).append (.one rv), by simp; omega⟩
        · cases e1
      · cases e1
end
section
variable {X : Cx} {cm : Wd} {W : WX} {g : TG} {tt : TT} {te : TE} {j : Nat} {mg : MG} {mt : ME Bool} {me : ME D} {elt tgt : Expr} {ifs : List Expr} {scope : Scope} {own : List (Str × Nat)} {x : Str} {px pos : Pos}
theorem sim_lcN {vs : List Nat} (hj : X.N[j]? = some x) (hv : Vis X.env.scope x) (hd : (x == ("__debug__" : Str)) = false) (hcd : (x == ("__classdict__" : Str)) = false) (hg : SimG X.K cm (pinOut vs) g mg) (ht : Sim X.K cm WF RB tt mt) (he : Sim X.K cm WF (RD X.K cm) te me) :
    Sim X.K cm W (RO X.K cm) (tLc (iSeq X.K (tVar j)) g tt te vs) (mLcN j mg mt me vs) := by
  intro ρ r e F σ H Q hr hp
  unfold mLcN at e
  split at e
  · exact sim_lc (ie_seq (X := X) (tg := .Name x (⟨0, 0, 0, 0⟩ : Pos)) (e := .Name x (⟨0, 0, 0, 0⟩ : Pos)) (de_var hj hv hd hcd)).sim hg ht he ρ r e F σ H Q hr hp
  · exact sim_lcLive hg ht he ρ r e F σ H Q hr hp
theorem oe_lcN (hc : X.calm = true) (hN : X.N.Nodup) (hj : X.N[j]? = some x) (hv : Vis X.env.scope x) (ok : BlkOk X.N X.env.scope scope own)
    (hg : ∀ (s : Shared) (H : Hp) (C : Addr) (cl : List (Str × Addr)) (fp : List Addr), GE (X.blk s H scope (compEnvC scope cl C X.env) fp) cm (pinOut (own.map (·.2))) tgt g mg)
    (ht : ∀ (s : Shared) (H : Hp) (C : Addr) (cl : List (Str × Addr)) (fp : List Addr), IFs (X.blk s H scope (compEnvC scope cl C X.env) fp) cm WF ifs tt mt)
    (he : ∀ (s : Shared) (H : Hp) (C : Addr) (cl : List (Str × Addr)) (fp : List Addr), DE (X.blk s H scope (compEnvC scope cl C X.env) fp) cm WF elt te me) (hd : (x == ("__debug__" : Str)) = false := by decide) (hcd : (x == ("__classdict__" : Str)) = false := by decide) (hs : ∀ y, foldedSetIterable (.Name x px) X.env y = pure y := by intro _; rfl) :
    OE X cm W (.ListComp elt [⟨tgt, .Name x px, ifs, 0⟩] scope pos) (tLc (iSeq X.K (tVar j)) g tt te (own.map (·.2))) (mLcN j mg mt me (own.map (·.2))) :=
  ⟨pe_lc hc hN (pi_seq (pe_var hj hv hd hcd)) ok (fun s H C cl fp => (hg s H C cl fp).pg) (fun s H C cl fp => (ht s H C cl fp).pts) (fun s H C cl fp => (he s H C cl fp).pe) hs,
    sim_lcN hj hv hd hcd (hg X.s_0 X.H_0 0 [] []).sim (ht X.s_0 X.H_0 0 [] []).sim (he X.s_0 X.H_0 0 [] []).sim⟩
theorem se_setLcN {P : Nat → Bool} {i : Nat} {y : Str} {py spos : Pos} (hc : X.calm = true) (hN : X.N.Nodup) (hy : X.N[i]? = some y) (hyl : X.env.scope.names.lookup y = some .local)
    (hsw : swapsWith (.ListComp elt [⟨tgt, .Name x px, ifs, 0⟩] scope pos) (some (.Name y py)) spos.line X.env = pure true) (hj : X.N[j]? = some x) (hv : Vis X.env.scope x) (ok : BlkOk X.N X.env.scope scope own)
    (hg : ∀ (s : Shared) (H : Hp) (C : Addr) (cl : List (Str × Addr)) (fp : List Addr), GE (X.blk s H scope (compEnvC scope cl C X.env) fp) cm (pinOut (own.map (·.2))) tgt g mg)
    (ht : ∀ (s : Shared) (H : Hp) (C : Addr) (cl : List (Str × Addr)) (fp : List Addr), IFs (X.blk s H scope (compEnvC scope cl C X.env) fp) cm WF ifs tt mt)
    (he : ∀ (s : Shared) (H : Hp) (C : Addr) (cl : List (Str × Addr)) (fp : List Addr), DE (X.blk s H scope (compEnvC scope cl C X.env) fp) cm WF elt te me) (hP : P i = false := by rfl) (hd : (x == ("__debug__" : Str)) = false := by decide) (hcd : (x == ("__classdict__" : Str)) = false := by decide) (hs : ∀ y, foldedSetIterable (.Name x px) X.env y = pure y := by intro _; rfl) :
    SE X cm W P (.Assign [.Name y py] (.ListComp elt [⟨tgt, .Name x px, ifs, 0⟩] scope pos) spos) (tAsg (tLc (iSeq X.K (tVar j)) g tt te (own.map (·.2))) (gName i)) (sAsg (mLcN j mg mt me (own.map (·.2))) (gSetM i)) := by
  refine ⟨ps_setLc hc hN hy hyl hsw (pi_seq (pe_var hj hv hd hcd)) ok (fun s H C cl fp => (hg s H C cl fp).pg) (fun s H C cl fp => (ht s H C cl fp).pts) (fun s H C cl fp => (he s H C cl fp).pe) hs, ?_⟩
  exact sim_asg (sim_lcN hj hv hd hcd (hg X.s_0 X.H_0 0 [] []).sim (ht X.s_0 X.H_0 0 [] []).sim (he X.s_0 X.H_0 0 [] []).sim) (sim_gname hP)
end
/-! ### for over a parameter's list, which stays its own -/
def sLoopN (j : Nat) (g : MG) (b : MS) : Nat → Nat → MS
  | 0, _ => fun _ => none
  | f + 1, k => fun ρ => match ρ[j]? with
    | some (.lst xs) => (match xs[k]? with
      | none => some (.nx ρ)
      | some d => match g (.val d) ρ with
        | none => none
        | some ρ1 => match b ρ1 with
          | some (.nx ρ') => sLoopN j g b f (k + 1) ρ'
          | some (.ct ρ') => sLoopN j g b f (k + 1) ρ'
          | some (.bk ρ') => some (.nx ρ')
          | r => r)
    | _ => none
def sForN (j : Nat) (g : MG) (b : MS) : MS := fun ρ => match ρ[j]? with
  | some (.val d) => (match itemsD d with
    | some ds => sLoop g b ds ρ
    | none => none)
  | _ => sLoopN j g b (lenAt ρ j + 1) 0 ρ
section
variable {X : Cx} {cm : Wd} {W : WX} {P : Nat → Bool} {tg : Expr} {body : List Stmt} {g : TG} {tb : TS} {j : Nat} {mg : MG} {mb : MS} {x : Str} {px pos : Pos}
theorem se_forN (hp : PassesOwn (model X.prog X.w) X.A X.env X.xe) (hc : X.calm = true) (hj : X.N[j]? = some x) (hv : Vis X.env.scope x) (hg : GE X cm P tg g mg) (hb : SSE X cm W P body tb mb) (hP : P j = true := by rfl) (hd : (x == ("__debug__" : Str)) = false := by decide) (hcd : (x == ("__classdict__" : Str)) = false := by decide)
    (hs : ∀ y, foldedSetIterable (.Name x px) X.env y = pure y := by intro _; rfl) : SE X cm W P (.For tg (.Name x px) body [] pos) (tFor (iSeq X.K (tVar j)) g tb) (sForN j mg mb) := by
  have hde : DE X cm W (.Name x px) (tVar j) (mVar j) := de_var hj hv hd hcd
  have froz := se_for (P := P) (tg := tg) (body := body) (pos := pos) hp hc (ie_seq hde) hg hb hs
  refine ⟨froz.ps, fun ρ r e F σ H De hr hpost => ?_⟩
  unfold sForN at e
  split at e
  · -- a value
    rename_i d q0
    refine froz.sim ρ r ?_ F σ H De hr hpost
    have e1 : mItems (mVar j) ρ = opt (itemsD d) ρ := by
      show (mVar j).bnd _ ρ = _
      unfold ME.bnd mVar
      rw [q0]
    unfold sFor ME.thn
    rw [e1]
    cases q1 : itemsD d with
    | none => rw [q1] at e; cases e
    | some ds => rw [q1] at e; exact e
  · obtain ⟨xs0, hx0⟩ : ∃ xs, ρ[j]? = some (.lst xs) := by
      unfold sLoopN at e
      split at e
      · rename_i xs h; exact ⟨xs, h⟩
      · cases e
    obtain ⟨v0, hv0, _⟩ := hr.slot j _ hx0 (by simp)
    obtain ⟨a, us0, rfl, ha0, _, _⟩ := list_slot hr hx0 hv0
    refine ⟨_, hv0, a, rfl, .inl ⟨⟨us0, SqL.of ha0⟩, ?_⟩⟩
    refine ⟨fun k n σ1 H1 => ∃ F1 ρ1, Post X.K cm P F σ H ρ F1 σ1 H1 ρ1 ∧ sLoopN j mg mb n k ρ1 = some r ∧ SPost X.K cm W P F1 σ1 H1 ρ1 De r, ⟨lenAt ρ j + 1, F, ρ, Post.refl hr, e, hpost⟩, ?_⟩
    rintro k n σ1 H1 ⟨F1, ρ1, p1, e1, hp1⟩
    cases n with
    | zero => cases e1
    | succ n =>
      unfold sLoopN at e1
      split at e1
      · rename_i xs hx
        have hv1 : σ1[j]? = some (some (.ref a)) := by rw [p1.pin j hP, hv0]
        obtain ⟨a', us, ea, ha, _, rl⟩ := list_slot p1.rel hx hv1
        cases ea
        cases hk : xs[k]? with
        | none =>
          rw [hk] at e1
          cases e1
          exact .inl ⟨⟨us, SqL.of ha, by rw [rl.length]; exact List.getElem?_eq_none_iff.mp hk⟩, hp1 F1 σ1 H1 (Post.refl p1.rel)⟩
        | some d =>
          rw [hk] at e1
          dsimp only at e1
          obtain ⟨w, hw, rw'⟩ := rl.get hk
          refine .inr ⟨⟨us, w, SqL.of ha, hw⟩, _, fun σ' H' z => ⟨n, Nat.lt_succ_self n, z⟩, fun y H2 yy => ?_⟩
          obtain ⟨rfl, yy⟩ := yy
          have ex := yy us (SqL.of ha)
          rw [hw] at ex
          cases ex
          cases q2 : mg (.val d) ρ1 with
          | none => rw [q2] at e1; cases e1
          | some ρ2 =>
            rw [q2] at e1
            dsimp only at e1
            refine hg.sim _ ρ1 ρ2 q2 F1 σ1 _ w _ p1.rel (.val rw') (fun _ _ z => by cases z) fun F3 σ3 H3 b0 b1 b2 b3 b4 b5 b6 => ?_
            have p3 : Post X.K cm P F1 σ1 _ ρ1 F3 σ3 H3 ρ2 := ⟨b0, b1, b2, b3, fun a h => (b4 a h).elim .inl fun z => z.elim .inr fun z => (by cases z.2), b5, b6⟩
            have hp3 := hp1.trans p3
            cases q4 : mb ρ2 with
            | none => rw [q4] at e1; cases e1
            | some x4 =>
              rw [q4] at e1
              refine hb.sim ρ2 x4 q4 F3 σ3 H3 _ b0 ?_
              cases x4 with
              | nx ρ5 => exact fun F5 σ5 H5 p5 => ⟨F5, ρ5, (p1.trans p3).trans p5, e1, hp3.trans p5⟩
              | ct ρ5 => exact fun F5 σ5 H5 p5 => ⟨F5, ρ5, (p1.trans p3).trans p5, e1, hp3.trans p5⟩
              | bk ρ5 => cases e1; exact hp3
              | rt s ρ5 => cases e1; exact hp3
              | ex C fs ρ5 => cases e1; exact hp3
      · cases e1
end
/-! ### isinstance(name, T), the name's own list looked at -/
def mIsTN (f : String → Bool) (j : Nat) : ME S := fun ρ => match ρ[j]? with
  | some (.val d) => opt (gIsT f d) ρ
  | some (.lst _) => some (.ok (.val (.bl (f "list"))) ρ)
  | _ => none
section
variable {X : Cx} {cm : Wd} {W : WX} {j : Nat} {x : Str} {px p p2 pos : Pos}
theorem oe_isTN {T : String} {f : String → Bool} {y : Str} (hT : IsT T f) (hj : X.N[j]? = some x) (hv : Vis X.env.scope x) (hg : Gl X "isinstance") (hm : X.mg "isinstance" = none) (hg2 : Gl X y) (hm2 : X.mg y = none) (hv2 : bootBuiltins y = some (.type T)) (hd : (x == ("__debug__" : Str)) = false := by decide) (hcd : (x == ("__classdict__" : Str)) = false := by decide) (hyn : y ≠ "__name__" := by decide) (hyd : (y == ("__debug__" : Str)) = false := by decide)
    (h1 : starEach (.Name y p2 :: []) X.env = (false, eval (.Name y p2) X.env) :: starEach [] X.env := by rfl) (h2 : starEach (.Name x px :: [.Name y p2]) X.env = (false, eval (.Name x px) X.env) :: starEach [.Name y p2] X.env := by rfl) (hpl : (backTo pos (starEach [.Name y p2] X.env)).any (·.1) = false := by rfl) :
    OE X cm W (.Call (.Name "isinstance" p) [.Name x px, .Name y p2] [] pos) (tCB (rIsi X.K) (tCons (tVar j) (tCons (tC (.ty T)) tNil))) (mIsTN f j) := by
  have base := oe_isT (p := p) (pos := pos) (W := W) hT hg hm hg2 hm2 hv2 (de_var (cm := cm) (W := W) (pos := px) hj hv hd hcd) hyn hyd h1 h2 hpl
  refine ⟨base.pe, fun ρ r e F σ H Q hr hp => ?_⟩
  unfold mIsTN at e
  split at e
  · rename_i d q0
    refine base.sim ρ r ?_ F σ H Q hr hp
    show (mVar j).bnd _ ρ = _
    unfold ME.bnd mVar
    rw [q0]
    exact e
  · rename_i xs q0
    cases e
    obtain ⟨v0, hv0, _⟩ := hr.slot j _ q0 (by simp)
    obtain ⟨a, us, rfl, ha, _, _⟩ := list_slot hr q0 hv0
    exact ⟨_, hv0, .ref a, .ty T, .type "list", .type T, f "list", rfl, .ty T, .base (.lst ha), kit_ty (hT "list" (tyD_mem (d := .lst []) rfl)), hp _ F H (Post.refl hr) ⟨.val .bl, fun _ _ z => by cases z⟩⟩
  · cases e
end
end L2.Fn
set_option maxRecDepth 100000
set_option maxHeartbeats 4000000
/-! FnLib: what the program's and the laws' defs compute (printed). -/
namespace L2.Fn
open PySem PySem.Spec PyProof.Rows L2
def KS : List Str := ["Join", "Lap"]
def CN_KIND : List (Str × D) := [("Join", .str "join"), ("Lap", .str "lap")]
def SUB_BadSet : Str → Option Bool := fun C => if C = "BadSet" then some true else none
def subOf (L : List Str) (C : Str) : Str → Option Bool := fun C' => if C' ∈ L then some (decide (C' = C)) else none
/-! is_int -/
def m_is_int : MS := (sRet (mWarm (mAndV (mCold (mIsT isInt (mVar 0))) (mCold (mWarm (mNotV (mCold (mIsT (fun n => n == "bool") (mVar 0)))))))))
def f_is_int : Fun' := runDef 0 [true] m_is_int
/-! check_number -/
def m_check_number : MS := (sSeq (sIf (mNot (mTest (mCall f_is_int [] (aCons (mVar 0) aNil)))) (sRaise1 "BadNumber" "name" (mVar 1)) sNil)
  (sSeq (sIf (mTest (mOp gLt (mVar 0) (mVar 2))) (sRaise1 "BadNumber" "name" (mVar 1)) sNil)
  (sSeq (sIf (mAnd (mTest (mOp gNotN (mVar 3) (ret .non))) (mTest (mOp gGt (mVar 0) (mVar 3)))) (sRaise1 "BadNumber" "name" (mVar 1)) sNil)
  (sRet (mMove 0)))))
def f_check_number : Fun' := runDef 0 [true, true, true, true] m_check_number
/-! set_of -/
def m_set_of : MS := (sSeq (sDrop (mCall f_check_number [] (aCons (mVar 0) (aCons (ret (.str "many")) (aCons (ret (.int 0)) (aCons (ret .non) aNil))))))
  (sSeq (sIf (mNot (mTest (mIsT isLT (mVar 1)))) (sRaise1 "BadSet" "place" (mUn gNeg (ret (.int 1)))) sNil)
  (sSeq (sAsg (ret (.dK [])) (gSetM 2))
  (sSeq (sFor (mEnum (mVar 1)) (gTupM 2 (gConsM (gSetM 3) (gConsM (gSetM 4) gNilM))) (sSeq (sIf (mOr (mNot (mTest (mCall f_is_int [] (aCons (mVar 4) aNil)))) (mOr (mTest (mOp gLt (mVar 4) (ret (.int 0)))) (mOr (mTest (mOp gGe (mVar 4) (mVar 0))) (mTest (mKeyN false 2 (mVar 4)))))) (sRaise1 "BadSet" "place" (mVar 3)) sNil)
  (sPutN 2 (mVar 4) (ret (.bl true)))))
  (sRet (mB1 gTuple (mCold (mB1 gSorted (mCold (mListKN 2))))))))))
def f_set_of : Fun' := runDef 3 [true, true] m_set_of
/-! both -/
def m_both : MS := (sSeq (sAsg (ret (.dK [])) (gSetM 2))
  (sSeq (sFor (mItems (mVar 0)) (gSetM 3) (sPutN 2 (mVar 3) (ret (.bl true))))
  (sSeq (sFor (mItems (mVar 1)) (gSetM 3) (sPutN 2 (mVar 3) (ret (.bl true))))
  (sRet (mB1 gTuple (mCold (mB1 gSorted (mCold (mListKN 2)))))))))
def f_both : Fun' := runDef 2 [true, true] m_both
/-! common -/
def m_common : MS := (sSeq (sAsg (mDc (mItems (mVar 1)) (gSetM 3) mYes (mVar 3) (ret (.bl true)) (([("part", 3)] : List (Str × Nat)).map (·.2))) (gSetM 2))
  (sRet (mB1 gTuple (mCold (mLc (mItems (mVar 0)) (gSetM 3) (mTest (mKeyN false 2 (mVar 3))) (mVar 3) (([("part", 3)] : List (Str × Nat)).map (·.2)))))))
def f_common : Fun' := runDef 2 [true, true] m_common
/-! minus -/
def m_minus : MS := (sSeq (sAsg (mDc (mItems (mVar 1)) (gSetM 3) mYes (mVar 3) (ret (.bl true)) (([("part", 3)] : List (Str × Nat)).map (·.2))) (gSetM 2))
  (sRet (mB1 gTuple (mCold (mLc (mItems (mVar 0)) (gSetM 3) (mTest (mKeyN true 2 (mVar 3))) (mVar 3) (([("part", 3)] : List (Str × Nat)).map (·.2)))))))
def f_minus : Fun' := runDef 2 [true, true] m_minus
/-! pair_of -/
def m_pair_of : MS := (sSeq (sIf (mOr (mNot (mTest (mIsT isLT (mVar 1)))) (mTest (mOp gNe (mLenN 1) (ret (.int 2))))) (sRet (mWarm (ret .non))) sNil)
  (sSeq (sAsg (mWarm (mVar 1)) (gTupM 2 (gConsM (gSetM 2) (gConsM (gSetM 3) gNilM))))
  (sSeq (sIf (mOr (mNot (mTest (mCall f_is_int [] (aCons (mVar 2) aNil)))) (mNot (mTest (mCall f_is_int [] (aCons (mVar 3) aNil))))) (sRet (mWarm (ret .non))) sNil)
  (sSeq (sIf (mOr (mTest (mOp gLt (mVar 2) (ret (.int 0)))) (mOr (mTest (mOp gGe (mVar 2) (mVar 3))) (mTest (mOp gGt (mVar 3) (mVar 0))))) (sRet (mWarm (ret .non))) sNil)
  (sRet (mWarm (mTup (mCons (mVar 2) (mCons (mVar 3) mNil)))))))))
def f_pair_of : Fun' := runDef 2 [true, true] m_pair_of
/-! _runs_of -/
def m__runs_of : MS := (sSeq (sIf (mNot (mTest (mIsT isLT (mVar 1)))) (sRaise1 "BadRun" "place" (mUn gNeg (ret (.int 1)))) sNil)
  (sSeq (sAsg (mLst mNil) (gSetM 2))
  (sSeq (sFor (mEnum (mVar 1)) (gTupM 2 (gConsM (gSetM 3) (gConsM (gSetM 4) gNilM))) (sSeq (sAsg (mCall f_pair_of [] (aCons (mVar 0) (aCons (mVar 4) aNil))) (gSetM 5))
  (sSeq (sIf (mTest (mOp gIsN (mVar 5) (ret .non))) (sRaise1 "BadRun" "place" (mVar 3)) sNil)
  (sDrop (mAppN 2 (mVar 5))))))
  (sRet (mB1 gTuple (mVar 2))))))
def f__runs_of : Fun' := runDef 4 [true, true] m__runs_of
/-! check_run -/
def m_check_run : MS := (sSeq (sAsg (mCall f_pair_of [] (aCons (mFldN KS "size" 0) (aCons (mVar 1) aNil))) (gSetM 2))
  (sSeq (sIf (mTest (mOp gIsN (mVar 2) (ret .non))) (sRaise1 "BadRun" "place" (mUn gNeg (ret (.int 1)))) sNil)
  (sRet (mMove 2))))
def f_check_run : Fun' := runDef 1 [true, true] m_check_run
/-! Market___init__ -/
def m_Market___init__ : MS := (sSeq (sFldN KS "size" 0 (mCold (mCall f_check_number [] (aCons (mVar 1) (aCons (ret (.str "size")) (aCons (ret (.int 1)) (aCons (ret (.int 30)) aNil)))))))
  (sSeq (sFldN KS "runs" 0 (mCold (mCall f__runs_of [] (aCons (mVar 1) (aCons (mVar 2) aNil)))))
  (sFldN KS "gone" 0 (mCold (mCall f_set_of [] (aCons (mLen (mFldN KS "runs" 0)) (aCons (mVar 3) aNil)))))))
def f_Market___init__ : Fun' := runDef 0 [true, true, true, true] m_Market___init__
/-! Join___init__ -/
def f_Join___init__ : Fun' := fnSup "Join" f_Market___init__
/-! Lap___init__ -/
def f_Lap___init__ : Fun' := fnSup "Lap" f_Market___init__
/-! demand_of -/
def m_demand_of : MS := (sSeq (sIf (mTest (mCall f_is_int [] (aCons (mVar 1) aNil))) (sRet (mB1 gTuple (mCold (mLc (mRange1 (mFldN KS "size" 0)) (gSetM 2) mYes (mVar 1) (([("_", 2)] : List (Str × Nat)).map (·.2)))))) sNil)
  (sSeq (sIf (mOr (mNot (mTest (mIsT isLT (mVar 1)))) (mTest (mOp gNe (mLenN 1) (mFldN KS "size" 0)))) (sRaise1 "BadDemand" "place" (mUn gNeg (ret (.int 1)))) sNil)
  (sSeq (sFor (mEnum (mVar 1)) (gTupM 2 (gConsM (gSetM 3) (gConsM (gSetM 4) gNilM))) (sIf (mNot (mTest (mCall f_is_int [] (aCons (mVar 4) aNil)))) (sRaise1 "BadDemand" "place" (mVar 3)) sNil))
  (sRet (mB1 gTuple (mVar 1))))))
def f_demand_of : Fun' := runDef 3 [true, true] m_demand_of
/-! _cover -/
def m__cover : MS := (sSeq (sAsg (mLc (mRange1 (mCold (mOp gAdd (mFldN KS "size" 0) (ret (.int 1))))) (gSetM 3) mYes (ret (.int 0)) (([("_", 3)] : List (Str × Nat)).map (·.2))) (gSetM 2))
  (sSeq (sFor (mItems (mVar 1)) (gSetM 4) (sSeq (sAsg (mWarm (mIx (mFldN KS "runs" 0) (mVar 4))) (gTupM 2 (gConsM (gSetM 5) (gConsM (gSetM 6) gNilM))))
  (sSeq (sAugN 2 gAddI (mVar 5) (ret (.int 1)))
  (sAugN 2 gSubI (mVar 6) (ret (.int 1))))))
  (sSeq (sAsg (mLst mNil) (gSetM 7))
  (sSeq (sAsg (mWarm (ret (.int 0))) (gSetM 8))
  (sSeq (sFor (mRange1 (mFldN KS "size" 0)) (gSetM 9) (sSeq (sAsg (mOp gAdd (mVar 8) (mIxN 2 (mVar 9))) (gSetM 8))
  (sDrop (mAppN 7 (mVar 8)))))
  (sRet (mB1 gTuple (mVar 7))))))))
def f__cover : Fun' := runDef 8 [true, true] m__cover
/-! _misfit -/
def m__misfit : MS := (sSeq (sAsg (mOp gEq (mCon CN_KIND "KIND" (mVar 0)) (ret (.str "join"))) (gSetM 3))
  (sSeq (sFor (mEnum (mCold (mCall f__cover [] (aCons (mVar 0) (aCons (mVar 2) aNil))))) (gTupM 2 (gConsM (gSetM 4) (gConsM (gSetM 5) gNilM))) (sIf (mOr (mTest (mOp gLt (mVar 5) (mIxN 1 (mVar 4)))) (mAnd (mTest (mWarm (mVar 3))) (mTest (mOp gGt (mVar 5) (mIxN 1 (mVar 4)))))) (sRet (mMove 4)) sNil))
  (sRet (mWarm (ret .non)))))
def f__misfit : Fun' := runDef 3 [true, true, true] m__misfit
/-! is_stock -/
def m_is_stock : MS := (sSeq (sAsg (mCall f_demand_of [] (aCons (mVar 0) (aCons (mVar 1) aNil))) (gSetM 3))
  (sSeq (sAsg (mCall f_set_of [] (aCons (mLen (mFldN KS "runs" 0)) (aCons (mVar 2) aNil))) (gSetM 4))
  (sSeq (sIf (mTest (mOp gGt (mLen (mCold (mCall f_common [] (aCons (mVar 4) (aCons (mFldN KS "gone" 0) aNil))))) (ret (.int 0)))) (sRet (mWarm (ret (.bl false)))) sNil)
  (sRet (mOp gIsN (mCold (mCall f__misfit [] (aCons (mVar 0) (aCons (mVar 3) (aCons (mVar 4) aNil))))) (ret .non))))))
def f_is_stock : Fun' := runDef 2 [true, true, true] m_is_stock
/-! changed -/
def m_changed : MS := (sSeq (sAsg (mB1 gList (mCold (mCall f_demand_of [] (aCons (mVar 0) (aCons (mVar 1) aNil))))) (gSetM 4))
  (sSeq (sAsg (mCall f_check_run [] (aCons (mVar 0) (aCons (mVar 2) aNil))) (gTupM 2 (gConsM (gSetM 5) (gConsM (gSetM 6) gNilM))))
  (sSeq (sIf (mNot (mTest (mCall f_is_int [] (aCons (mVar 3) aNil)))) (sRaise1 "BadNumber" "name" (ret (.str "by"))) sNil)
  (sSeq (sFor (mRange2 (mVar 5) (mVar 6)) (gSetM 7) (sAugN 4 gAddI (mVar 7) (mVar 3)))
  (sRet (mB1 gTuple (mVar 4)))))))
def f_changed : Fun' := runDef 4 [true, true, true, true] m_changed
/-! _partners -/
def m__partners : MS := (sSeq (sAsg (mB1 (gSortT 3 1000) (mCold (mLc2 (mItems (mVar 1)) (gSetM 3) mYes (mItems (mTup (mCons (ret (.int 0)) (mCons (ret (.int 1)) mNil)))) (gSetM 4) mYes (mTup (mCons (mIx (mIx (mFldN KS "runs" 0) (mVar 3)) (mVar 4)) (mCons (mVar 3) (mCons (mVar 4) mNil)))) (([("part", 3), ("side", 4)] : List (Str × Nat)).map (·.2)) [4]))) (gSetM 2))
  (sSeq (sAsg (ret (.dT [])) (gSetM 5))
  (sSeq (sFor (mRange3 (ret (.int 0)) (mLenN 2) (ret (.int 2))) (gSetM 6) (sSeq (sAsg (mWarm (mTup (mCons (mIx (mIxN 2 (mVar 6)) (ret (.int 1))) (mCons (mIx (mIxN 2 (mVar 6)) (ret (.int 2))) mNil)))) (gSetM 7))
  (sSeq (sAsg (mWarm (mTup (mCons (mIx (mIxN 2 (mCold (mOp gAdd (mVar 6) (ret (.int 1))))) (ret (.int 1))) (mCons (mIx (mIxN 2 (mCold (mOp gAdd (mVar 6) (ret (.int 1))))) (ret (.int 2))) mNil)))) (gSetM 8))
  (sSeq (sPutN 5 (mVar 7) (mVar 8))
  (sPutN 5 (mVar 8) (mVar 7))))))
  (sRet (mMove 5)))))
def f__partners : Fun' := runDef 7 [true, true] m__partners
/-! _halves -/
def m__halves : MS := (sSeq (sAsg (mCall f__partners [] (aCons (mVar 0) (aCons (mVar 1) aNil))) (gSetM 2))
  (sSeq (sAsg (ret (.dK [])) (gSetM 3))
  (sSeq (sFor (mItems (mVar 1)) (gSetM 4) (sSeq (sPar 5 6 (mCons (mVar 4) (mCons (ret (.int 0)) mNil)))
  (sWhile (mTest (mKeyN true 3 (mVar 5))) (sSeq (sPutN 3 (mVar 5) (mVar 6))
  (sAsg (mWarm (mGetN 2 (mTup (mCons (mVar 5) (mCons (mCold (mOp gSub (ret (.int 1)) (mVar 6))) mNil))))) (gTupM 2 (gConsM (gSetM 5) (gConsM (gSetM 6) gNilM))))) 100)))
  (sSeq (sAsg (mB1 gTuple (mCold (mLc (mItems (mVar 1)) (gSetM 5) (mTest (mOp gEq (mGetN 3 (mVar 5)) (ret (.int 0)))) (mVar 5) (([("part", 5)] : List (Str × Nat)).map (·.2))))) (gSetM 7))
  (sRet (mWarm (mTup (mCons (mVar 7) (mCons (mCold (mCall f_minus [] (aCons (mVar 1) (aCons (mVar 7) aNil)))) mNil)))))))))
def f__halves : Fun' := runDef 6 [true, true] m__halves
/-! remade -/
def m_remade : MS := (sSeq (sAsg (mCall f_set_of [] (aCons (mLen (mFldN KS "runs" 0)) (aCons (mVar 1) aNil))) (gSetM 3))
  (sSeq (sAsg (mCall f_set_of [] (aCons (mLen (mFldN KS "runs" 0)) (aCons (mVar 2) aNil))) (gSetM 4))
  (sSeq (sAsg (mCall f_common [] (aCons (mVar 3) (aCons (mVar 4) aNil))) (gSetM 5))
  (sSeq (sAsg (mCall f__halves [] (aCons (mVar 0) (aCons (mCold (mCall f_minus [] (aCons (mCold (mCall f_both [] (aCons (mVar 3) (aCons (mVar 4) aNil)))) (aCons (mVar 5) aNil)))) aNil))) (gTupM 2 (gConsM (gSetM 6) (gConsM (gSetM 7) gNilM))))
  (sRet (mWarm (mTup (mCons (mCold (mCall f_both [] (aCons (mVar 5) (aCons (mVar 6) aNil)))) (mCons (mCold (mCall f_both [] (aCons (mVar 5) (aCons (mVar 7) aNil)))) mNil)))))))))
def f_remade : Fun' := runDef 5 [true, true, true] m_remade
/-! _law_draws -/
def m__law_draws : MS := (sSeq (sAsg (mLst mNil) (gSetM 1))
  (sSeq (sFor (mRange1 (mCold (mOp gMin2 (mLenN 0) (ret (.int 63))))) (gSetM 2) (sSeq (sAsg (mB1 gInt1 (mIxN 0 (mVar 2))) (gSetM 3))
  (sSeq (sIf (mTest (mOp gLt (mVar 3) (ret (.int 0)))) (sAsg (mOp gSub (ret (.int 1)) (mVar 3)) (gSetM 3)) sNil)
  (sIf (mTest (mOp gGe (mVar 3) (mCold (mOp gPow (ret (.int 10)) (ret (.int 18)))))) (sFor (mRange1 (ret (.int 60))) (gSetM 4) (sIf (mTest (mOp gGt (mVar 3) (ret (.int 0)))) (sSeq (sDrop (mAppN 1 (mCold (mOp gMod (mCold (mB1 gInt1 (mVar 3))) (ret (.int 24))))))
  (sAsg (mOp gDiv (mVar 3) (ret (.int 24))) (gSetM 3))) sNil)) (sSeq (sAsg (mOp gMod (mCold (mB1 gInt1 (mCold (mOp gAdd (mCold (mOp gAdd (mCold (mOp gMul (mVar 3) (ret (.int 48271)))) (mCold (mOp gMul (mVar 2) (ret (.int 69621)))))) (ret (.int 1)))))) (ret (.int 2147483647))) (gSetM 5))
  (sFor (mRange1 (ret (.int 6))) (gSetM 4) (sSeq (sAsg (mOp gMod (mCold (mB1 gInt1 (mCold (mOp gAdd (mCold (mOp gAdd (mCold (mOp gAdd (mCold (mOp gMul (mVar 5) (mVar 5))) (mCold (mOp gMul (mVar 4) (ret (.int 40692)))))) (mVar 2))) (ret (.int 7)))))) (ret (.int 2147483563))) (gSetM 5))
  (sDrop (mAppN 1 (mVar 5))))))))))
  (sSeq (sDrop (mRevN 1))
  (sRet (mMove 1)))))
def f__law_draws : Fun' := runDef 5 [true] m__law_draws
/-! _law_take -/
def m__law_take : MS := (sSeq (sIf (mTest (mOp gEq (mLenN 0) (ret (.int 0)))) (sRet (mWarm (ret (.int 0)))) sNil)
  (sRet (mOp gMod (mCold (mB1 gInt1 (mCold (mPopN 0)))) (mVar 1))))
def f__law_take : Fun' := runDef 0 [true, true] m__law_take
/-! _law_int -/
def m__law_int : MS := (sRet (mWarm (mAndV (mCold (mIsT isInt (mVar 0))) (mCold (mWarm (mNotV (mCold (mIsT (fun n => n == "bool") (mVar 0)))))))))
def f__law_int : Fun' := runDef 0 [true] m__law_int
/-! _law_set -/
def m__law_set : MS := (sSeq (sIf (mNot (mTest (mIsT (fun n => n == "tuple") (mVar 0)))) (sRet (mWarm (ret (.bl false)))) sNil)
  (sSeq (sAsg (mWarm (mUn gNeg (ret (.int 1)))) (gSetM 2))
  (sSeq (sFor (mItems (mVar 0)) (gSetM 3) (sSeq (sIf (mOr (mNot (mTest (mCall f__law_int [] (aCons (mVar 3) aNil)))) (mOr (mTest (mOp gLe (mVar 3) (mVar 2))) (mTest (mOp gGe (mVar 3) (mVar 1))))) (sRet (mWarm (ret (.bl false)))) sNil)
  (sAsg (mWarm (mVar 3)) (gSetM 2))))
  (sRet (mWarm (ret (.bl true)))))))
def f__law_set : Fun' := runDef 2 [true, true] m__law_set
/-! _law_chains -/
def m__law_chains : MS := (sSeq (sAsg (mLst mNil) (gSetM 2))
  (sSeq (sFor (mRange1 (mCold (mOp gAdd (ret (.int 1)) (mCold (mCall f__law_take [] (mIo 0 (aCons (ret (.int 3)) aNil))))))) (gSetM 3) (sSeq (sAsg (mWarm (ret (.int 0))) (gSetM 4))
  (sFor (mRange1 (mVar 1)) (gSetM 5) (sIf (mTest (mOp gLt (mVar 4) (mVar 1))) (sSeq (sAsg (mOp gMin2 (mVar 1) (mCold (mOp gAdd (mCold (mOp gAdd (mVar 4) (ret (.int 1)))) (mCold (mCall f__law_take [] (mIo 0 (aCons (mVar 1) aNil))))))) (gSetM 6))
  (sSeq (sDrop (mAppN 2 (mTup (mCons (mVar 4) (mCons (mVar 6) mNil)))))
  (sAsg (mWarm (mVar 6)) (gSetM 4)))) sNil))))
  (sSeq (sFor (mRange1 (mCold (mCall f__law_take [] (mIo 0 (aCons (ret (.int 4)) aNil))))) (gSetM 5) (sSeq (sAsg (mCall f__law_take [] (mIo 0 (aCons (mVar 1) aNil))) (gSetM 4))
  (sDrop (mAppN 2 (mTup (mCons (mVar 4) (mCons (mCold (mOp gAdd (mCold (mOp gAdd (mVar 4) (ret (.int 1)))) (mCold (mCall f__law_take [] (mIo 0 (aCons (mCold (mOp gSub (mVar 1) (mVar 4))) aNil)))))) mNil)))))))
  (sRet (mMove 2)))))
def f__law_chains : Fun' := runDef 5 [true, true] m__law_chains
/-! _law_special -/
def m__law_special : MS := (sSeq (sAsg (mCall f__law_take [] (mIo 0 (aCons (ret (.int 3)) aNil))) (gSetM 1))
  (sSeq (sIf (mTest (mOp gEq (mVar 1) (ret (.int 0)))) (sSeq (sAsg (mWarm (ret (.int 3))) (gSetM 2))
  (sAsg (mLst (mCons (mTup (mCons (ret (.int 0)) (mCons (ret (.int 1)) mNil))) (mCons (mTup (mCons (ret (.int 0)) (mCons (ret (.int 2)) mNil))) (mCons (mTup (mCons (ret (.int 1)) (mCons (ret (.int 2)) mNil))) (mCons (mTup (mCons (ret (.int 1)) (mCons (ret (.int 3)) mNil))) (mCons (mTup (mCons (ret (.int 2)) (mCons (ret (.int 3)) mNil))) (mCons (mTup (mCons (ret (.int 0)) (mCons (ret (.int 3)) mNil))) (mCons (mTup (mCons (ret (.int 1)) (mCons (ret (.int 2)) mNil))) mNil)))))))) (gSetM 3))) (sIf (mTest (mOp gEq (mVar 1) (ret (.int 1)))) (sSeq (sAsg (mWarm (ret (.int 5))) (gSetM 2))
  (sAsg (mLst (mCons (mTup (mCons (ret (.int 0)) (mCons (ret (.int 1)) mNil))) (mCons (mTup (mCons (ret (.int 1)) (mCons (ret (.int 2)) mNil))) (mCons (mTup (mCons (ret (.int 1)) (mCons (ret (.int 3)) mNil))) (mCons (mTup (mCons (ret (.int 2)) (mCons (ret (.int 3)) mNil))) (mCons (mTup (mCons (ret (.int 2)) (mCons (ret (.int 4)) mNil))) (mCons (mTup (mCons (ret (.int 3)) (mCons (ret (.int 4)) mNil))) (mCons (mTup (mCons (ret (.int 4)) (mCons (ret (.int 5)) mNil))) (mCons (mTup (mCons (ret (.int 0)) (mCons (ret (.int 1)) mNil))) (mCons (mTup (mCons (ret (.int 4)) (mCons (ret (.int 5)) mNil))) mNil)))))))))) (gSetM 3))) (sSeq (sAsg (mWarm (ret (.int 4))) (gSetM 2))
  (sAsg (mLst (mCons (mTup (mCons (ret (.int 0)) (mCons (ret (.int 4)) mNil))) (mCons (mTup (mCons (ret (.int 0)) (mCons (ret (.int 2)) mNil))) (mCons (mTup (mCons (ret (.int 2)) (mCons (ret (.int 4)) mNil))) (mCons (mTup (mCons (ret (.int 0)) (mCons (ret (.int 1)) mNil))) (mCons (mTup (mCons (ret (.int 1)) (mCons (ret (.int 2)) mNil))) (mCons (mTup (mCons (ret (.int 2)) (mCons (ret (.int 3)) mNil))) (mCons (mTup (mCons (ret (.int 3)) (mCons (ret (.int 4)) mNil))) (mCons (mTup (mCons (ret (.int 1)) (mCons (ret (.int 2)) mNil))) (mCons (mTup (mCons (ret (.int 0)) (mCons (ret (.int 4)) mNil))) mNil)))))))))) (gSetM 3)))))
  (sSeq (sAsg (mLc (mItems (mVar 3)) (gSetM 5) (mTest (mOp gLt (mCold (mCall f__law_take [] (mIo 0 (aCons (ret (.int 8)) aNil)))) (ret (.int 7)))) (mVar 5) (([("_law_run_here", 5)] : List (Str × Nat)).map (·.2))) (gSetM 4))
  (sRet (mLst (mCons (mVar 2) (mCons (mVar 4) mNil)))))))
def f__law_special : Fun' := runDef 5 [true] m__law_special
/-! _law_market -/
def m__law_market : MS := (sSeq (sAsg (mCall f__law_take [] (mIo 0 (aCons (ret (.int 5)) aNil))) (gSetM 2))
  (sSeq (sIf (mTest (mOp gGe (mVar 2) (ret (.int 3)))) (sSeq (sAsg (mCall f__law_special [] (mIo 0 aNil)) (gSetM 3))
  (sSeq (sAsg (mWarm (mIxN 3 (ret (.int 0)))) (gSetM 4))
  (sAsg (mWarm (mIxN 3 (ret (.int 1)))) (gSetM 5)))) (sSeq (sAsg (mWarm (mIx (mCold (mLst (mCons (ret (.int 3)) (mCons (ret (.int 1)) (mCons (ret (.int 2)) (mCons (ret (.int 4)) (mCons (ret (.int 5)) (mCons (ret (.int 3)) (mCons (ret (.int 4)) (mCons (ret (.int 3)) (mCons (ret (.int 6)) (mCons (ret (.int 2)) mNil)))))))))))) (mCold (mCall f__law_take [] (mIo 0 (aCons (ret (.int 10)) aNil)))))) (gSetM 4))
  (sSeq (sIf (mTest (mOp gEq (mCold (mCall f__law_take [] (mIo 0 (aCons (ret (.int 12)) aNil)))) (ret (.int 11)))) (sAsg (mWarm (ret (.int 8))) (gSetM 4)) sNil)
  (sAsg (mCall f__law_chains [] (mIo 0 (aCons (mVar 4) aNil))) (gSetM 5)))))
  (sSeq (sAsg (mCall f__law_take [] (mIo 0 (aCons (ret (.int 9)) aNil))) (gSetM 6))
  (sSeq (sIf (mTest (mOp gLt (mVar 6) (mLenN 5))) (sAsg (mOp gAdd (mCold (mSlL (mVar 5) (mPart (mVar 6)) mNoPart)) (mCold (mSlL (mVar 5) mNoPart (mPart (mVar 6))))) (gSetM 5)) sNil)
  (sSeq (sAsg (mSlL (mVar 5) mNoPart (mPart (mVar 1))) (gSetM 5))
  (sSeq (sAsg (mLst mNil) (gSetM 7))
  (sSeq (sIf (mAnd (mTest (mOp gEq (mCold (mCall f__law_take [] (mIo 0 (aCons (ret (.int 10)) aNil)))) (ret (.int 9)))) (mTest (mOp gGt (mLenN 5) (ret (.int 1))))) (sAsg (mLst (mCons (mCold (mCall f__law_take [] (mIo 0 (aCons (mLenN 5) aNil)))) mNil)) (gSetM 7)) sNil)
  (sRet (mLst (mCons (mVar 4) (mCons (mVar 5) (mCons (mVar 7) mNil))))))))))))
def f__law_market : Fun' := runDef 6 [true, true] m__law_market
/-! _law_built -/
def m__law_built : MS := (sSeq (sIf (mTest (mOp gEq (mVar 0) (ret (.str "join")))) (sRet (mMakeK "Join" f_Join___init__ 2 (["gone"] : List Str).length (mCons (mVar 1) (mCons (mVar 2) mNil)) (mCons (mVar 3) mNil))) sNil)
  (sRet (mMakeK "Lap" f_Lap___init__ 2 (["gone"] : List Str).length (mCons (mVar 1) (mCons (mVar 2) mNil)) (mCons (mVar 3) mNil))))
def f__law_built : Fun' := runDef 0 [true, true, true, true] m__law_built
/-! _law_kind -/
def m__law_kind : MS := (sSeq (sIf (mTest (mOp gEq (mCold (mCall f__law_take [] (mIo 0 (aCons (ret (.int 3)) aNil)))) (ret (.int 2)))) (sRet (mWarm (ret (.str "lap")))) sNil)
  (sRet (mWarm (ret (.str "join")))))
def f__law_kind : Fun' := runDef 0 [true] m__law_kind
/-! _law_run -/
def m__law_run : MS := (sSeq (sAsg (mCall f__law_take [] (mIo 0 (aCons (mVar 1) aNil))) (gSetM 2))
  (sRet (mWarm (mTup (mCons (mVar 2) (mCons (mCold (mOp gAdd (mCold (mOp gAdd (mVar 2) (ret (.int 1)))) (mCold (mCall f__law_take [] (mIo 0 (aCons (mCold (mOp gSub (mVar 1) (mVar 2))) aNil)))))) mNil))))))
def f__law_run : Fun' := runDef 1 [true, true] m__law_run
/-! _law_parts -/
def m__law_parts : MS := (sRet (mLc (mRange1 (mVar 1)) (gSetM 2) (mTest (mOp gEq (mCold (mCall f__law_take [] (mIo 0 (aCons (ret (.int 2)) aNil)))) (ret (.int 1)))) (mVar 2) (([("_law_part", 2)] : List (Str × Nat)).map (·.2))))
def f__law_parts : Fun' := runDef 1 [true, true] m__law_parts
/-! _law_cover -/
def m__law_cover : MS := (sSeq (sAsg (mLc (mRange1 (mVar 0)) (gSetM 4) mYes (ret (.int 0)) (([("_law_place", 4)] : List (Str × Nat)).map (·.2))) (gSetM 3))
  (sSeq (sFor (mItems (mVar 2)) (gSetM 5) (sFor (mRange2 (mIx (mIxN 1 (mVar 5)) (ret (.int 0))) (mIx (mIxN 1 (mVar 5)) (ret (.int 1)))) (gSetM 4) (sAugN 3 gAddI (mVar 4) (ret (.int 1)))))
  (sRet (mMove 3))))
def f__law_cover : Fun' := runDef 3 [true, true, true] m__law_cover
/-! _law_remade_right -/
def m__law_remade_right : MS := (sSeq (sIf (mOr (mNot (mTest (mIsT (fun n => n == "tuple") (mVar 2)))) (mTest (mOp gNe (mLenN 2) (ret (.int 2))))) (sRet (mWarm (ret (.bl false)))) sNil)
  (sSeq (sAsg (mWarm (mLenN 1)) (gSetM 5))
  (sSeq (sIf (mOr (mNot (mTest (mCall f__law_set [] (aCons (mIxN 2 (ret (.int 0))) (aCons (mVar 5) aNil))))) (mNot (mTest (mCall f__law_set [] (aCons (mIxN 2 (ret (.int 1))) (aCons (mVar 5) aNil)))))) (sRet (mWarm (ret (.bl false)))) sNil)
  (sSeq (sFor (mRange1 (mVar 5)) (gSetM 6) (sSeq (sAsg (mOp gAdd (mCold (mB1 gInt1 (mCold (mInN false 3 (mVar 6))))) (mCold (mB1 gInt1 (mCold (mInN false 4 (mVar 6)))))) (gSetM 7))
  (sIf (mTest (mOp gNe (mCold (mOp gAdd (mCold (mB1 gInt1 (mCold (mOp (gIn false) (mVar 6) (mIxN 2 (ret (.int 0))))))) (mCold (mB1 gInt1 (mCold (mOp (gIn false) (mVar 6) (mIxN 2 (ret (.int 1))))))))) (mVar 7))) (sRet (mWarm (ret (.bl false)))) sNil)))
  (sSeq (sAsg (mCall f__law_cover [] (aCons (mVar 0) (aCons (mVar 1) (aCons (mIxN 2 (ret (.int 0))) aNil)))) (gSetM 8))
  (sSeq (sAsg (mCall f__law_cover [] (aCons (mVar 0) (aCons (mVar 1) (aCons (mIxN 2 (ret (.int 1))) aNil)))) (gSetM 9))
  (sSeq (sFor (mRange1 (mVar 0)) (gSetM 10) (sIf (mTest (mOp gGt (mCold (mB1 gAbs (mCold (mOp gSub (mIxN 8 (mVar 10)) (mIxN 9 (mVar 10)))))) (ret (.int 1)))) (sRet (mWarm (ret (.bl false)))) sNil))
  (sRet (mWarm (ret (.bl true)))))))))))
def f__law_remade_right : Fun' := runDef 6 [true, true, true, true, true] m__law_remade_right
/-! _law_refused -/
def m__law_refused : MS := (sSeq (sAsg (mLst (mCons (mUn gNeg (ret (.int 7))) (mCons (ret (.bl false)) mNil))) (gSetM 3))
  (sSeq (sTry SUB_BadSet 4 (sDrop (mCall f_remade [] (aCons (mVar 0) (aCons (mVar 1) (aCons (mVar 2) aNil))))) (sAsg (mLst (mCons (mErr 4 "BadSet" "place") (mCons (mCold (mIsErr 4 "BadSet" true)) mNil))) (gSetM 3)))
  (sRet (mMove 3))))
def f__law_refused : Fun' := runDef 2 [true, true, true] m__law_refused
/-! _law_chain -/
def m__law_chain : MS := (sSeq (sAsg (mLst mNil) (gSetM 4))
  (sSeq (sAsg (mWarm (mVar 2)) (gSetM 5))
  (sSeq (sFor (mRange1 (mVar 1)) (gSetM 6) (sIf (mTest (mOp gLt (mVar 5) (mVar 3))) (sSeq (sAsg (mOp gMin2 (mVar 3) (mCold (mOp gAdd (mCold (mOp gAdd (mVar 5) (ret (.int 1)))) (mCold (mCall f__law_take [] (mIo 0 (aCons (mVar 1) aNil))))))) (gSetM 7))
  (sSeq (sDrop (mAppN 4 (mTup (mCons (mVar 5) (mCons (mVar 7) mNil)))))
  (sAsg (mWarm (mVar 7)) (gSetM 5)))) sNil))
  (sRet (mMove 4)))))
def f__law_chain : Fun' := runDef 4 [true, true, true, true] m__law_chain
/-! _law_two_stocks -/
def m__law_two_stocks : MS := (sSeq (sAsg (mOp gAdd (ret (.int 1)) (mCold (mCall f__law_take [] (mIo 0 (aCons (ret (.int 2)) aNil))))) (gSetM 3))
  (sSeq (sAsg (mCall f__law_run [] (mIo 0 (aCons (mVar 2) aNil))) (gSetM 4))
  (sSeq (sAsg (mLst mNil) (gSetM 5))
  (sSeq (sFor (mRange1 (mCold (mOp gSub (mVar 3) (ret (.int 1))))) (gSetM 6) (sAsg (mOp gAdd (mVar 5) (mCold (mCall f__law_chain [] (mIo 0 (aCons (mVar 2) (aCons (ret (.int 0)) (aCons (mVar 2) aNil))))))) (gSetM 5)))
  (sSeq (sAsg (mOp gAdd (mCold (mCall f__law_chain [] (mIo 0 (aCons (mVar 2) (aCons (ret (.int 0)) (aCons (mVar 2) aNil)))))) (mCold (mCall f__law_chain [] (mIo 0 (aCons (mVar 2) (aCons (mIxN 4 (ret (.int 0))) (aCons (mIxN 4 (ret (.int 1))) aNil))))))) (gSetM 7))
  (sSeq (sAsg (mOp gAdd (mCold (mCall f__law_chain [] (mIo 0 (aCons (mVar 2) (aCons (ret (.int 0)) (aCons (mIxN 4 (ret (.int 0))) aNil)))))) (mCold (mCall f__law_chain [] (mIo 0 (aCons (mVar 2) (aCons (mIxN 4 (ret (.int 1))) (aCons (mVar 2) aNil))))))) (gSetM 8))
  (sSeq (sIf (mAnd (mTest (mOp gEq (mVar 1) (ret (.str "lap")))) (mTest (mOp gEq (mCold (mCall f__law_take [] (mIo 0 (aCons (ret (.int 2)) aNil)))) (ret (.int 1))))) (sDrop (mAppN 7 (mTup (mCons (ret (.int 0)) (mCons (mVar 2) mNil))))) sNil)
  (sSeq (sAsg (mOp gAdd (mCold (mOp gAdd (mVar 5) (mVar 7))) (mVar 8)) (gSetM 9))
  (sSeq (sAsg (mCall f__law_built [] (aCons (mVar 1) (aCons (mVar 2) (aCons (mVar 9) (aCons (mCold (mLst mNil)) aNil))))) (gSetM 10))
  (sSeq (sAsg ((mCold (mOp gAdd (mLenN 5) (mLenN 7))).bnd fun x => opt (gLstRg (.int 0) x)) (gSetM 11))
  (sSeq (sAsg (mOp gAdd (mCold ((mLenN 5).bnd fun x => opt (gLstRg (.int 0) x))) (mCold ((mCold (mOp gAdd (mLenN 5) (mLenN 7))).bnd fun x => (mLenN 9).bnd fun y => opt (gLstRg x y)))) (gSetM 12))
  (sSeq (sAsg (mCall f_changed [] (aCons (mVar 10) (aCons (mVar 3) (aCons (mVar 4) (aCons (ret (.int 1)) aNil))))) (gSetM 13))
  (sSeq (sAsg (mCall f_changed [] (aCons (mVar 10) (aCons (mVar 3) (aCons (mVar 4) (aCons (mUn gNeg (ret (.int 1))) aNil))))) (gSetM 14))
  (sSeq (sIf (mOr (mNot (mTest (mCall f_is_stock [] (aCons (mVar 10) (aCons (mVar 13) (aCons (mVar 11) aNil)))))) (mNot (mTest (mCall f_is_stock [] (aCons (mVar 10) (aCons (mVar 14) (aCons (mVar 12) aNil))))))) (sRet (mWarm (ret (.bl false)))) sNil)
  (sSeq (sAsg (mCall f_remade [] (aCons (mVar 10) (aCons (mVar 11) (aCons (mVar 12) aNil)))) (gSetM 15))
  (sSeq (sIf (mNot (mTest (mCall f__law_remade_right [] (aCons (mVar 2) (aCons (mVar 9) (aCons (mVar 15) (aCons (mVar 11) (aCons (mVar 12) aNil)))))))) (sRet (mWarm (ret (.bl false)))) sNil)
  (sSeq (sAsg (mCall f_remade [] (aCons (mVar 10) (aCons (mCold (mB1 gTuple (mVar 12))) (aCons (mCold (mB1 gTuple (mVar 11))) aNil)))) (gSetM 16))
  (sSeq (sIf (mNot (mTest (mCall f__law_remade_right [] (aCons (mVar 2) (aCons (mVar 9) (aCons (mVar 16) (aCons (mVar 11) (aCons (mVar 12) aNil)))))))) (sRet (mWarm (ret (.bl false)))) sNil)
  (sSeq (sFor (mItems (mCold (mLst (mCons (mIxN 15 (ret (.int 0))) (mCons (mIxN 15 (ret (.int 1))) (mCons (mIxN 16 (ret (.int 0))) (mCons (mIxN 16 (ret (.int 1))) mNil))))))) (gSetM 17) (sIf (mNot (mTest (mCall f_is_stock [] (aCons (mVar 10) (aCons (mVar 3) (aCons (mVar 17) aNil)))))) (sRet (mWarm (ret (.bl false)))) sNil))
  (sRet (mWarm (ret (.bl true)))))))))))))))))))))))
def f__law_two_stocks : Fun' := runDef 15 [true, true, true] m__law_two_stocks
/-! law -/
def m_law : MS := (sSeq (sAsg (mCall f__law_draws [] (aCons (mVar 0) aNil)) (gSetM 1))
  (sSeq (sAsg (mCall f__law_kind [] (mIo 1 aNil)) (gSetM 2))
  (sSeq (sAsg (mCall f__law_market [] (mIo 1 (aCons (ret (.int 9)) aNil))) (gSetM 3))
  (sSeq (sAsg (mWarm (mIxN 3 (ret (.int 0)))) (gSetM 4))
  (sSeq (sAsg (mWarm (mIxN 3 (ret (.int 1)))) (gSetM 5))
  (sSeq (sAsg (mCall f__law_built [] (aCons (mVar 2) (aCons (mVar 4) (aCons (mCold (mB1 gList (mVar 5))) (aCons (mIxN 3 (ret (.int 2))) aNil))))) (gSetM 6))
  (sSeq (sAsg (mCall f__law_parts [] (mIo 1 (aCons (mLenN 5) aNil))) (gSetM 7))
  (sSeq (sAsg (mCall f__law_parts [] (mIo 1 (aCons (mLenN 5) aNil))) (gSetM 8))
  (sSeq (sAsg (mCall f__law_take [] (mIo 1 (aCons (ret (.int 5)) aNil))) (gSetM 9))
  (sSeq (sIf (mTest (mOp gEq (mVar 9) (ret (.int 0)))) (sAsg (mB1 gList (mVar 7)) (gSetM 8)) (sIf (mTest (mOp gEq (mVar 9) (ret (.int 1)))) (sAsg (mLst mNil) (gSetM 8)) (sIf (mTest (mOp gEq (mVar 9) (ret (.int 2)))) (sAsg ((mLenN 5).bnd fun x => opt (gLstRg (.int 0) x)) (gSetM 7)) sNil)))
  (sSeq (sAsg (mLst (mCons (mCold (mB1 gList (mVar 7))) (mCons (mCold (mB1 gList (mVar 8))) mNil))) (gSetM 10))
  (sSeq (sAsg (mCall f_remade [] (aCons (mVar 6) (aCons (mVar 7) (aCons (mVar 8) aNil)))) (gSetM 11))
  (sSeq (sIf (mOr (mNot (mTest (mCall f__law_remade_right [] (aCons (mVar 4) (aCons (mVar 5) (aCons (mVar 11) (aCons (mVar 7) (aCons (mVar 8) aNil)))))))) (mTest (mOp gNe (mCold (mLst (mCons (mVar 7) (mCons (mVar 8) mNil)))) (mVar 10)))) (sRet (mWarm (ret (.bl false)))) sNil)
  (sSeq (sIf (mAnd (mTest (mOp gEq (mVar 9) (ret (.int 0)))) (mTest (mOp gNe (mVar 11) (mTup (mCons (mCold (mB1 gTuple (mVar 7))) (mCons (mCold (mB1 gTuple (mVar 7))) mNil)))))) (sRet (mWarm (ret (.bl false)))) sNil)
  (sSeq (sAsg (mLc (mRange1 (mLenN 7)) (gSetM 13) mYes (mIxN 7 (mCold (mOp gSub (mCold (mOp gSub (mLenN 7) (ret (.int 1)))) (mVar 13)))) (([("_law_k", 13)] : List (Str × Nat)).map (·.2))) (gSetM 12))
  (sSeq (sAsg (mLc (mRange1 (mLenN 8)) (gSetM 13) mYes (mIxN 8 (mCold (mOp gSub (mCold (mOp gSub (mLenN 8) (ret (.int 1)))) (mVar 13)))) (([("_law_k", 13)] : List (Str × Nat)).map (·.2))) (gSetM 14))
  (sSeq (sAsg (mLst (mCons (mCold (mB1 gList (mVar 12))) (mCons (mCold (mB1 gList (mVar 14))) mNil))) (gSetM 10))
  (sSeq (sIf (mOr (mNot (mTest (mCall f__law_remade_right [] (aCons (mVar 4) (aCons (mVar 5) (aCons (mCold (mCall f_remade [] (aCons (mVar 6) (aCons (mVar 12) (aCons (mVar 14) aNil))))) (aCons (mVar 7) (aCons (mVar 8) aNil)))))))) (mTest (mOp gNe (mCold (mLst (mCons (mVar 12) (mCons (mVar 14) mNil)))) (mVar 10)))) (sRet (mWarm (ret (.bl false)))) sNil)
  (sSeq (sAsg (mWarm (mIx (mCold (mLst (mCons (mLenN 5) (mCons (mUn gNeg (ret (.int 1))) (mCons (ret .non) mNil))))) (mCold (mCall f__law_take [] (mIo 1 (aCons (ret (.int 3)) aNil)))))) (gSetM 15))
  (sSeq (sIf (mTest (mOp gNe (mCold (mCall f__law_refused [] (aCons (mVar 6) (aCons (mCold (mOp gAdd (mVar 7) (mCold (mLst (mCons (mVar 15) mNil))))) (aCons (mCold (mOp gAdd (mVar 8) (mCold (mLst (mCons (mVar 15) mNil))))) aNil))))) (mCold (mLst (mCons (mLenN 7) (mCons (ret (.bl true)) mNil)))))) (sRet (mWarm (ret (.bl false)))) sNil)
  (sSeq (sIf (mTest (mOp gNe (mCold (mCall f__law_refused [] (aCons (mVar 6) (aCons (mVar 7) (aCons (mCold (mOp gAdd (mVar 8) (mCold (mLst (mCons (mVar 15) mNil))))) aNil))))) (mCold (mLst (mCons (mLenN 8) (mCons (ret (.bl true)) mNil)))))) (sRet (mWarm (ret (.bl false)))) sNil)
  (sSeq (sIf (mTest (mOp gNe (mCold (mCall f__law_refused [] (aCons (mVar 6) (aCons (ret .non) (aCons (mCold (mOp gAdd (mVar 8) (mCold (mLst (mCons (mVar 15) mNil))))) aNil))))) (mCold (mLst (mCons (mUn gNeg (ret (.int 1))) (mCons (ret (.bl true)) mNil)))))) (sRet (mWarm (ret (.bl false)))) sNil)
  (sRet (mCall f__law_two_stocks [] (mIo 1 (aCons (mVar 2) (aCons (mVar 4) aNil)))))))))))))))))))))))))))
def f_law : Fun' := runDef 15 [true] m_law
/-! cover -/
def m_cover : MS := (sRet (mCall f__cover [] (aCons (mVar 0) (aCons (mCold (mCall f_set_of [] (aCons (mLen (mFldN KS "runs" 0)) (aCons (mVar 1) aNil)))) aNil))))
def f_cover : Fun' := runDef 0 [true, true] m_cover
/-! halves -/
def m_halves : MS := (sRet (mCall f__halves [] (aCons (mVar 0) (aCons (mCold (mCall f_set_of [] (aCons (mLen (mFldN KS "runs" 0)) (aCons (mVar 1) aNil)))) aNil))))
def f_halves : Fun' := runDef 0 [true, true] m_halves
/-! _far -/
def m__far : MS := (sSeq (sAsg (mWarm (ret (.int 1))) (gSetM 2))
  (sSeq (sAsg (mWarm (ret .non)) (gSetM 3))
  (sSeq (sFor (mRange1 (mVar 1)) (gSetM 4) (sSeq (sAsg (mLcN 0 (gSetM 6) mYes (mIxN 6 (mVar 4)) (([("row", 6)] : List (Str × Nat)).map (·.2))) (gSetM 5))
  (sIf (mTest (mOp gGt (mCold (mOp gSub (mCold (mB1 gMaxL (mVar 5))) (mCold (mB1 gMinL (mVar 5))))) (mVar 2))) (sSeq (sAsg (mOp gSub (mCold (mB1 gMaxL (mVar 5))) (mCold (mB1 gMinL (mVar 5)))) (gSetM 2))
  (sAsg (mWarm (mTup (mCons (mIndex (mVar 5) (mCold (mB1 gMaxL (mVar 5)))) (mCons (mIndex (mVar 5) (mCold (mB1 gMinL (mVar 5)))) mNil)))) (gSetM 3))) sNil)))
  (sRet (mMove 3)))))
def f__far : Fun' := runDef 5 [true, true] m__far
/-! lots -/
def m_lots : MS := (sSeq (sAsg (mCall f_set_of [] (aCons (mLen (mFldN KS "runs" 0)) (aCons (mVar 1) aNil))) (gSetM 3))
  (sSeq (sDrop (mCall f_check_number [] (aCons (mVar 2) (aCons (ret (.str "number")) (aCons (ret (.int 1)) (aCons (ret (.int 50)) aNil))))))
  (sSeq (sAsg (mLc (mRange1 (mVar 2)) (gSetM 5) mYes (mCold (mIf (mTest (mOp gEq (mVar 5) (ret (.int 0)))) (mWarm (mVar 3)) (mWarm (mTup mNil)))) (([("at", 5)] : List (Str × Nat)).map (·.2))) (gSetM 4))
  (sSeq (sAsg (mLcN 4 (gSetM 7) mYes (mCold (mCall f_cover [] (aCons (mVar 0) (aCons (mVar 7) aNil)))) (([("row", 7)] : List (Str × Nat)).map (·.2))) (gSetM 6))
  (sSeq (sAsg (mCall f__far [] (mIo 6 (aCons (mFldN KS "size" 0) aNil))) (gSetM 8))
  (sSeq (sWhile (mTest (mOp gNotN (mVar 8) (ret .non))) (sSeq (sAsg (mWarm (mVar 8)) (gTupM 2 (gConsM (gSetM 9) (gConsM (gSetM 10) gNilM))))
  (sSeq (sAsg (mCall f__halves [] (aCons (mVar 0) (aCons (mCold (mCall f_both [] (aCons (mIxN 4 (mVar 9)) (aCons (mIxN 4 (mVar 10)) aNil)))) aNil))) (gTupM 2 (gConsM (gSetM 11) (gConsM (gSetM 12) gNilM))))
  (sSeq (sAsg (mWarm (mTup (mCons (mVar 11) (mCons (mVar 12) mNil)))) (gTupM 2 (gConsM (gStN 4 (mVar 9)) (gConsM (gStN 4 (mVar 10)) gNilM))))
  (sSeq (sAsg (mCall f_cover [] (aCons (mVar 0) (aCons (mVar 11) aNil))) (gStN 6 (mVar 9)))
  (sSeq (sAsg (mCall f_cover [] (aCons (mVar 0) (aCons (mVar 12) aNil))) (gStN 6 (mVar 10)))
  (sAsg (mCall f__far [] (mIo 6 (aCons (mFldN KS "size" 0) aNil))) (gSetM 8))))))) 100000)
  (sRet (mMove 4))))))))
def f_lots : Fun' := runDef 10 [true, true, true] m_lots
/-! _law_special_v2 -/
def m__law_special_v2 : MS := (sSeq (sAsg (mCall f__law_take [] (mIo 0 (aCons (ret (.int 3)) aNil))) (gSetM 1))
  (sSeq (sIf (mTest (mOp gEq (mVar 1) (ret (.int 0)))) (sSeq (sAsg (mWarm (ret (.int 3))) (gSetM 2))
  (sAsg (mLst (mCons (mTup (mCons (ret (.int 0)) (mCons (ret (.int 1)) mNil))) (mCons (mTup (mCons (ret (.int 0)) (mCons (ret (.int 2)) mNil))) (mCons (mTup (mCons (ret (.int 1)) (mCons (ret (.int 2)) mNil))) (mCons (mTup (mCons (ret (.int 1)) (mCons (ret (.int 3)) mNil))) (mCons (mTup (mCons (ret (.int 2)) (mCons (ret (.int 3)) mNil))) (mCons (mTup (mCons (ret (.int 0)) (mCons (ret (.int 3)) mNil))) (mCons (mTup (mCons (ret (.int 1)) (mCons (ret (.int 2)) mNil))) mNil)))))))) (gSetM 3))) (sIf (mTest (mOp gEq (mVar 1) (ret (.int 1)))) (sSeq (sAsg (mWarm (ret (.int 5))) (gSetM 2))
  (sAsg (mLst (mCons (mTup (mCons (ret (.int 0)) (mCons (ret (.int 1)) mNil))) (mCons (mTup (mCons (ret (.int 1)) (mCons (ret (.int 2)) mNil))) (mCons (mTup (mCons (ret (.int 1)) (mCons (ret (.int 3)) mNil))) (mCons (mTup (mCons (ret (.int 2)) (mCons (ret (.int 3)) mNil))) (mCons (mTup (mCons (ret (.int 2)) (mCons (ret (.int 4)) mNil))) (mCons (mTup (mCons (ret (.int 3)) (mCons (ret (.int 4)) mNil))) (mCons (mTup (mCons (ret (.int 4)) (mCons (ret (.int 5)) mNil))) (mCons (mTup (mCons (ret (.int 0)) (mCons (ret (.int 1)) mNil))) (mCons (mTup (mCons (ret (.int 4)) (mCons (ret (.int 5)) mNil))) mNil)))))))))) (gSetM 3))) (sSeq (sAsg (mWarm (ret (.int 4))) (gSetM 2))
  (sAsg (mLst (mCons (mTup (mCons (ret (.int 0)) (mCons (ret (.int 4)) mNil))) (mCons (mTup (mCons (ret (.int 0)) (mCons (ret (.int 2)) mNil))) (mCons (mTup (mCons (ret (.int 2)) (mCons (ret (.int 4)) mNil))) (mCons (mTup (mCons (ret (.int 0)) (mCons (ret (.int 1)) mNil))) (mCons (mTup (mCons (ret (.int 1)) (mCons (ret (.int 2)) mNil))) (mCons (mTup (mCons (ret (.int 2)) (mCons (ret (.int 3)) mNil))) (mCons (mTup (mCons (ret (.int 3)) (mCons (ret (.int 4)) mNil))) (mCons (mTup (mCons (ret (.int 1)) (mCons (ret (.int 2)) mNil))) (mCons (mTup (mCons (ret (.int 0)) (mCons (ret (.int 4)) mNil))) mNil)))))))))) (gSetM 3)))))
  (sSeq (sAsg (mLc (mItems (mVar 3)) (gSetM 5) (mTest (mOp gLt (mCold (mCall f__law_take [] (mIo 0 (aCons (ret (.int 8)) aNil)))) (ret (.int 7)))) (mVar 5) (([("_law_run", 5)] : List (Str × Nat)).map (·.2))) (gSetM 4))
  (sRet (mLst (mCons (mVar 2) (mCons (mVar 4) mNil)))))))
def f__law_special_v2 : Fun' := runDef 5 [true] m__law_special_v2
/-! _law_market_v2 -/
def m__law_market_v2 : MS := (sSeq (sAsg (mCall f__law_take [] (mIo 0 (aCons (ret (.int 5)) aNil))) (gSetM 2))
  (sSeq (sIf (mTest (mOp gGe (mVar 2) (ret (.int 3)))) (sSeq (sAsg (mCall f__law_special_v2 [] (mIo 0 aNil)) (gSetM 3))
  (sSeq (sAsg (mWarm (mIxN 3 (ret (.int 0)))) (gSetM 4))
  (sAsg (mWarm (mIxN 3 (ret (.int 1)))) (gSetM 5)))) (sSeq (sAsg (mWarm (mIx (mCold (mLst (mCons (ret (.int 3)) (mCons (ret (.int 1)) (mCons (ret (.int 2)) (mCons (ret (.int 4)) (mCons (ret (.int 5)) (mCons (ret (.int 3)) (mCons (ret (.int 4)) (mCons (ret (.int 3)) (mCons (ret (.int 6)) (mCons (ret (.int 2)) mNil)))))))))))) (mCold (mCall f__law_take [] (mIo 0 (aCons (ret (.int 10)) aNil)))))) (gSetM 4))
  (sSeq (sIf (mTest (mOp gEq (mCold (mCall f__law_take [] (mIo 0 (aCons (ret (.int 12)) aNil)))) (ret (.int 11)))) (sAsg (mWarm (ret (.int 8))) (gSetM 4)) sNil)
  (sAsg (mCall f__law_chains [] (mIo 0 (aCons (mVar 4) aNil))) (gSetM 5)))))
  (sSeq (sAsg (mCall f__law_take [] (mIo 0 (aCons (ret (.int 9)) aNil))) (gSetM 6))
  (sSeq (sIf (mTest (mOp gLt (mVar 6) (mLenN 5))) (sAsg (mOp gAdd (mCold (mSlL (mVar 5) (mPart (mVar 6)) mNoPart)) (mCold (mSlL (mVar 5) mNoPart (mPart (mVar 6))))) (gSetM 5)) sNil)
  (sSeq (sAsg (mSlL (mVar 5) mNoPart (mPart (mVar 1))) (gSetM 5))
  (sSeq (sAsg (mLst mNil) (gSetM 7))
  (sSeq (sIf (mAnd (mTest (mOp gEq (mCold (mCall f__law_take [] (mIo 0 (aCons (ret (.int 10)) aNil)))) (ret (.int 9)))) (mTest (mOp gGt (mLenN 5) (ret (.int 1))))) (sAsg (mLst (mCons (mCold (mCall f__law_take [] (mIo 0 (aCons (mLenN 5) aNil)))) mNil)) (gSetM 7)) sNil)
  (sRet (mLst (mCons (mVar 4) (mCons (mVar 5) (mCons (mVar 7) mNil))))))))))))
def f__law_market_v2 : Fun' := runDef 6 [true, true] m__law_market_v2
/-! _law_parted -/
def m__law_parted : MS := (sSeq (sAsg (mLst mNil) (gSetM 3))
  (sSeq (sForN 0 (gSetM 4) (sSeq (sIf (mNot (mTest (mCall f__law_set [] (aCons (mVar 4) (aCons (mVar 2) aNil))))) (sRet (mWarm (ret (.bl false)))) sNil)
  (sFor (mItems (mVar 4)) (gSetM 5) (sSeq (sIf (mOr (mTest (mInN false 3 (mVar 5))) (mTest (mInN true 1 (mVar 5)))) (sRet (mWarm (ret (.bl false)))) sNil)
  (sDrop (mAppN 3 (mVar 5)))))))
  (sRet (mOp gEq (mLenN 3) (mLenN 1)))))
def f__law_parted : Fun' := runDef 3 [true, true, true] m__law_parted
/-! _law_even -/
def m__law_even : MS := (sSeq (sAsg (mWarm (mLenN 2)) (gSetM 4))
  (sSeq (sAsg (mCall f__law_cover [] (aCons (mVar 0) (aCons (mVar 1) (aCons (mVar 3) aNil)))) (gSetM 5))
  (sSeq (sAsg (mLcN 2 (gSetM 7) mYes (mCold (mCall f__law_cover [] (aCons (mVar 0) (aCons (mVar 1) (aCons (mVar 7) aNil))))) (([("_law_lot", 7)] : List (Str × Nat)).map (·.2))) (gSetM 6))
  (sSeq (sFor (mRange1 (mVar 0)) (gSetM 8) (sSeq (sAsg (mOp gDiv (mIxN 5 (mVar 8)) (mVar 4)) (gSetM 9))
  (sSeq (sAsg (mWarm (ret (.int 0))) (gSetM 10))
  (sSeq (sFor (mItems (mVar 6)) (gSetM 11) (sSeq (sIf (mAnd (mTest (mOp gNe (mIxN 11 (mVar 8)) (mVar 9))) (mTest (mOp gNe (mIxN 11 (mVar 8)) (mCold (mOp gAdd (mVar 9) (ret (.int 1))))))) (sRet (mWarm (ret (.bl false)))) sNil)
  (sAug 10 gAddI (mCold (mOp gSub (mIxN 11 (mVar 8)) (mVar 9))))))
  (sIf (mTest (mOp gNe (mVar 10) (mCold (mOp gSub (mIxN 5 (mVar 8)) (mCold (mOp gMul (mVar 9) (mVar 4))))))) (sRet (mWarm (ret (.bl false)))) sNil)))))
  (sRet (mWarm (ret (.bl true))))))))
def f__law_even : Fun' := runDef 8 [true, true, true, true] m__law_even
/-! _law_number_refused -/
def m__law_number_refused : MS := (sSeq (sAsg (mWarm (ret (.str "none"))) (gSetM 3))
  (sSeq (sTryL 4 (sDrop (mCall f_lots [] (aCons (mVar 0) (aCons (mVar 1) (aCons (mVar 2) aNil))))) [(subOf ["BadNumber", "BadSet"] "BadNumber", (sAsg (mOp gAdd (mCold (mOp gAdd (mErr 4 "BadNumber" "name") (mCold (mB1 gStrB (mCold (mIsErr 4 "BadNumber" true)))))) (mCold (mB1 gStrB (mCold (mIsErr 4 "BadNumber" false))))) (gSetM 3))), (subOf ["BadNumber", "BadSet"] "BadSet", (sAsg (mOp gAdd (ret (.str "set")) (mCold (mB1 gStr1 (mErr 4 "BadSet" "place")))) (gSetM 3)))])
  (sRet (mMove 3))))
def f__law_number_refused : Fun' := runDef 2 [true, true, true] m__law_number_refused
/-! _law_halves_refused -/
def m__law_halves_refused : MS := (sSeq (sAsg (mWarm (mUn gNeg (ret (.int 7)))) (gSetM 2))
  (sSeq (sTry SUB_BadSet 3 (sDrop (mCall f_halves [] (aCons (mVar 0) (aCons (mVar 1) aNil)))) (sAsg (mWarm (mErr 3 "BadSet" "place")) (gSetM 2)))
  (sRet (mMove 2))))
def f__law_halves_refused : Fun' := runDef 2 [true, true] m__law_halves_refused
/-! _law_turned_right -/
def m__law_turned_right : MS := (sSeq (sAsg (mLc (mRange1 (mLenN 3)) (gSetM 6) mYes (mIxN 3 (mCold (mOp gSub (mCold (mOp gSub (mLenN 3) (ret (.int 1)))) (mVar 6)))) (([("_law_k", 6)] : List (Str × Nat)).map (·.2))) (gSetM 5))
  (sSeq (sAsg (mB1 gList (mVar 5)) (gSetM 7))
  (sSeq (sAsg (mCall f_halves [] (aCons (mVar 0) (aCons (mVar 5) aNil))) (gSetM 8))
  (sSeq (sAsg (mCall f_lots [] (aCons (mVar 0) (aCons (mVar 5) (aCons (mVar 4) aNil)))) (gSetM 9))
  (sSeq (sAsg (mCall f_lots [] (aCons (mVar 0) (aCons (mVar 5) (aCons (ret (.int 50)) aNil)))) (gSetM 10))
  (sSeq (sIf (mOr (mTest (mOp gNe (mVar 5) (mVar 7))) (mOr (mTest (mOp gNe (mLenN 8) (ret (.int 2)))) (mOr (mTest (mOp gNe (mLenN 9) (mVar 4))) (mTest (mOp gNe (mLenN 10) (ret (.int 50))))))) (sRet (mWarm (ret (.bl false)))) sNil)
  (sSeq (sFor (mItems (mCold (mLst (mCons (mVar 8) (mCons (mVar 9) (mCons (mVar 10) mNil)))))) (gSetM 11) (sIf (mOr (mNot (mTest (mCall f__law_parted [] (mIo 11 (aCons (mVar 3) (aCons (mLenN 2) aNil)))))) (mNot (mTest (mCall f__law_even [] (aCons (mVar 1) (aCons (mVar 2) (mIo 11 (aCons (mVar 3) aNil)))))))) (sRet (mWarm (ret (.bl false)))) sNil))
  (sRet (mWarm (mAndV (mCold (mOp gEq (mCold (mCall f__law_halves_refused [] (aCons (mVar 0) (aCons (mCold (mOp gAdd (mVar 5) (mCold (mLst (mCons (mUn gNeg (ret (.int 1))) mNil))))) aNil)))) (mLenN 3))) (mCold (mOp gEq (mCold (mCall f__law_halves_refused [] (aCons (mVar 0) (aCons (ret .non) aNil)))) (mUn gNeg (ret (.int 1)))))))))))))))
def f__law_turned_right : Fun' := runDef 7 [true, true, true, true, true] m__law_turned_right
/-! _law_chain_stock -/
def m__law_chain_stock : MS := (sSeq (sAsg (mLst mNil) (gSetM 3))
  (sSeq (sAsg (mOp gAdd (ret (.int 1)) (mCold (mCall f__law_take [] (mIo 0 (aCons (ret (.int 3)) aNil))))) (gSetM 4))
  (sSeq (sFor (mRange1 (mVar 4)) (gSetM 5) (sSeq (sAsg (mWarm (ret (.int 0))) (gSetM 6))
  (sFor (mRange1 (mVar 2)) (gSetM 7) (sIf (mTest (mOp gLt (mVar 6) (mVar 2))) (sSeq (sAsg (mOp gMin2 (mVar 2) (mCold (mOp gAdd (mCold (mOp gAdd (mVar 6) (ret (.int 1)))) (mCold (mCall f__law_take [] (mIo 0 (aCons (mVar 2) aNil))))))) (gSetM 8))
  (sSeq (sDrop (mAppN 3 (mTup (mCons (mVar 6) (mCons (mVar 8) mNil)))))
  (sAsg (mWarm (mVar 8)) (gSetM 6)))) sNil))))
  (sSeq (sIf (mAnd (mTest (mOp gEq (mVar 1) (ret (.str "lap")))) (mTest (mOp gEq (mCold (mCall f__law_take [] (mIo 0 (aCons (ret (.int 2)) aNil)))) (ret (.int 1))))) (sDrop (mAppN 3 (mTup (mCons (ret (.int 0)) (mCons (mVar 2) mNil))))) sNil)
  (sSeq (sAsg (mCall f__law_take [] (mIo 0 (aCons (mLenN 3) aNil))) (gSetM 9))
  (sRet (mLst (mCons (mVar 4) (mCons (mCold (mOp gAdd (mCold (mSlL (mVar 3) (mPart (mVar 9)) mNoPart)) (mCold (mSlL (mVar 3) mNoPart (mPart (mVar 9)))))) mNil)))))))))
def f__law_chain_stock : Fun' := runDef 7 [true, true, true] m__law_chain_stock
/-! _law_stock_lots -/
def m__law_stock_lots : MS := (sSeq (sAsg (mCall f__law_chain_stock [] (mIo 0 (aCons (mVar 1) (aCons (mVar 2) aNil)))) (gSetM 3))
  (sSeq (sAsg (mWarm (mIxN 3 (ret (.int 0)))) (gSetM 4))
  (sSeq (sAsg (mWarm (mIxN 3 (ret (.int 1)))) (gSetM 5))
  (sSeq (sAsg (mCall f__law_built [] (aCons (mVar 1) (aCons (mVar 2) (aCons (mVar 5) (aCons (mCold (mLst mNil)) aNil))))) (gSetM 6))
  (sSeq (sAsg ((mLenN 5).bnd fun x => opt (gLstRg (.int 0) x)) (gSetM 7))
  (sSeq (sAsg (mCall f_lots [] (aCons (mVar 6) (aCons (mVar 7) (aCons (mVar 4) aNil)))) (gSetM 8))
  (sSeq (sIf (mOr (mNot (mTest (mIsTN (fun n => n == "list") 8))) (mOr (mTest (mOp gNe (mLenN 8) (mVar 4))) (mNot (mTest (mCall f__law_parted [] (mIo 8 (aCons (mVar 7) (aCons (mLenN 5) aNil)))))))) (sRet (mWarm (ret (.bl false)))) sNil)
  (sSeq (sAsg (mLst mNil) (gSetM 9))
  (sSeq (sAsg (mWarm (ret (.int 0))) (gSetM 10))
  (sSeq (sFor (mItems (mVar 8)) (gSetM 11) (sSeq (sIf (mNot (mTest (mCall f_is_stock [] (aCons (mVar 6) (aCons (ret (.int 1)) (aCons (mVar 11) aNil)))))) (sRet (mWarm (ret (.bl false)))) sNil)
  (sIf (mTest (mOp gEq (mCold (mCall f__law_take [] (mIo 0 (aCons (ret (.int 2)) aNil)))) (ret (.int 1)))) (sSeq (sAsg (mOp gAdd (mVar 9) (mCold (mB1 gList (mVar 11)))) (gSetM 9))
  (sAug 10 gAddI (ret (.int 1)))) sNil)))
  (sRet (mWarm (mAndV (mCold (mCall f_is_stock [] (aCons (mVar 6) (aCons (mVar 4) (aCons (mVar 7) aNil))))) (mCold (mCall f_is_stock [] (aCons (mVar 6) (aCons (mVar 10) (aCons (mVar 9) aNil))))))))))))))))))
def f__law_stock_lots : Fun' := runDef 9 [true, true, true] m__law_stock_lots
/-! law_v2 -/
def m_law_v2 : MS := (sSeq (sAsg (mCall f__law_draws [] (aCons (mVar 0) aNil)) (gSetM 1))
  (sSeq (sAsg (mCall f__law_kind [] (mIo 1 aNil)) (gSetM 2))
  (sSeq (sAsg (mCall f__law_market_v2 [] (mIo 1 (aCons (ret (.int 9)) aNil))) (gSetM 3))
  (sSeq (sAsg (mWarm (mIxN 3 (ret (.int 0)))) (gSetM 4))
  (sSeq (sAsg (mWarm (mIxN 3 (ret (.int 1)))) (gSetM 5))
  (sSeq (sAsg (mCall f__law_built [] (aCons (mVar 2) (aCons (mVar 4) (aCons (mCold (mB1 gList (mVar 5))) (aCons (mIxN 3 (ret (.int 2))) aNil))))) (gSetM 6))
  (sSeq (sAsg (mCall f__law_parts [] (mIo 1 (aCons (mLenN 5) aNil))) (gSetM 7))
  (sSeq (sIf (mTest (mOp gEq (mCold (mCall f__law_take [] (mIo 1 (aCons (ret (.int 4)) aNil)))) (ret (.int 0)))) (sAsg ((mLenN 5).bnd fun x => opt (gLstRg (.int 0) x)) (gSetM 7)) sNil)
  (sSeq (sAsg (mOp gAdd (ret (.int 1)) (mCold (mCall f__law_take [] (mIo 1 (aCons (ret (.int 6)) aNil))))) (gSetM 8))
  (sSeq (sAsg (mB1 gList (mVar 7)) (gSetM 9))
  (sSeq (sAsg (mCall f_halves [] (aCons (mVar 6) (aCons (mVar 9) aNil))) (gSetM 10))
  (sSeq (sIf (mOr (mNot (mTest (mIsTN (fun n => n == "tuple") 10))) (mOr (mTest (mOp gNe (mLenN 10) (ret (.int 2)))) (mNot (mTest (mCall f__law_parted [] (mIo 10 (aCons (mVar 7) (aCons (mLenN 5) aNil)))))))) (sRet (mWarm (ret (.bl false)))) sNil)
  (sSeq (sIf (mNot (mTest (mCall f__law_even [] (aCons (mVar 4) (aCons (mVar 5) (mIo 10 (aCons (mVar 7) aNil))))))) (sRet (mWarm (ret (.bl false)))) sNil)
  (sSeq (sAsg (mCall f_lots [] (aCons (mVar 6) (aCons (mVar 9) (aCons (mVar 8) aNil)))) (gSetM 11))
  (sSeq (sIf (mOr (mNot (mTest (mIsTN (fun n => n == "list") 11))) (mOr (mTest (mOp gNe (mLenN 11) (mVar 8))) (mNot (mTest (mCall f__law_parted [] (mIo 11 (aCons (mVar 7) (aCons (mLenN 5) aNil)))))))) (sRet (mWarm (ret (.bl false)))) sNil)
  (sSeq (sIf (mOr (mNot (mTest (mCall f__law_even [] (aCons (mVar 4) (aCons (mVar 5) (mIo 11 (aCons (mVar 7) aNil))))))) (mTest (mOp gNe (mVar 9) (mVar 7)))) (sRet (mWarm (ret (.bl false)))) sNil)
  (sSeq (sDrop (mAppN 11 (mTup mNil)))
  (sSeq (sAsg (mCall f_lots [] (aCons (mVar 6) (aCons (mCold (mB1 gTuple (mVar 7))) (aCons (mVar 8) aNil)))) (gSetM 12))
  (sSeq (sIf (mTest (mOp gNe (mVar 12) (mCold (mSlL (mVar 11) mNoPart (mPart (mUn gNeg (ret (.int 1)))))))) (sRet (mWarm (ret (.bl false)))) sNil)
  (sSeq (sIf (mNot (mTest (mCall f__law_turned_right [] (aCons (mVar 6) (aCons (mVar 4) (aCons (mVar 5) (aCons (mVar 7) (aCons (mVar 8) aNil)))))))) (sRet (mWarm (ret (.bl false)))) sNil)
  (sSeq (sAsg (mCall f_lots [] (aCons (mVar 6) (aCons (mVar 7) (aCons (ret (.int 1)) aNil)))) (gSetM 13))
  (sSeq (sIf (mOr (mTest (mOp gNe (mVar 13) (mCold (mLst (mCons (mCold (mB1 gTuple (mVar 7))) mNil))))) (mTest (mOp gNe (mCold (mCall f_cover [] (aCons (mVar 6) (aCons (mVar 7) aNil)))) (mCold (mB1 gTuple (mCold (mCall f__law_cover [] (aCons (mVar 4) (aCons (mVar 5) (aCons (mVar 7) aNil)))))))))) (sRet (mWarm (ret (.bl false)))) sNil)
  (sSeq (sAsg (mWarm (mIx (mCold (mLst (mCons (ret (.int 0)) (mCons (mUn gNeg (ret (.int 1))) (mCons (ret (.int 51)) (mCons (ret .non) (mCons (ret (.bl true)) mNil))))))) (mCold (mCall f__law_take [] (mIo 1 (aCons (ret (.int 5)) aNil)))))) (gSetM 14))
  (sSeq (sIf (mTest (mOp gNe (mCold (mCall f__law_number_refused [] (aCons (mVar 6) (aCons (mVar 7) (aCons (mVar 14) aNil))))) (ret (.str "numberTrueFalse")))) (sRet (mWarm (ret (.bl false)))) sNil)
  (sSeq (sIf (mTest (mOp gNe (mCold (mCall f__law_number_refused [] (aCons (mVar 6) (aCons (mCold (mOp gAdd (mVar 7) (mCold (mLst (mCons (mLenN 5) mNil))))) (aCons (mVar 14) aNil))))) (mCold (mOp gAdd (ret (.str "set")) (mCold (mB1 gStr1 (mLenN 7))))))) (sRet (mWarm (ret (.bl false)))) sNil)
  (sRet (mCall f__law_stock_lots [] (mIo 1 (aCons (mVar 2) (aCons (mVar 4) aNil))))))))))))))))))))))))))))))
def f_law_v2 : Fun' := runDef 14 [true] m_law_v2
end L2.Fn
set_option maxRecDepth 100000
set_option maxHeartbeats 4000000
namespace L2.Fn.K02
open PySem PySem.Spec PyProof.Rows L2 L2.Fn
abbrev PW : Program := PySem.Challenge.pw_keptparts_k02_halves_and_lots
def top (i : Nat) : Stmt := PW.main.body.getD i (.Pass ⟨0, 0, 0, 0⟩)
def meth (i j : Nat) : Stmt := match top i with
  | .ClassDef (body := b) .. => b.getD j (.Pass ⟨0, 0, 0, 0⟩)
  | _ => .Pass ⟨0, 0, 0, 0⟩
structure Zf (P : Program) (w : World) (K : PySem.W.Frag) (mg : Str → Option Value) : Prop where
  cn_KIND : ConOk K (cmOf K) CN_KIND "KIND"
  ec_BadNumber : ExcC K (He.ga K "BadNumber")
  ex_BadSet : ExmOk K (cmOf K) SUB_BadSet (.ref (He.ga K "BadSet"))
  exl_BadNumber : ExmOk K (cmOf K) (subOf ["BadNumber", "BadSet"] "BadNumber") (.ref (He.ga K "BadNumber"))
  exl_BadSet : ExmOk K (cmOf K) (subOf ["BadNumber", "BadSet"] "BadSet") (.ref (He.ga K "BadSet"))
  f_bool : mg "bool" = none
  f_enumerate : mg "enumerate" = none
  f_int : mg "int" = none
  f_isinstance : mg "isinstance" = none
  f_len : mg "len" = none
  f_list : mg "list" = none
  f_max : mg "max" = none
  f_min : mg "min" = none
  f_range : mg "range" = none
  f_sorted : mg "sorted" = none
  f_str : mg "str" = none
  f_tuple : mg "tuple" = none
  fl_gone : FldOk K (cmOf K) KS "gone"
  fl_runs : FldOk K (cmOf K) KS "runs"
  fl_size : FldOk K (cmOf K) KS "size"
  g_BadNumber : mg "BadNumber" = some (.ref (He.ga K "BadNumber"))
  g_BadSet : mg "BadSet" = some (.ref (He.ga K "BadSet"))
  g_PartsError : mg "PartsError" = some (.ref (He.ga K "PartsError"))
  kin_BadNumber_BadSet : PySem.W.kitOne K (.ref (He.ga K "BadNumber")) (.ref (He.ga K "BadSet")) = some false
  kit_BadNumber_PartsError : PySem.W.kitOne K (.ref (He.ga K "BadNumber")) (.ref (He.ga K "PartsError")) = some true
  no_BadNumber_name : PySem.W.findIn K (.ref (He.ga K "BadNumber")) "name" = some none
  no_BadSet_place : PySem.W.findIn K (.ref (He.ga K "BadSet")) "place" = some none
  xf_BadNumber : XfC K (He.ga K "BadNumber")
  xf_BadSet : XfC K (He.ga K "BadSet")
section
variable {P : Program} {w : World} {K : PySem.W.Frag} {mg : Str → Option Value} {base : Heap}
/-! is_int -/
theorem sc_is_int : FnScope ["value"] ["value"] (defScope (top 9)) := ⟨rfl, rfl, rfl, by decide +kernel, rfl, by decide +kernel, by decide +kernel⟩
theorem ok_is_int {f : Addr} {fd : FuncData} (Z : Zf P w K mg) (Fd : FunD K "is_int" "is_int" (defArgs (top 9)) (defBody (top 9)) (defScope (top 9)) [] [] f fd) : FnOk P w K mg base (L2.CX P w) 1 f fd ["value"] (spOf K (cmOf K) 1 f_is_int) := by
  have ND : (["value"] : List Str).Nodup := sc_is_int.nd
  refine fn_ok (t := tNext) (n := 0) (l := [true]) (m := m_is_int) Fd sc_is_int rfl rfl fun cdv A outer s H E hr => ?_
  exact ⟨_, (sse_one (se_ret (oe_val (de_and (de_cold (k_isT K isT_int Z.f_isinstance Z.f_int (by decide +kernel) (de_v 0))) (de_one (oe_val (de_not (de_cold (k_isT K isT_bool Z.f_isinstance Z.f_bool (by decide +kernel) (de_v 0))))))))))⟩
/-! check_number -/
theorem sc_check_number : FnScope ["value", "name", "least", "most"] ["value", "name", "least", "most"] (defScope (top 10)) := ⟨rfl, rfl, rfl, by decide +kernel, rfl, by decide +kernel, by decide +kernel⟩
theorem ok_check_number {f : Addr} {fd : FuncData} (Z : Zf P w K mg) (C_is_int : Cal P w K mg base (cmOf K) "is_int" 1 1 f_is_int) (E_BadNumber : ErrP P w K mg base (cmOf K) "BadNumber" "name") (Fd : FunD K "check_number" "check_number" (defArgs (top 10)) (defBody (top 10)) (defScope (top 10)) [] [] f fd) : FnOk P w K mg base (L2.CX P w) 3 f fd ["value", "name", "least", "most"] (spOf K (cmOf K) 4 f_check_number) := by
  have ND : (["value", "name", "least", "most"] : List Str).Nodup := sc_check_number.nd
  refine fn_ok (t := tNext) (n := 0) (l := [true, true, true, true]) (m := m_check_number) Fd sc_check_number rfl rfl fun cdv A outer s H E hr => ?_
  exact ⟨_, (sse_cons (se_if (te_not (te_val (k_cal K C_is_int (hr.mono (by decide : 1 ≤ 2)) (takes_of rfl rfl rfl rfl) (ce_cons (de_v 0) ce_nil) (ln_cons ln_nil)))) (sse_one (se_rais E_BadNumber rfl (takes_of rfl rfl rfl rfl) (hr.mono (by decide : 2 ≤ 2)) rfl (de_v 1))) sse_nil)
  (sse_cons (se_if (te_cmp op_lt od_lt (de_v 0) (de_v 2) (by rfl)) (sse_one (se_rais E_BadNumber rfl (takes_of rfl rfl rfl rfl) (hr.mono (by decide : 2 ≤ 2)) rfl (de_v 1))) sse_nil)
  (sse_cons (se_if (te_w (we_and (te_cmp op_notN od_notN (de_v 3) de_non (by rfl)) (we_and1 (te_cmp op_gt od_gt (de_v 0) (de_v 3) (by rfl))))) (sse_one (se_rais E_BadNumber rfl (takes_of rfl rfl rfl rfl) (hr.mono (by decide : 2 ≤ 2)) rfl (de_v 1))) sse_nil)
  (sse_one (se_ret (oe_v 0))))))⟩
/-! set_of -/
theorem sc_set_of : FnScope ["many", "parts", "known", "place", "part"] ["many", "parts"] (defScope (top 12)) := ⟨rfl, rfl, rfl, by decide +kernel, rfl, by decide +kernel, by decide +kernel⟩
theorem ok_set_of {f : Addr} {fd : FuncData} (Z : Zf P w K mg) (C_check_number : Cal P w K mg base (cmOf K) "check_number" 3 4 f_check_number) (C_is_int : Cal P w K mg base (cmOf K) "is_int" 1 1 f_is_int) (E_BadSet : ErrP P w K mg base (cmOf K) "BadSet" "place") (Fd : FunD K "set_of" "set_of" (defArgs (top 12)) (defBody (top 12)) (defScope (top 12)) [] [] f fd) : FnOk P w K mg base (L2.CX P w) 4 f fd ["many", "parts"] (spOf K (cmOf K) 2 f_set_of) := by
  have ND : (["many", "parts", "known", "place", "part"] : List Str).Nodup := sc_set_of.nd
  refine fn_ok (t := tNext) (n := 3) (l := [true, true]) (m := m_set_of) Fd sc_set_of rfl rfl fun cdv A outer s H E hr => ?_
  exact ⟨_, (sse_cons (se_expr (k_cal K C_check_number (hr.mono (by decide : 3 ≤ 3)) (takes_of rfl rfl rfl rfl) (ce_cons (de_v 0) (ce_cons de_str (ce_cons de_int (ce_cons de_non ce_nil)))) (ln_cons (ln_cons (ln_cons (ln_cons ln_nil))))))
  (sse_cons (se_if (te_not (te_val (oe_isLT (by rfl) Z.f_isinstance (by rfl) Z.f_list (by rfl) Z.f_tuple (de_v 1)))) (sse_one (se_rais E_BadSet rfl (takes_of rfl rfl rfl rfl) (hr.mono (by decide : 2 ≤ 3)) rfl (de_un un_neg ud_neg de_int))) sse_nil)
  (sse_cons (se_asg oe_newK (ge_v 2 ND))
  (sse_cons (se_for (passes_of rfl) rfl (k_enum K Z.f_enumerate (de_v 1)) (k_tup K rfl (ges_cons (ge_v 3 ND) (ges_cons (ge_v 4 ND) ges_nil))) (sse_cons (se_if (te_w (we_or (te_not (te_val (k_cal K C_is_int (hr.mono (by decide : 1 ≤ 3)) (takes_of rfl rfl rfl rfl) (ce_cons (de_v 4) ce_nil) (ln_cons ln_nil)))) (we_or (te_cmp op_lt od_lt (de_v 4) de_int (by rfl)) (we_or (te_cmp op_ge od_ge (de_v 4) (de_v 0) (by rfl)) (we_or1 (te_cs (cs_din (i := 2) (u1 hr) (de_v 4) rfl (by first | exact Or.inl rfl | exact Or.inr (Or.inl rfl) | exact Or.inr (Or.inr rfl))))))))) (sse_one (se_rais E_BadSet rfl (takes_of rfl rfl rfl rfl) (hr.mono (by decide : 2 ≤ 3)) rfl (de_v 3))) sse_nil)
  (sse_one (se_putN (i := 2) (u1 hr) rfl (by first | exact Or.inl rfl | exact Or.inr (Or.inl rfl) | exact Or.inr (Or.inr rfl)) (de_v 4) de_bl))))
  (sse_one (se_ret (oe_t1 (k_tuple K) cd_tuple (by rfl) Z.f_tuple (by decide +kernel) (de_cold (oe_b1 (k_sorted K) cd_sorted (by rfl) Z.f_sorted (by decide +kernel) (de_cold (oe_listKN (i := 2) rfl (by rfl) Z.f_list rfl (by first | exact Or.inl rfl | exact Or.inr (Or.inl rfl) | exact Or.inr (Or.inr rfl)))))))))))))⟩
/-! both -/
theorem sc_both : FnScope ["one", "other", "known", "part"] ["one", "other"] (defScope (top 13)) := ⟨rfl, rfl, rfl, by decide +kernel, rfl, by decide +kernel, by decide +kernel⟩
theorem ok_both {f : Addr} {fd : FuncData} (Z : Zf P w K mg) (Fd : FunD K "both" "both" (defArgs (top 13)) (defBody (top 13)) (defScope (top 13)) [] [] f fd) : FnOk P w K mg base (L2.CX P w) 1 f fd ["one", "other"] (spOf K (cmOf K) 2 f_both) := by
  have ND : (["one", "other", "known", "part"] : List Str).Nodup := sc_both.nd
  refine fn_ok (t := tNext) (n := 2) (l := [true, true]) (m := m_both) Fd sc_both rfl rfl fun cdv A outer s H E hr => ?_
  exact ⟨_, (sse_cons (se_asg oe_newK (ge_v 2 ND))
  (sse_cons (se_for (passes_of rfl) rfl (k_seq K (de_v 0)) (ge_v 3 ND) (sse_one (se_putN (i := 2) (u1 hr) rfl (by first | exact Or.inl rfl | exact Or.inr (Or.inl rfl) | exact Or.inr (Or.inr rfl)) (de_v 3) de_bl)))
  (sse_cons (se_for (passes_of rfl) rfl (k_seq K (de_v 1)) (ge_v 3 ND) (sse_one (se_putN (i := 2) (u1 hr) rfl (by first | exact Or.inl rfl | exact Or.inr (Or.inl rfl) | exact Or.inr (Or.inr rfl)) (de_v 3) de_bl)))
  (sse_one (se_ret (oe_t1 (k_tuple K) cd_tuple (by rfl) Z.f_tuple (by decide +kernel) (de_cold (oe_b1 (k_sorted K) cd_sorted (by rfl) Z.f_sorted (by decide +kernel) (de_cold (oe_listKN (i := 2) rfl (by rfl) Z.f_list rfl (by first | exact Or.inl rfl | exact Or.inr (Or.inl rfl) | exact Or.inr (Or.inr rfl))))))))))))⟩
/-! common -/
theorem sc_common : FnScope ["one", "other", "known", "part"] ["one", "other"] (defScope (top 14)) := ⟨rfl, rfl, rfl, by decide +kernel, rfl, by decide +kernel, by decide +kernel⟩
theorem ok_common {f : Addr} {fd : FuncData} (Z : Zf P w K mg) (Fd : FunD K "common" "common" (defArgs (top 14)) (defBody (top 14)) (defScope (top 14)) [] [] f fd) : FnOk P w K mg base (L2.CX P w) 1 f fd ["one", "other"] (spOf K (cmOf K) 2 f_common) := by
  have ND : (["one", "other", "known", "part"] : List Str).Nodup := sc_common.nd
  refine fn_ok (t := tNext) (n := 2) (l := [true, true]) (m := m_common) Fd sc_common rfl rfl fun cdv A outer s H E hr => ?_
  exact ⟨_, (sse_cons (se_asg (oe_dc rfl ND (k_seq K (de_v 1)) (blk_ok (own := ([("part", 3)] : List (Str × Nat))) (by kernel_rfl)) (fun _ _ _ _ _ => (ge_v 3 ND)) (fun _ _ _ _ _ => ifs_nil) (fun _ _ _ _ _ => (de_v 3)) (fun _ _ _ _ _ => de_bl)) (ge_v 2 ND))
  (sse_one (se_ret (oe_t1 (k_tuple K) cd_tuple (by rfl) Z.f_tuple (by decide +kernel) (de_cold (oe_lc rfl ND (k_seq K (de_v 0)) (blk_ok (own := ([("part", 3)] : List (Str × Nat))) (by kernel_rfl)) (fun _ _ _ _ _ => (ge_v 3 ND)) (fun _ _ _ _ _ => (ifs_one (te_cs (cs_din (i := 2) (u1 hr) (de_v 3) rfl (by first | exact Or.inl rfl | exact Or.inr (Or.inl rfl) | exact Or.inr (Or.inr rfl)))))) (fun _ _ _ _ _ => (de_v 3))))))))⟩
/-! minus -/
theorem sc_minus : FnScope ["one", "other", "known", "part"] ["one", "other"] (defScope (top 15)) := ⟨rfl, rfl, rfl, by decide +kernel, rfl, by decide +kernel, by decide +kernel⟩
theorem ok_minus {f : Addr} {fd : FuncData} (Z : Zf P w K mg) (Fd : FunD K "minus" "minus" (defArgs (top 15)) (defBody (top 15)) (defScope (top 15)) [] [] f fd) : FnOk P w K mg base (L2.CX P w) 1 f fd ["one", "other"] (spOf K (cmOf K) 2 f_minus) := by
  have ND : (["one", "other", "known", "part"] : List Str).Nodup := sc_minus.nd
  refine fn_ok (t := tNext) (n := 2) (l := [true, true]) (m := m_minus) Fd sc_minus rfl rfl fun cdv A outer s H E hr => ?_
  exact ⟨_, (sse_cons (se_asg (oe_dc rfl ND (k_seq K (de_v 1)) (blk_ok (own := ([("part", 3)] : List (Str × Nat))) (by kernel_rfl)) (fun _ _ _ _ _ => (ge_v 3 ND)) (fun _ _ _ _ _ => ifs_nil) (fun _ _ _ _ _ => (de_v 3)) (fun _ _ _ _ _ => de_bl)) (ge_v 2 ND))
  (sse_one (se_ret (oe_t1 (k_tuple K) cd_tuple (by rfl) Z.f_tuple (by decide +kernel) (de_cold (oe_lc rfl ND (k_seq K (de_v 0)) (blk_ok (own := ([("part", 3)] : List (Str × Nat))) (by kernel_rfl)) (fun _ _ _ _ _ => (ge_v 3 ND)) (fun _ _ _ _ _ => (ifs_one (te_cs (cs_dnotin (i := 2) (u1 hr) (de_v 3) rfl (by first | exact Or.inl rfl | exact Or.inr (Or.inl rfl) | exact Or.inr (Or.inr rfl)))))) (fun _ _ _ _ _ => (de_v 3))))))))⟩
/-! pair_of -/
theorem sc_pair_of : FnScope ["size", "run", "begin", "end"] ["size", "run"] (defScope (top 17)) := ⟨rfl, rfl, rfl, by decide +kernel, rfl, by decide +kernel, by decide +kernel⟩
theorem ok_pair_of {f : Addr} {fd : FuncData} (Z : Zf P w K mg) (C_is_int : Cal P w K mg base (cmOf K) "is_int" 1 1 f_is_int) (Fd : FunD K "pair_of" "pair_of" (defArgs (top 17)) (defBody (top 17)) (defScope (top 17)) [] [] f fd) : FnOk P w K mg base (L2.CX P w) 2 f fd ["size", "run"] (spOf K (cmOf K) 2 f_pair_of) := by
  have ND : (["size", "run", "begin", "end"] : List Str).Nodup := sc_pair_of.nd
  refine fn_ok (t := tNext) (n := 2) (l := [true, true]) (m := m_pair_of) Fd sc_pair_of rfl rfl fun cdv A outer s H E hr => ?_
  exact ⟨_, (sse_cons (se_if (te_w (we_or (te_not (te_val (oe_isLT (by rfl) Z.f_isinstance (by rfl) Z.f_list (by rfl) Z.f_tuple (de_v 1)))) (we_or1 (te_cmp (k_ne K hr.units) od_ne (k_lenv K 1 Z.f_len) de_int (by rfl))))) (sse_one (se_ret (oe_val de_non))) sse_nil)
  (sse_cons (se_asg (oe_val (de_v 1)) (k_tup K rfl (ges_cons (ge_v 2 ND) (ges_cons (ge_v 3 ND) ges_nil))))
  (sse_cons (se_if (te_w (we_or (te_not (te_val (k_cal K C_is_int (hr.mono (by decide : 1 ≤ 1)) (takes_of rfl rfl rfl rfl) (ce_cons (de_v 2) ce_nil) (ln_cons ln_nil)))) (we_or1 (te_not (te_val (k_cal K C_is_int (hr.mono (by decide : 1 ≤ 1)) (takes_of rfl rfl rfl rfl) (ce_cons (de_v 3) ce_nil) (ln_cons ln_nil))))))) (sse_one (se_ret (oe_val de_non))) sse_nil)
  (sse_cons (se_if (te_w (we_or (te_cmp op_lt od_lt (de_v 2) de_int (by rfl)) (we_or (te_cmp op_ge od_ge (de_v 2) (de_v 3) (by rfl)) (we_or1 (te_cmp op_gt od_gt (de_v 3) (de_v 0) (by rfl)))))) (sse_one (se_ret (oe_val de_non))) sse_nil)
  (sse_one (se_ret (oe_val (de_tup (ae_cons (de_v 2) (ae_cons (de_v 3) ae_nil))))))))))⟩
/-! _runs_of -/
theorem sc__runs_of : FnScope ["size", "runs", "result", "place", "run", "pair"] ["size", "runs"] (defScope (top 18)) := ⟨rfl, rfl, rfl, by decide +kernel, rfl, by decide +kernel, by decide +kernel⟩
theorem ok__runs_of {f : Addr} {fd : FuncData} (Z : Zf P w K mg) (C_pair_of : Cal P w K mg base (cmOf K) "pair_of" 2 2 f_pair_of) (E_BadRun : ErrP P w K mg base (cmOf K) "BadRun" "place") (Fd : FunD K "_runs_of" "_runs_of" (defArgs (top 18)) (defBody (top 18)) (defScope (top 18)) [] [] f fd) : FnOk P w K mg base (L2.CX P w) 3 f fd ["size", "runs"] (spOf K (cmOf K) 2 f__runs_of) := by
  have ND : (["size", "runs", "result", "place", "run", "pair"] : List Str).Nodup := sc__runs_of.nd
  refine fn_ok (t := tNext) (n := 4) (l := [true, true]) (m := m__runs_of) Fd sc__runs_of rfl rfl fun cdv A outer s H E hr => ?_
  exact ⟨_, (sse_cons (se_if (te_not (te_val (oe_isLT (by rfl) Z.f_isinstance (by rfl) Z.f_list (by rfl) Z.f_tuple (de_v 1)))) (sse_one (se_rais E_BadRun rfl (takes_of rfl rfl rfl rfl) (hr.mono (by decide : 2 ≤ 2)) rfl (de_un un_neg ud_neg de_int))) sse_nil)
  (sse_cons (se_asg (oe_lst ae_nil) (ge_v 2 ND))
  (sse_cons (se_for (passes_of rfl) rfl (k_enum K Z.f_enumerate (de_v 1)) (k_tup K rfl (ges_cons (ge_v 3 ND) (ges_cons (ge_v 4 ND) ges_nil))) (sse_cons (se_asg (k_cal K C_pair_of (hr.mono (by decide : 2 ≤ 2)) (takes_of rfl rfl rfl rfl) (ce_cons (de_v 0) (ce_cons (de_v 4) ce_nil)) (ln_cons (ln_cons ln_nil))) (ge_v 5 ND))
  (sse_cons (se_if (te_cmp op_isN od_isN (de_v 5) de_non (by rfl)) (sse_one (se_rais E_BadRun rfl (takes_of rfl rfl rfl rfl) (hr.mono (by decide : 2 ≤ 2)) rfl (de_v 3))) sse_nil)
  (sse_one (se_expr (oe_appN (i := 2) rfl (by first | exact Or.inl rfl | exact Or.inr (Or.inl rfl) | exact Or.inr (Or.inr rfl)) (de_v 5)))))))
  (sse_one (se_ret (oe_t1 (k_tuple K) cd_tuple (by rfl) Z.f_tuple (by decide +kernel) (de_v 2)))))))⟩
/-! Market.__init__ -/
theorem sc_Market___init__ : FnScope ["self", "size", "runs", "gone"] ["self", "size", "runs", "gone"] (defScope (meth 20 1)) := ⟨rfl, rfl, rfl, by decide +kernel, rfl, by decide +kernel, by decide +kernel⟩
theorem ok_Market___init__ {f : Addr} {fd : FuncData} (Z : Zf P w K mg) (C_check_number : Cal P w K mg base (cmOf K) "check_number" 3 4 f_check_number) (C__runs_of : Cal P w K mg base (cmOf K) "_runs_of" 3 2 f__runs_of) (C_set_of : Cal P w K mg base (cmOf K) "set_of" 4 2 f_set_of) (Fd : FunD K "__init__" "Market.__init__" (defArgs (meth 20 1)) (defBody (meth 20 1)) (defScope (meth 20 1)) [] [] f fd) : FnOk P w K mg base (L2.CX P w) 5 f fd ["self", "size", "runs", "gone"] (spOf K (cmOf K) 4 f_Market___init__) := by
  have ND : (["self", "size", "runs", "gone"] : List Str).Nodup := sc_Market___init__.nd
  refine fn_ok (t := tNext) (n := 0) (l := [true, true, true, true]) (m := m_Market___init__) Fd sc_Market___init__ rfl rfl fun cdv A outer s H E hr => ?_
  exact ⟨_, (sse_cons (se_fldN (i := 0) Z.fl_size rfl (by first | exact Or.inl rfl | exact Or.inr (Or.inl rfl) | exact Or.inr (Or.inr rfl)) (de_cold (k_cal K C_check_number (hr.mono (by decide : 3 ≤ 4)) (takes_of rfl rfl rfl rfl) (ce_cons (de_v 1) (ce_cons de_str (ce_cons de_int (ce_cons de_int ce_nil)))) (ln_cons (ln_cons (ln_cons (ln_cons ln_nil)))))))
  (sse_cons (se_fldN (i := 0) Z.fl_runs rfl (by first | exact Or.inl rfl | exact Or.inr (Or.inl rfl) | exact Or.inr (Or.inr rfl)) (de_cold (k_cal K C__runs_of (hr.mono (by decide : 3 ≤ 4)) (takes_of rfl rfl rfl rfl) (ce_cons (de_v 1) (ce_cons (de_v 2) ce_nil)) (ln_cons (ln_cons ln_nil)))))
  (sse_one (se_fldN (i := 0) Z.fl_gone rfl (by first | exact Or.inl rfl | exact Or.inr (Or.inl rfl) | exact Or.inr (Or.inr rfl)) (de_cold (k_cal K C_set_of (hr.mono (by decide : 4 ≤ 4)) (takes_of rfl rfl rfl rfl) (ce_cons (k_len K Z.f_len (k_fv K 0 Z.fl_runs)) (ce_cons (de_v 3) ce_nil)) (ln_cons (ln_cons ln_nil))))))))⟩
/-! demand_of -/
theorem sc_demand_of : FnScope ["market", "demand", "_", "place", "number"] ["market", "demand"] (defScope (top 32)) := ⟨rfl, rfl, rfl, by decide +kernel, rfl, by decide +kernel, by decide +kernel⟩
theorem ok_demand_of {f : Addr} {fd : FuncData} (Z : Zf P w K mg) (C_is_int : Cal P w K mg base (cmOf K) "is_int" 1 1 f_is_int) (E_BadDemand : ErrP P w K mg base (cmOf K) "BadDemand" "place") (Fd : FunD K "demand_of" "demand_of" (defArgs (top 32)) (defBody (top 32)) (defScope (top 32)) [] [] f fd) : FnOk P w K mg base (L2.CX P w) 3 f fd ["market", "demand"] (spOf K (cmOf K) 2 f_demand_of) := by
  have ND : (["market", "demand", "_", "place", "number"] : List Str).Nodup := sc_demand_of.nd
  refine fn_ok (t := tNext) (n := 3) (l := [true, true]) (m := m_demand_of) Fd sc_demand_of rfl rfl fun cdv A outer s H E hr => ?_
  exact ⟨_, (sse_cons (se_if (te_val (k_cal K C_is_int (hr.mono (by decide : 1 ≤ 2)) (takes_of rfl rfl rfl rfl) (ce_cons (de_v 1) ce_nil) (ln_cons ln_nil))) (sse_one (se_ret (oe_t1 (k_tuple K) cd_tuple (by rfl) Z.f_tuple (by decide +kernel) (de_cold (oe_lc rfl ND (ie_range1 (by rfl) Z.f_range (k_fv K 0 Z.fl_size)) (blk_ok (own := ([("_", 2)] : List (Str × Nat))) (by kernel_rfl)) (fun _ _ _ _ _ => (ge_v 2 ND)) (fun _ _ _ _ _ => ifs_nil) (fun _ _ _ _ _ => (de_v 1))))))) sse_nil)
  (sse_cons (se_if (te_w (we_or (te_not (te_val (oe_isLT (by rfl) Z.f_isinstance (by rfl) Z.f_list (by rfl) Z.f_tuple (de_v 1)))) (we_or1 (te_cmp (k_ne K hr.units) od_ne (k_lenv K 1 Z.f_len) (k_fv K 0 Z.fl_size) (by rfl))))) (sse_one (se_rais E_BadDemand rfl (takes_of rfl rfl rfl rfl) (hr.mono (by decide : 2 ≤ 2)) rfl (de_un un_neg ud_neg de_int))) sse_nil)
  (sse_cons (se_for (passes_of rfl) rfl (k_enum K Z.f_enumerate (de_v 1)) (k_tup K rfl (ges_cons (ge_v 3 ND) (ges_cons (ge_v 4 ND) ges_nil))) (sse_one (se_if (te_not (te_val (k_cal K C_is_int (hr.mono (by decide : 1 ≤ 2)) (takes_of rfl rfl rfl rfl) (ce_cons (de_v 4) ce_nil) (ln_cons ln_nil)))) (sse_one (se_rais E_BadDemand rfl (takes_of rfl rfl rfl rfl) (hr.mono (by decide : 2 ≤ 2)) rfl (de_v 3))) sse_nil)))
  (sse_one (se_ret (oe_t1 (k_tuple K) cd_tuple (by rfl) Z.f_tuple (by decide +kernel) (de_v 1)))))))⟩
/-! _cover -/
theorem sc__cover : FnScope ["market", "parts", "rises", "_", "part", "begin", "end", "result", "level", "place"] ["market", "parts"] (defScope (top 33)) := ⟨rfl, rfl, rfl, by decide +kernel, rfl, by decide +kernel, by decide +kernel⟩
theorem ok__cover {f : Addr} {fd : FuncData} (Z : Zf P w K mg) (Fd : FunD K "_cover" "_cover" (defArgs (top 33)) (defBody (top 33)) (defScope (top 33)) [] [] f fd) : FnOk P w K mg base (L2.CX P w) 1 f fd ["market", "parts"] (spOf K (cmOf K) 2 f__cover) := by
  have ND : (["market", "parts", "rises", "_", "part", "begin", "end", "result", "level", "place"] : List Str).Nodup := sc__cover.nd
  refine fn_ok (t := tNext) (n := 8) (l := [true, true]) (m := m__cover) Fd sc__cover rfl rfl fun cdv A outer s H E hr => ?_
  exact ⟨_, (sse_cons (se_setLc (i := 2) rfl ND rfl rfl (by rfl) (ie_range1 (by rfl) Z.f_range (de_cold (oe_op op_addX od_add (k_fv K 0 Z.fl_size) de_int))) (blk_ok (own := ([("_", 3)] : List (Str × Nat))) (by kernel_rfl)) (fun _ _ _ _ _ => (ge_v 3 ND)) (fun _ _ _ _ _ => ifs_nil) (fun _ _ _ _ _ => de_int))
  (sse_cons (se_for (passes_of rfl) rfl (k_seq K (de_v 1)) (ge_v 4 ND) (sse_cons (se_asg (oe_val (k_ix K (k_fv K 0 Z.fl_runs) (de_v 4))) (k_tup K rfl (ges_cons (ge_v 5 ND) (ges_cons (ge_v 6 ND) ges_nil))))
  (sse_cons (se_augN (i := 2) rfl (by first | exact Or.inl rfl | exact Or.inr (Or.inl rfl) | exact Or.inr (Or.inr rfl)) (de_v 5) de_int ip_add id_add)
  (sse_one (se_augN (i := 2) rfl (by first | exact Or.inl rfl | exact Or.inr (Or.inl rfl) | exact Or.inr (Or.inr rfl)) (de_v 6) de_int ip_sub id_sub)))))
  (sse_cons (se_asg (oe_lst ae_nil) (ge_v 7 ND))
  (sse_cons (se_asg (oe_val de_int) (ge_v 8 ND))
  (sse_cons (se_for (passes_of rfl) rfl (ie_range1 (by rfl) Z.f_range (k_fv K 0 Z.fl_size)) (ge_v 9 ND) (sse_cons (se_asg (oe_op op_addX od_add (de_v 8) (k_ixv K 2 (de_v 9))) (ge_v 8 ND))
  (sse_one (se_expr (oe_appN (i := 7) rfl (by first | exact Or.inl rfl | exact Or.inr (Or.inl rfl) | exact Or.inr (Or.inr rfl)) (de_v 8))))))
  (sse_one (se_ret (oe_t1 (k_tuple K) cd_tuple (by rfl) Z.f_tuple (by decide +kernel) (de_v 7)))))))))⟩
/-! cover -/
theorem sc_cover : FnScope ["market", "parts"] ["market", "parts"] (defScope (top 34)) := ⟨rfl, rfl, rfl, by decide +kernel, rfl, by decide +kernel, by decide +kernel⟩
theorem ok_cover {f : Addr} {fd : FuncData} (Z : Zf P w K mg) (C__cover : Cal P w K mg base (cmOf K) "_cover" 1 2 f__cover) (C_set_of : Cal P w K mg base (cmOf K) "set_of" 4 2 f_set_of) (Fd : FunD K "cover" "cover" (defArgs (top 34)) (defBody (top 34)) (defScope (top 34)) [] [] f fd) : FnOk P w K mg base (L2.CX P w) 5 f fd ["market", "parts"] (spOf K (cmOf K) 2 f_cover) := by
  have ND : (["market", "parts"] : List Str).Nodup := sc_cover.nd
  refine fn_ok (t := tNext) (n := 0) (l := [true, true]) (m := m_cover) Fd sc_cover rfl rfl fun cdv A outer s H E hr => ?_
  exact ⟨_, (sse_one (se_ret (k_cal K C__cover (hr.mono (by decide : 1 ≤ 4)) (takes_of rfl rfl rfl rfl) (ce_cons (de_v 0) (ce_cons (de_cold (k_cal K C_set_of (hr.mono (by decide : 4 ≤ 4)) (takes_of rfl rfl rfl rfl) (ce_cons (k_len K Z.f_len (k_fv K 0 Z.fl_runs)) (ce_cons (de_v 1) ce_nil)) (ln_cons (ln_cons ln_nil)))) ce_nil)) (ln_cons (ln_cons ln_nil)))))⟩
/-! _misfit -/
theorem sc__misfit : FnScope ["market", "row", "parts", "joined", "place", "number"] ["market", "row", "parts"] (defScope (top 35)) := ⟨rfl, rfl, rfl, by decide +kernel, rfl, by decide +kernel, by decide +kernel⟩
theorem ok__misfit {f : Addr} {fd : FuncData} (Z : Zf P w K mg) (C__cover : Cal P w K mg base (cmOf K) "_cover" 1 2 f__cover) (Fd : FunD K "_misfit" "_misfit" (defArgs (top 35)) (defBody (top 35)) (defScope (top 35)) [] [] f fd) : FnOk P w K mg base (L2.CX P w) 2 f fd ["market", "row", "parts"] (spOf K (cmOf K) 3 f__misfit) := by
  have ND : (["market", "row", "parts", "joined", "place", "number"] : List Str).Nodup := sc__misfit.nd
  refine fn_ok (t := tNext) (n := 3) (l := [true, true, true]) (m := m__misfit) Fd sc__misfit rfl rfl fun cdv A outer s H E hr => ?_
  exact ⟨_, (sse_cons (se_asg (oe_cmp (k_eq K hr.units) od_eq (k_con K Z.cn_KIND (de_v 0)) de_str (by rfl)) (ge_v 3 ND))
  (sse_cons (se_for (passes_of rfl) rfl (k_enum K Z.f_enumerate (de_cold (k_cal K C__cover (hr.mono (by decide : 1 ≤ 1)) (takes_of rfl rfl rfl rfl) (ce_cons (de_v 0) (ce_cons (de_v 2) ce_nil)) (ln_cons (ln_cons ln_nil))))) (k_tup K rfl (ges_cons (ge_v 4 ND) (ges_cons (ge_v 5 ND) ges_nil))) (sse_one (se_if (te_w (we_or (te_cmp op_lt od_lt (de_v 5) (k_ixv K 1 (de_v 4)) (by rfl)) (we_or1 (te_w (we_and (te_val (oe_val (de_v 3))) (we_and1 (te_cmp op_gt od_gt (de_v 5) (k_ixv K 1 (de_v 4)) (by rfl)))))))) (sse_one (se_ret (oe_v 4))) sse_nil)))
  (sse_one (se_ret (oe_val de_non)))))⟩
/-! is_stock -/
theorem sc_is_stock : FnScope ["market", "demand", "parts", "row", "chosen"] ["market", "demand", "parts"] (defScope (top 36)) := ⟨rfl, rfl, rfl, by decide +kernel, rfl, by decide +kernel, by decide +kernel⟩
theorem ok_is_stock {f : Addr} {fd : FuncData} (Z : Zf P w K mg) (C_demand_of : Cal P w K mg base (cmOf K) "demand_of" 3 2 f_demand_of) (C_set_of : Cal P w K mg base (cmOf K) "set_of" 4 2 f_set_of) (C_common : Cal P w K mg base (cmOf K) "common" 1 2 f_common) (C__misfit : Cal P w K mg base (cmOf K) "_misfit" 2 3 f__misfit) (Fd : FunD K "is_stock" "is_stock" (defArgs (top 36)) (defBody (top 36)) (defScope (top 36)) [] [] f fd) : FnOk P w K mg base (L2.CX P w) 5 f fd ["market", "demand", "parts"] (spOf K (cmOf K) 3 f_is_stock) := by
  have ND : (["market", "demand", "parts", "row", "chosen"] : List Str).Nodup := sc_is_stock.nd
  refine fn_ok (t := tNext) (n := 2) (l := [true, true, true]) (m := m_is_stock) Fd sc_is_stock rfl rfl fun cdv A outer s H E hr => ?_
  exact ⟨_, (sse_cons (se_asg (k_cal K C_demand_of (hr.mono (by decide : 3 ≤ 4)) (takes_of rfl rfl rfl rfl) (ce_cons (de_v 0) (ce_cons (de_v 1) ce_nil)) (ln_cons (ln_cons ln_nil))) (ge_v 3 ND))
  (sse_cons (se_asg (k_cal K C_set_of (hr.mono (by decide : 4 ≤ 4)) (takes_of rfl rfl rfl rfl) (ce_cons (k_len K Z.f_len (k_fv K 0 Z.fl_runs)) (ce_cons (de_v 2) ce_nil)) (ln_cons (ln_cons ln_nil))) (ge_v 4 ND))
  (sse_cons (se_if (te_cmp op_gt od_gt (k_len K Z.f_len (de_cold (k_cal K C_common (hr.mono (by decide : 1 ≤ 4)) (takes_of rfl rfl rfl rfl) (ce_cons (de_v 4) (ce_cons (k_fv K 0 Z.fl_gone) ce_nil)) (ln_cons (ln_cons ln_nil))))) de_int (by rfl)) (sse_one (se_ret (oe_val de_bl))) sse_nil)
  (sse_one (se_ret (oe_cmp op_isN od_isN (de_cold (k_cal K C__misfit (hr.mono (by decide : 2 ≤ 4)) (takes_of rfl rfl rfl rfl) (ce_cons (de_v 0) (ce_cons (de_v 3) (ce_cons (de_v 4) ce_nil))) (ln_cons (ln_cons (ln_cons ln_nil))))) de_non (by rfl)))))))⟩
/-! _partners -/
theorem sc__partners : FnScope ["market", "parts", "ends", "part", "side", "partner", "at", "one", "other"] ["market", "parts"] (defScope (top 38)) := ⟨rfl, rfl, rfl, by decide +kernel, rfl, by decide +kernel, by decide +kernel⟩
theorem ok__partners {f : Addr} {fd : FuncData} (Z : Zf P w K mg) (Fd : FunD K "_partners" "_partners" (defArgs (top 38)) (defBody (top 38)) (defScope (top 38)) [] [] f fd) : FnOk P w K mg base (L2.CX P w) 1 f fd ["market", "parts"] (spOf K (cmOf K) 2 f__partners) := by
  have ND : (["market", "parts", "ends", "part", "side", "partner", "at", "one", "other"] : List Str).Nodup := sc__partners.nd
  refine fn_ok (t := tNext) (n := 7) (l := [true, true]) (m := m__partners) Fd sc__partners rfl rfl fun cdv A outer s H E hr => ?_
  exact ⟨_, (sse_cons (se_asg (oe_b1 (k_sortT K (d := 3) (B := 1000) (by decide)) cd_sortT (by rfl) Z.f_sorted (by decide +kernel) (de_cold (oe_lc2 (vs1 := [4]) rfl ND (k_seq K (de_v 1)) (blk_ok (own := ([("part", 3), ("side", 4)] : List (Str × Nat))) (by kernel_rfl)) (by decide) (fun _ _ _ _ _ => (ge_v 3 ND)) (fun _ _ _ _ _ => ifs_nil) (fun _ _ _ _ _ => (k_seq K (de_tup (ae_cons de_int (ae_cons de_int ae_nil))))) (fun _ _ _ _ _ => (ge_v 4 ND)) (fun _ _ _ _ _ => ifs_nil) (fun _ _ _ _ _ => (de_tup (ae_cons (k_ix K (k_ix K (k_fv K 0 Z.fl_runs) (de_v 3)) (de_v 4)) (ae_cons (de_v 3) (ae_cons (de_v 4) ae_nil)))))))) (ge_v 2 ND))
  (sse_cons (se_asg oe_newT (ge_v 5 ND))
  (sse_cons (se_for (passes_of rfl) rfl (ie_range3 (by rfl) Z.f_range de_int (k_lenv K 2 Z.f_len) de_int) (ge_v 6 ND) (sse_cons (se_asg (oe_val (de_tup (ae_cons (k_ix K (k_ixv K 2 (de_v 6)) de_int) (ae_cons (k_ix K (k_ixv K 2 (de_v 6)) de_int) ae_nil)))) (ge_v 7 ND))
  (sse_cons (se_asg (oe_val (de_tup (ae_cons (k_ix K (k_ixv K 2 (de_cold (oe_op op_addX od_add (de_v 6) de_int))) de_int) (ae_cons (k_ix K (k_ixv K 2 (de_cold (oe_op op_addX od_add (de_v 6) de_int))) de_int) ae_nil)))) (ge_v 8 ND))
  (sse_cons (se_putN (i := 5) (u1 hr) rfl (by first | exact Or.inl rfl | exact Or.inr (Or.inl rfl) | exact Or.inr (Or.inr rfl)) (de_v 7) (de_v 8))
  (sse_one (se_putN (i := 5) (u1 hr) rfl (by first | exact Or.inl rfl | exact Or.inr (Or.inl rfl) | exact Or.inr (Or.inr rfl)) (de_v 8) (de_v 7)))))))
  (sse_one (se_ret (oe_v 5))))))⟩
/-! _halves -/
theorem sc__halves : FnScope ["market", "parts", "partner", "side_of", "first", "part", "side", "one"] ["market", "parts"] (defScope (top 39)) := ⟨rfl, rfl, rfl, by decide +kernel, rfl, by decide +kernel, by decide +kernel⟩
theorem ok__halves {f : Addr} {fd : FuncData} (Z : Zf P w K mg) (C__partners : Cal P w K mg base (cmOf K) "_partners" 1 2 f__partners) (C_minus : Cal P w K mg base (cmOf K) "minus" 1 2 f_minus) (Fd : FunD K "_halves" "_halves" (defArgs (top 39)) (defBody (top 39)) (defScope (top 39)) [] [] f fd) : FnOk P w K mg base (L2.CX P w) 2 f fd ["market", "parts"] (spOf K (cmOf K) 2 f__halves) := by
  have ND : (["market", "parts", "partner", "side_of", "first", "part", "side", "one"] : List Str).Nodup := sc__halves.nd
  refine fn_ok (t := tNext) (n := 6) (l := [true, true]) (m := m__halves) Fd sc__halves rfl rfl fun cdv A outer s H E hr => ?_
  exact ⟨_, (sse_cons (se_asg (k_cal K C__partners (hr.mono (by decide : 1 ≤ 1)) (takes_of rfl rfl rfl rfl) (ce_cons (de_v 0) (ce_cons (de_v 1) ce_nil)) (ln_cons (ln_cons ln_nil))) (ge_v 2 ND))
  (sse_cons (se_asg oe_newK (ge_v 3 ND))
  (sse_cons (se_for (passes_of rfl) rfl (k_seq K (de_v 1)) (ge_v 4 ND) (sse_cons (se_par (i := 5) (j := 6) rfl ND rfl rfl (by decide) rfl rfl (ae_cons (de_v 4) (ae_cons de_int ae_nil)) (by rfl))
  (sse_one (se_while 100 (passes_of rfl) (te_cs (cs_dnotin (i := 3) (u1 hr) (de_v 5) rfl (by first | exact Or.inl rfl | exact Or.inr (Or.inl rfl) | exact Or.inr (Or.inr rfl)))) (sse_cons (se_putN (i := 3) (u1 hr) rfl (by first | exact Or.inl rfl | exact Or.inr (Or.inl rfl) | exact Or.inr (Or.inr rfl)) (de_v 5) (de_v 6))
  (sse_one (se_asg (oe_val (de_getN (i := 2) (u1 hr) rfl (by first | exact Or.inl rfl | exact Or.inr (Or.inl rfl) | exact Or.inr (Or.inr rfl)) (de_tup (ae_cons (de_v 5) (ae_cons (de_cold (oe_op op_sub od_sub de_int (de_v 6))) ae_nil))))) (k_tup K rfl (ges_cons (ge_v 5 ND) (ges_cons (ge_v 6 ND) ges_nil))))))))))
  (sse_cons (se_asg (oe_t1 (k_tuple K) cd_tuple (by rfl) Z.f_tuple (by decide +kernel) (de_cold (oe_lc rfl ND (k_seq K (de_v 1)) (blk_ok (own := ([("part", 5)] : List (Str × Nat))) (by kernel_rfl)) (fun _ _ _ _ _ => (ge_v 5 ND)) (fun _ _ _ _ _ => (ifs_one (te_cmp (k_eq K hr.units) od_eq (de_getN (i := 3) (u1 hr) rfl (by first | exact Or.inl rfl | exact Or.inr (Or.inl rfl) | exact Or.inr (Or.inr rfl)) (de_v 5)) de_int (by rfl)))) (fun _ _ _ _ _ => (de_v 5))))) (ge_v 7 ND))
  (sse_one (se_ret (oe_val (de_tup (ae_cons (de_v 7) (ae_cons (de_cold (k_cal K C_minus (hr.mono (by decide : 1 ≤ 1)) (takes_of rfl rfl rfl rfl) (ce_cons (de_v 1) (ce_cons (de_v 7) ce_nil)) (ln_cons (ln_cons ln_nil)))) ae_nil))))))))))⟩
/-! halves -/
theorem sc_halves : FnScope ["market", "parts"] ["market", "parts"] (defScope (top 40)) := ⟨rfl, rfl, rfl, by decide +kernel, rfl, by decide +kernel, by decide +kernel⟩
theorem ok_halves {f : Addr} {fd : FuncData} (Z : Zf P w K mg) (C__halves : Cal P w K mg base (cmOf K) "_halves" 2 2 f__halves) (C_set_of : Cal P w K mg base (cmOf K) "set_of" 4 2 f_set_of) (Fd : FunD K "halves" "halves" (defArgs (top 40)) (defBody (top 40)) (defScope (top 40)) [] [] f fd) : FnOk P w K mg base (L2.CX P w) 5 f fd ["market", "parts"] (spOf K (cmOf K) 2 f_halves) := by
  have ND : (["market", "parts"] : List Str).Nodup := sc_halves.nd
  refine fn_ok (t := tNext) (n := 0) (l := [true, true]) (m := m_halves) Fd sc_halves rfl rfl fun cdv A outer s H E hr => ?_
  exact ⟨_, (sse_one (se_ret (k_cal K C__halves (hr.mono (by decide : 2 ≤ 4)) (takes_of rfl rfl rfl rfl) (ce_cons (de_v 0) (ce_cons (de_cold (k_cal K C_set_of (hr.mono (by decide : 4 ≤ 4)) (takes_of rfl rfl rfl rfl) (ce_cons (k_len K Z.f_len (k_fv K 0 Z.fl_runs)) (ce_cons (de_v 1) ce_nil)) (ln_cons (ln_cons ln_nil)))) ce_nil)) (ln_cons (ln_cons ln_nil)))))⟩
/-! _far -/
theorem sc__far : FnScope ["covers", "size", "width", "found", "place", "column", "row"] ["covers", "size"] (defScope (top 41)) := ⟨rfl, rfl, rfl, by decide +kernel, rfl, by decide +kernel, by decide +kernel⟩
theorem ok__far {f : Addr} {fd : FuncData} (Z : Zf P w K mg) (Fd : FunD K "_far" "_far" (defArgs (top 41)) (defBody (top 41)) (defScope (top 41)) [] [] f fd) : FnOk P w K mg base (L2.CX P w) 1 f fd ["covers", "size"] (spOf K (cmOf K) 2 f__far) := by
  have ND : (["covers", "size", "width", "found", "place", "column", "row"] : List Str).Nodup := sc__far.nd
  refine fn_ok (t := tNext) (n := 5) (l := [true, true]) (m := m__far) Fd sc__far rfl rfl fun cdv A outer s H E hr => ?_
  exact ⟨_, (sse_cons (se_asg (oe_val de_int) (ge_v 2 ND))
  (sse_cons (se_asg (oe_val de_non) (ge_v 3 ND))
  (sse_cons (se_for (passes_of rfl) rfl (ie_range1 (by rfl) Z.f_range (de_v 1)) (ge_v 4 ND) (sse_cons (se_setLcN (i := 5) (j := 0) rfl ND rfl rfl (by rfl) rfl (by first | exact Or.inl rfl | exact Or.inr (Or.inl rfl) | exact Or.inr (Or.inr rfl)) (blk_ok (own := ([("row", 6)] : List (Str × Nat))) (by kernel_rfl)) (fun _ _ _ _ _ => (ge_v 6 ND)) (fun _ _ _ _ _ => ifs_nil) (fun _ _ _ _ _ => (k_ixv K 6 (de_v 4))))
  (sse_one (se_if (te_cmp op_gt od_gt (de_cold (oe_op op_sub od_sub (de_cold (oe_b1 (k_maxL K rfl) cd_maxL (by rfl) Z.f_max (by decide +kernel) (de_v 5))) (de_cold (oe_b1 (k_minL K rfl) cd_minL (by rfl) Z.f_min (by decide +kernel) (de_v 5))))) (de_v 2) (by rfl)) (sse_cons (se_asg (oe_op op_sub od_sub (de_cold (oe_b1 (k_maxL K rfl) cd_maxL (by rfl) Z.f_max (by decide +kernel) (de_v 5))) (de_cold (oe_b1 (k_minL K rfl) cd_minL (by rfl) Z.f_min (by decide +kernel) (de_v 5)))) (ge_v 2 ND))
  (sse_one (se_asg (oe_val (de_tup (ae_cons (de_index (de_v 5) (de_cold (oe_b1 (k_maxL K rfl) cd_maxL (by rfl) Z.f_max (by decide +kernel) (de_v 5)))) (ae_cons (de_index (de_v 5) (de_cold (oe_b1 (k_minL K rfl) cd_minL (by rfl) Z.f_min (by decide +kernel) (de_v 5)))) ae_nil)))) (ge_v 3 ND)))) sse_nil))))
  (sse_one (se_ret (oe_v 3))))))⟩
/-! lots -/
theorem sc_lots : FnScope ["market", "parts", "number", "rest", "result", "at", "covers", "row", "found", "high", "low", "one", "other"] ["market", "parts", "number"] (defScope (top 42)) := ⟨rfl, rfl, rfl, by decide +kernel, rfl, by decide +kernel, by decide +kernel⟩
theorem ok_lots {f : Addr} {fd : FuncData} (Z : Zf P w K mg) (C_set_of : Cal P w K mg base (cmOf K) "set_of" 4 2 f_set_of) (C_check_number : Cal P w K mg base (cmOf K) "check_number" 3 4 f_check_number) (C_cover : Cal P w K mg base (cmOf K) "cover" 5 2 f_cover) (C__far : Cal P w K mg base (cmOf K) "_far" 1 2 f__far) (C__halves : Cal P w K mg base (cmOf K) "_halves" 2 2 f__halves) (C_both : Cal P w K mg base (cmOf K) "both" 1 2 f_both) (Fd : FunD K "lots" "lots" (defArgs (top 42)) (defBody (top 42)) (defScope (top 42)) [] [] f fd) : FnOk P w K mg base (L2.CX P w) 6 f fd ["market", "parts", "number"] (spOf K (cmOf K) 3 f_lots) := by
  have ND : (["market", "parts", "number", "rest", "result", "at", "covers", "row", "found", "high", "low", "one", "other"] : List Str).Nodup := sc_lots.nd
  refine fn_ok (t := tNext) (n := 10) (l := [true, true, true]) (m := m_lots) Fd sc_lots rfl rfl fun cdv A outer s H E hr => ?_
  exact ⟨_, (sse_cons (se_asg (k_cal K C_set_of (hr.mono (by decide : 4 ≤ 5)) (takes_of rfl rfl rfl rfl) (ce_cons (k_len K Z.f_len (k_fv K 0 Z.fl_runs)) (ce_cons (de_v 1) ce_nil)) (ln_cons (ln_cons ln_nil))) (ge_v 3 ND))
  (sse_cons (se_expr (k_cal K C_check_number (hr.mono (by decide : 3 ≤ 5)) (takes_of rfl rfl rfl rfl) (ce_cons (de_v 2) (ce_cons de_str (ce_cons de_int (ce_cons de_int ce_nil)))) (ln_cons (ln_cons (ln_cons (ln_cons ln_nil))))))
  (sse_cons (se_setLc (i := 4) rfl ND rfl rfl (by rfl) (ie_range1 (by rfl) Z.f_range (de_v 2)) (blk_ok (own := ([("at", 5)] : List (Str × Nat))) (by kernel_rfl)) (fun _ _ _ _ _ => (ge_v 5 ND)) (fun _ _ _ _ _ => ifs_nil) (fun _ _ _ _ _ => (de_cold (oe_ifExp (te_cmp (k_eq K hr.units) od_eq (de_v 5) de_int (by rfl)) (oe_val (de_v 3)) (oe_val (de_tup ae_nil))))))
  (sse_cons (se_setLcN (i := 6) (j := 4) rfl ND rfl rfl (by rfl) rfl (by first | exact Or.inl rfl | exact Or.inr (Or.inl rfl) | exact Or.inr (Or.inr rfl)) (blk_ok (own := ([("row", 7)] : List (Str × Nat))) (by kernel_rfl)) (fun _ _ _ _ _ => (ge_v 7 ND)) (fun _ _ _ _ _ => ifs_nil) (fun _ _ _ _ _ => (de_cold (k_cal K C_cover (hr.mono (by decide : 5 ≤ 5)) takes_WF (ce_cons (de_v 0) (ce_cons (de_v 7) ce_nil)) (ln_cons (ln_cons ln_nil))))))
  (sse_cons (se_asg (k_cal K C__far (hr.mono (by decide : 1 ≤ 5)) (takes_of rfl rfl rfl rfl) (ce_v 6 (ce_cons (k_fv K 0 Z.fl_size) ce_nil)) (ln_io (ln_cons ln_nil))) (ge_v 8 ND))
  (sse_cons (se_while 100000 (passes_of rfl) (te_cmp op_notN od_notN (de_v 8) de_non (by rfl)) (sse_cons (se_asg (oe_val (de_v 8)) (k_tup K rfl (ges_cons (ge_v 9 ND) (ges_cons (ge_v 10 ND) ges_nil))))
  (sse_cons (se_asg (k_cal K C__halves (hr.mono (by decide : 2 ≤ 5)) (takes_of rfl rfl rfl rfl) (ce_cons (de_v 0) (ce_cons (de_cold (k_cal K C_both (hr.mono (by decide : 1 ≤ 5)) (takes_of rfl rfl rfl rfl) (ce_cons (k_ixv K 4 (de_v 9)) (ce_cons (k_ixv K 4 (de_v 10)) ce_nil)) (ln_cons (ln_cons ln_nil)))) ce_nil)) (ln_cons (ln_cons ln_nil))) (k_tup K rfl (ges_cons (ge_v 11 ND) (ges_cons (ge_v 12 ND) ges_nil))))
  (sse_cons (se_asg (oe_val (de_tup (ae_cons (de_v 11) (ae_cons (de_v 12) ae_nil)))) (k_tup K rfl (ges_cons (ge_stN (i := 4) rfl (by first | exact Or.inl rfl | exact Or.inr (Or.inl rfl) | exact Or.inr (Or.inr rfl)) (de_v 9)) (ges_cons (ge_stN (i := 4) rfl (by first | exact Or.inl rfl | exact Or.inr (Or.inl rfl) | exact Or.inr (Or.inr rfl)) (de_v 10)) ges_nil))))
  (sse_cons (se_asg (k_cal K C_cover (hr.mono (by decide : 5 ≤ 5)) (takes_of rfl rfl rfl rfl) (ce_cons (de_v 0) (ce_cons (de_v 11) ce_nil)) (ln_cons (ln_cons ln_nil))) (ge_stN (i := 6) rfl (by first | exact Or.inl rfl | exact Or.inr (Or.inl rfl) | exact Or.inr (Or.inr rfl)) (de_v 9)))
  (sse_cons (se_asg (k_cal K C_cover (hr.mono (by decide : 5 ≤ 5)) (takes_of rfl rfl rfl rfl) (ce_cons (de_v 0) (ce_cons (de_v 12) ce_nil)) (ln_cons (ln_cons ln_nil))) (ge_stN (i := 6) rfl (by first | exact Or.inl rfl | exact Or.inr (Or.inl rfl) | exact Or.inr (Or.inr rfl)) (de_v 10)))
  (sse_one (se_asg (k_cal K C__far (hr.mono (by decide : 1 ≤ 5)) (takes_of rfl rfl rfl rfl) (ce_v 6 (ce_cons (k_fv K 0 Z.fl_size) ce_nil)) (ln_io (ln_cons ln_nil))) (ge_v 8 ND)))))))))
  (sse_one (se_ret (oe_v 4)))))))))⟩
/-! _law_draws -/
theorem sc__law_draws : FnScope ["_law_script", "_law_draws_here", "_law_at", "_law_cell", "_law_k", "_law_number"] ["_law_script"] (defScope (top 44)) := ⟨rfl, rfl, rfl, by decide +kernel, rfl, by decide +kernel, by decide +kernel⟩
theorem ok__law_draws {f : Addr} {fd : FuncData} (Z : Zf P w K mg) (Fd : FunD K "_law_draws" "_law_draws" (defArgs (top 44)) (defBody (top 44)) (defScope (top 44)) [] [] f fd) : FnOk P w K mg base (L2.CX P w) 1 f fd ["_law_script"] (spOf K (cmOf K) 1 f__law_draws) := by
  have ND : (["_law_script", "_law_draws_here", "_law_at", "_law_cell", "_law_k", "_law_number"] : List Str).Nodup := sc__law_draws.nd
  refine fn_ok (t := tNext) (n := 5) (l := [true]) (m := m__law_draws) Fd sc__law_draws rfl rfl fun cdv A outer s H E hr => ?_
  exact ⟨_, (sse_cons (se_asg (oe_lst ae_nil) (ge_v 1 ND))
  (sse_cons (se_for (passes_of rfl) rfl (ie_range1 (by rfl) Z.f_range (de_cold (oe_b2 (call_min2 rfl) cd_min2 (by rfl) Z.f_min (by decide +kernel) (k_lenv K 0 Z.f_len) de_int))) (ge_v 2 ND) (sse_cons (se_asg (oe_t1 call_int1 cd_int (by rfl) Z.f_int (by decide +kernel) (k_ixv K 0 (de_v 2))) (ge_v 3 ND))
  (sse_cons (se_if (te_cmp op_lt od_lt (de_v 3) de_int (by rfl)) (sse_one (se_asg (oe_op op_sub od_sub de_int (de_v 3)) (ge_v 3 ND))) sse_nil)
  (sse_one (se_if (te_cmp op_ge od_ge (de_v 3) (de_cold (oe_op op_pow od_pow de_int de_int)) (by rfl)) (sse_one (se_for (passes_of rfl) rfl (ie_range1 (by rfl) Z.f_range de_int) (ge_v 4 ND) (sse_one (se_if (te_cmp op_gt od_gt (de_v 3) de_int (by rfl)) (sse_cons (se_expr (oe_appN (i := 1) rfl (by first | exact Or.inl rfl | exact Or.inr (Or.inl rfl) | exact Or.inr (Or.inr rfl)) (de_cold (oe_op op_mod od_mod (de_cold (oe_t1 call_int1 cd_int (by rfl) Z.f_int (by decide +kernel) (de_v 3))) de_int))))
  (sse_one (se_asg (oe_op op_fdiv od_div (de_v 3) de_int) (ge_v 3 ND)))) sse_nil)))) (sse_cons (se_asg (oe_op op_mod od_mod (de_cold (oe_t1 call_int1 cd_int (by rfl) Z.f_int (by decide +kernel) (de_cold (oe_op op_addX od_add (de_cold (oe_op op_addX od_add (de_cold (oe_op op_mul od_mul (de_v 3) de_int)) (de_cold (oe_op op_mul od_mul (de_v 2) de_int)))) de_int)))) de_int) (ge_v 5 ND))
  (sse_one (se_for (passes_of rfl) rfl (ie_range1 (by rfl) Z.f_range de_int) (ge_v 4 ND) (sse_cons (se_asg (oe_op op_mod od_mod (de_cold (oe_t1 call_int1 cd_int (by rfl) Z.f_int (by decide +kernel) (de_cold (oe_op op_addX od_add (de_cold (oe_op op_addX od_add (de_cold (oe_op op_addX od_add (de_cold (oe_op op_mul od_mul (de_v 5) (de_v 5))) (de_cold (oe_op op_mul od_mul (de_v 4) de_int)))) (de_v 2))) de_int)))) de_int) (ge_v 5 ND))
  (sse_one (se_expr (oe_appN (i := 1) rfl (by first | exact Or.inl rfl | exact Or.inr (Or.inl rfl) | exact Or.inr (Or.inr rfl)) (de_v 5)))))))))))))
  (sse_cons (se_expr (oe_revN (i := 1) rfl (by first | exact Or.inl rfl | exact Or.inr (Or.inl rfl) | exact Or.inr (Or.inr rfl))))
  (sse_one (se_ret (oe_v 1))))))⟩
/-! _law_take -/
theorem sc__law_take : FnScope ["_law_draws_here", "_law_many"] ["_law_draws_here", "_law_many"] (defScope (top 45)) := ⟨rfl, rfl, rfl, by decide +kernel, rfl, by decide +kernel, by decide +kernel⟩
theorem ok__law_take {f : Addr} {fd : FuncData} (Z : Zf P w K mg) (Fd : FunD K "_law_take" "_law_take" (defArgs (top 45)) (defBody (top 45)) (defScope (top 45)) [] [] f fd) : FnOk P w K mg base (L2.CX P w) 1 f fd ["_law_draws_here", "_law_many"] (spOf K (cmOf K) 2 f__law_take) := by
  have ND : (["_law_draws_here", "_law_many"] : List Str).Nodup := sc__law_take.nd
  refine fn_ok (t := tNext) (n := 0) (l := [true, true]) (m := m__law_take) Fd sc__law_take rfl rfl fun cdv A outer s H E hr => ?_
  exact ⟨_, (sse_cons (se_if (te_cmp (k_eq K hr.units) od_eq (k_lenv K 0 Z.f_len) de_int (by rfl)) (sse_one (se_ret (oe_val de_int))) sse_nil)
  (sse_one (se_ret (oe_op op_mod od_mod (de_cold (oe_t1 call_int1 cd_int (by rfl) Z.f_int (by decide +kernel) (de_cold (oe_popN (i := 0) rfl (by first | exact Or.inl rfl | exact Or.inr (Or.inl rfl) | exact Or.inr (Or.inr rfl)))))) (de_v 1)))))⟩
/-! _law_int -/
theorem sc__law_int : FnScope ["_law_value"] ["_law_value"] (defScope (top 46)) := ⟨rfl, rfl, rfl, by decide +kernel, rfl, by decide +kernel, by decide +kernel⟩
theorem ok__law_int {f : Addr} {fd : FuncData} (Z : Zf P w K mg) (Fd : FunD K "_law_int" "_law_int" (defArgs (top 46)) (defBody (top 46)) (defScope (top 46)) [] [] f fd) : FnOk P w K mg base (L2.CX P w) 1 f fd ["_law_value"] (spOf K (cmOf K) 1 f__law_int) := by
  have ND : (["_law_value"] : List Str).Nodup := sc__law_int.nd
  refine fn_ok (t := tNext) (n := 0) (l := [true]) (m := m__law_int) Fd sc__law_int rfl rfl fun cdv A outer s H E hr => ?_
  exact ⟨_, (sse_one (se_ret (oe_val (de_and (de_cold (k_isT K isT_int Z.f_isinstance Z.f_int (by decide +kernel) (de_v 0))) (de_one (oe_val (de_not (de_cold (k_isT K isT_bool Z.f_isinstance Z.f_bool (by decide +kernel) (de_v 0))))))))))⟩
/-! _law_set -/
theorem sc__law_set : FnScope ["_law_value", "_law_many", "_law_last", "_law_part"] ["_law_value", "_law_many"] (defScope (top 47)) := ⟨rfl, rfl, rfl, by decide +kernel, rfl, by decide +kernel, by decide +kernel⟩
theorem ok__law_set {f : Addr} {fd : FuncData} (Z : Zf P w K mg) (C__law_int : Cal P w K mg base (cmOf K) "_law_int" 1 1 f__law_int) (Fd : FunD K "_law_set" "_law_set" (defArgs (top 47)) (defBody (top 47)) (defScope (top 47)) [] [] f fd) : FnOk P w K mg base (L2.CX P w) 2 f fd ["_law_value", "_law_many"] (spOf K (cmOf K) 2 f__law_set) := by
  have ND : (["_law_value", "_law_many", "_law_last", "_law_part"] : List Str).Nodup := sc__law_set.nd
  refine fn_ok (t := tNext) (n := 2) (l := [true, true]) (m := m__law_set) Fd sc__law_set rfl rfl fun cdv A outer s H E hr => ?_
  exact ⟨_, (sse_cons (se_if (te_not (te_val (k_isT K isT_tuple Z.f_isinstance Z.f_tuple (by decide +kernel) (de_v 0)))) (sse_one (se_ret (oe_val de_bl))) sse_nil)
  (sse_cons (se_asg (oe_val (de_un un_neg ud_neg de_int)) (ge_v 2 ND))
  (sse_cons (se_for (passes_of rfl) rfl (k_seq K (de_v 0)) (ge_v 3 ND) (sse_cons (se_if (te_w (we_or (te_not (te_val (k_cal K C__law_int (hr.mono (by decide : 1 ≤ 1)) (takes_of rfl rfl rfl rfl) (ce_cons (de_v 3) ce_nil) (ln_cons ln_nil)))) (we_or (te_cmp op_le od_le (de_v 3) (de_v 2) (by rfl)) (we_or1 (te_cmp op_ge od_ge (de_v 3) (de_v 1) (by rfl)))))) (sse_one (se_ret (oe_val de_bl))) sse_nil)
  (sse_one (se_asg (oe_val (de_v 3)) (ge_v 2 ND)))))
  (sse_one (se_ret (oe_val de_bl))))))⟩
/-! _law_chains -/
theorem sc__law_chains : FnScope ["_law_draws_here", "_law_size", "_law_runs", "_law_copy", "_law_start", "_law_k", "_law_stop"] ["_law_draws_here", "_law_size"] (defScope (top 48)) := ⟨rfl, rfl, rfl, by decide +kernel, rfl, by decide +kernel, by decide +kernel⟩
theorem ok__law_chains {f : Addr} {fd : FuncData} (Z : Zf P w K mg) (C__law_take : Cal P w K mg base (cmOf K) "_law_take" 1 2 f__law_take) (Fd : FunD K "_law_chains" "_law_chains" (defArgs (top 48)) (defBody (top 48)) (defScope (top 48)) [] [] f fd) : FnOk P w K mg base (L2.CX P w) 2 f fd ["_law_draws_here", "_law_size"] (spOf K (cmOf K) 2 f__law_chains) := by
  have ND : (["_law_draws_here", "_law_size", "_law_runs", "_law_copy", "_law_start", "_law_k", "_law_stop"] : List Str).Nodup := sc__law_chains.nd
  refine fn_ok (t := tNext) (n := 5) (l := [true, true]) (m := m__law_chains) Fd sc__law_chains rfl rfl fun cdv A outer s H E hr => ?_
  exact ⟨_, (sse_cons (se_asg (oe_lst ae_nil) (ge_v 2 ND))
  (sse_cons (se_for (passes_of rfl) rfl (ie_range1 (by rfl) Z.f_range (de_cold (oe_op op_addX od_add de_int (de_cold (k_cal K C__law_take (hr.mono (by decide : 1 ≤ 1)) (takes_of rfl rfl rfl rfl) (ce_v 0 (ce_cons de_int ce_nil)) (ln_io (ln_cons ln_nil))))))) (ge_v 3 ND) (sse_cons (se_asg (oe_val de_int) (ge_v 4 ND))
  (sse_one (se_for (passes_of rfl) rfl (ie_range1 (by rfl) Z.f_range (de_v 1)) (ge_v 5 ND) (sse_one (se_if (te_cmp op_lt od_lt (de_v 4) (de_v 1) (by rfl)) (sse_cons (se_asg (oe_b2 (call_min2 rfl) cd_min2 (by rfl) Z.f_min (by decide +kernel) (de_v 1) (de_cold (oe_op op_addX od_add (de_cold (oe_op op_addX od_add (de_v 4) de_int)) (de_cold (k_cal K C__law_take (hr.mono (by decide : 1 ≤ 1)) (takes_of rfl rfl rfl rfl) (ce_v 0 (ce_cons (de_v 1) ce_nil)) (ln_io (ln_cons ln_nil))))))) (ge_v 6 ND))
  (sse_cons (se_expr (oe_appN (i := 2) rfl (by first | exact Or.inl rfl | exact Or.inr (Or.inl rfl) | exact Or.inr (Or.inr rfl)) (de_tup (ae_cons (de_v 4) (ae_cons (de_v 6) ae_nil)))))
  (sse_one (se_asg (oe_val (de_v 6)) (ge_v 4 ND))))) sse_nil))))))
  (sse_cons (se_for (passes_of rfl) rfl (ie_range1 (by rfl) Z.f_range (de_cold (k_cal K C__law_take (hr.mono (by decide : 1 ≤ 1)) (takes_of rfl rfl rfl rfl) (ce_v 0 (ce_cons de_int ce_nil)) (ln_io (ln_cons ln_nil))))) (ge_v 5 ND) (sse_cons (se_asg (k_cal K C__law_take (hr.mono (by decide : 1 ≤ 1)) (takes_of rfl rfl rfl rfl) (ce_v 0 (ce_cons (de_v 1) ce_nil)) (ln_io (ln_cons ln_nil))) (ge_v 4 ND))
  (sse_one (se_expr (oe_appN (i := 2) rfl (by first | exact Or.inl rfl | exact Or.inr (Or.inl rfl) | exact Or.inr (Or.inr rfl)) (de_tup (ae_cons (de_v 4) (ae_cons (de_cold (oe_op op_addX od_add (de_cold (oe_op op_addX od_add (de_v 4) de_int)) (de_cold (k_cal K C__law_take (hr.mono (by decide : 1 ≤ 1)) (takes_of rfl rfl rfl rfl) (ce_v 0 (ce_cons (de_cold (oe_op op_sub od_sub (de_v 1) (de_v 4))) ce_nil)) (ln_io (ln_cons ln_nil)))))) ae_nil))))))))
  (sse_one (se_ret (oe_v 2))))))⟩
/-! _law_special -/
theorem sc__law_special : FnScope ["_law_draws_here", "_law_word", "_law_size", "_law_menu", "_law_runs", "_law_run"] ["_law_draws_here"] (defScope (top 49)) := ⟨rfl, rfl, rfl, by decide +kernel, rfl, by decide +kernel, by decide +kernel⟩
theorem ok__law_special {f : Addr} {fd : FuncData} (Z : Zf P w K mg) (C__law_take : Cal P w K mg base (cmOf K) "_law_take" 1 2 f__law_take) (Fd : FunD K "_law_special" "_law_special" (defArgs (top 49)) (defBody (top 49)) (defScope (top 49)) [] [] f fd) : FnOk P w K mg base (L2.CX P w) 2 f fd ["_law_draws_here"] (spOf K (cmOf K) 1 f__law_special_v2) := by
  have ND : (["_law_draws_here", "_law_word", "_law_size", "_law_menu", "_law_runs", "_law_run"] : List Str).Nodup := sc__law_special.nd
  refine fn_ok (t := tNext) (n := 5) (l := [true]) (m := m__law_special_v2) Fd sc__law_special rfl rfl fun cdv A outer s H E hr => ?_
  exact ⟨_, (sse_cons (se_asg (k_cal K C__law_take (hr.mono (by decide : 1 ≤ 1)) (takes_of rfl rfl rfl rfl) (ce_v 0 (ce_cons de_int ce_nil)) (ln_io (ln_cons ln_nil))) (ge_v 1 ND))
  (sse_cons (se_if (te_cmp (k_eq K hr.units) od_eq (de_v 1) de_int (by rfl)) (sse_cons (se_asg (oe_val de_int) (ge_v 2 ND))
  (sse_one (se_asg (oe_lst (ae_cons (de_tup (ae_cons de_int (ae_cons de_int ae_nil))) (ae_cons (de_tup (ae_cons de_int (ae_cons de_int ae_nil))) (ae_cons (de_tup (ae_cons de_int (ae_cons de_int ae_nil))) (ae_cons (de_tup (ae_cons de_int (ae_cons de_int ae_nil))) (ae_cons (de_tup (ae_cons de_int (ae_cons de_int ae_nil))) (ae_cons (de_tup (ae_cons de_int (ae_cons de_int ae_nil))) (ae_cons (de_tup (ae_cons de_int (ae_cons de_int ae_nil))) ae_nil)))))))) (ge_v 3 ND)))) (sse_one (se_if (te_cmp (k_eq K hr.units) od_eq (de_v 1) de_int (by rfl)) (sse_cons (se_asg (oe_val de_int) (ge_v 2 ND))
  (sse_one (se_asg (oe_lst (ae_cons (de_tup (ae_cons de_int (ae_cons de_int ae_nil))) (ae_cons (de_tup (ae_cons de_int (ae_cons de_int ae_nil))) (ae_cons (de_tup (ae_cons de_int (ae_cons de_int ae_nil))) (ae_cons (de_tup (ae_cons de_int (ae_cons de_int ae_nil))) (ae_cons (de_tup (ae_cons de_int (ae_cons de_int ae_nil))) (ae_cons (de_tup (ae_cons de_int (ae_cons de_int ae_nil))) (ae_cons (de_tup (ae_cons de_int (ae_cons de_int ae_nil))) (ae_cons (de_tup (ae_cons de_int (ae_cons de_int ae_nil))) (ae_cons (de_tup (ae_cons de_int (ae_cons de_int ae_nil))) ae_nil)))))))))) (ge_v 3 ND)))) (sse_cons (se_asg (oe_val de_int) (ge_v 2 ND))
  (sse_one (se_asg (oe_lst (ae_cons (de_tup (ae_cons de_int (ae_cons de_int ae_nil))) (ae_cons (de_tup (ae_cons de_int (ae_cons de_int ae_nil))) (ae_cons (de_tup (ae_cons de_int (ae_cons de_int ae_nil))) (ae_cons (de_tup (ae_cons de_int (ae_cons de_int ae_nil))) (ae_cons (de_tup (ae_cons de_int (ae_cons de_int ae_nil))) (ae_cons (de_tup (ae_cons de_int (ae_cons de_int ae_nil))) (ae_cons (de_tup (ae_cons de_int (ae_cons de_int ae_nil))) (ae_cons (de_tup (ae_cons de_int (ae_cons de_int ae_nil))) (ae_cons (de_tup (ae_cons de_int (ae_cons de_int ae_nil))) ae_nil)))))))))) (ge_v 3 ND)))))))
  (sse_cons (se_setLc (i := 4) rfl ND rfl rfl (by rfl) (k_seq K (de_v 3)) (blk_ok (own := ([("_law_run", 5)] : List (Str × Nat))) (by kernel_rfl)) (fun _ _ _ _ _ => (ge_v 5 ND)) (fun _ _ _ _ _ => (ifs_one (te_cmp op_lt od_lt (de_cold (k_cal K C__law_take (hr.mono (by decide : 1 ≤ 1)) takes_WF (ce_v 0 (ce_cons de_int ce_nil)) (ln_io (ln_cons ln_nil)))) de_int (by rfl)))) (fun _ _ _ _ _ => (de_v 5)))
  (sse_one (se_ret (oe_lst (ae_cons (de_v 2) (ae_cons (de_v 4) ae_nil))))))))⟩
/-! _law_market -/
theorem sc__law_market : FnScope ["_law_draws_here", "_law_most", "_law_word", "_law_drawn", "_law_size", "_law_runs", "_law_turn", "_law_absent"] ["_law_draws_here", "_law_most"] (defScope (top 50)) := ⟨rfl, rfl, rfl, by decide +kernel, rfl, by decide +kernel, by decide +kernel⟩
theorem ok__law_market {f : Addr} {fd : FuncData} (Z : Zf P w K mg) (C__law_take : Cal P w K mg base (cmOf K) "_law_take" 1 2 f__law_take) (C__law_special : Cal P w K mg base (cmOf K) "_law_special" 2 1 f__law_special_v2) (C__law_chains : Cal P w K mg base (cmOf K) "_law_chains" 2 2 f__law_chains) (Fd : FunD K "_law_market" "_law_market" (defArgs (top 50)) (defBody (top 50)) (defScope (top 50)) [] [] f fd) : FnOk P w K mg base (L2.CX P w) 3 f fd ["_law_draws_here", "_law_most"] (spOf K (cmOf K) 2 f__law_market_v2) := by
  have ND : (["_law_draws_here", "_law_most", "_law_word", "_law_drawn", "_law_size", "_law_runs", "_law_turn", "_law_absent"] : List Str).Nodup := sc__law_market.nd
  refine fn_ok (t := tNext) (n := 6) (l := [true, true]) (m := m__law_market_v2) Fd sc__law_market rfl rfl fun cdv A outer s H E hr => ?_
  exact ⟨_, (sse_cons (se_asg (k_cal K C__law_take (hr.mono (by decide : 1 ≤ 2)) (takes_of rfl rfl rfl rfl) (ce_v 0 (ce_cons de_int ce_nil)) (ln_io (ln_cons ln_nil))) (ge_v 2 ND))
  (sse_cons (se_if (te_cmp op_ge od_ge (de_v 2) de_int (by rfl)) (sse_cons (se_asg (k_cal K C__law_special (hr.mono (by decide : 2 ≤ 2)) (takes_of rfl rfl rfl rfl) (ce_v 0 ce_nil) (ln_io ln_nil)) (ge_v 3 ND))
  (sse_cons (se_asg (oe_val (k_ixv K 3 de_int)) (ge_v 4 ND))
  (sse_one (se_asg (oe_val (k_ixv K 3 de_int)) (ge_v 5 ND))))) (sse_cons (se_asg (oe_val (k_ix K (de_cold (oe_lst (ae_cons de_int (ae_cons de_int (ae_cons de_int (ae_cons de_int (ae_cons de_int (ae_cons de_int (ae_cons de_int (ae_cons de_int (ae_cons de_int (ae_cons de_int ae_nil)))))))))))) (de_cold (k_cal K C__law_take (hr.mono (by decide : 1 ≤ 2)) (takes_of rfl rfl rfl rfl) (ce_v 0 (ce_cons de_int ce_nil)) (ln_io (ln_cons ln_nil)))))) (ge_v 4 ND))
  (sse_cons (se_if (te_cmp (k_eq K hr.units) od_eq (de_cold (k_cal K C__law_take (hr.mono (by decide : 1 ≤ 2)) (takes_of rfl rfl rfl rfl) (ce_v 0 (ce_cons de_int ce_nil)) (ln_io (ln_cons ln_nil)))) de_int (by rfl)) (sse_one (se_asg (oe_val de_int) (ge_v 4 ND))) sse_nil)
  (sse_one (se_asg (k_cal K C__law_chains (hr.mono (by decide : 2 ≤ 2)) (takes_of rfl rfl rfl rfl) (ce_v 0 (ce_cons (de_v 4) ce_nil)) (ln_io (ln_cons ln_nil))) (ge_v 5 ND))))))
  (sse_cons (se_asg (k_cal K C__law_take (hr.mono (by decide : 1 ≤ 2)) (takes_of rfl rfl rfl rfl) (ce_v 0 (ce_cons de_int ce_nil)) (ln_io (ln_cons ln_nil))) (ge_v 6 ND))
  (sse_cons (se_if (te_cmp op_lt od_lt (de_v 6) (k_lenv K 5 Z.f_len) (by rfl)) (sse_one (se_asg (oe_op op_addX od_add (de_cold (k_sl K (de_v 5) (op_some (de_v 6)) op_none)) (de_cold (k_sl K (de_v 5) op_none (op_some (de_v 6))))) (ge_v 5 ND))) sse_nil)
  (sse_cons (se_asg (k_sl K (de_v 5) op_none (op_some (de_v 1))) (ge_v 5 ND))
  (sse_cons (se_asg (oe_lst ae_nil) (ge_v 7 ND))
  (sse_cons (se_if (te_w (we_and (te_cmp (k_eq K hr.units) od_eq (de_cold (k_cal K C__law_take (hr.mono (by decide : 1 ≤ 2)) (takes_of rfl rfl rfl rfl) (ce_v 0 (ce_cons de_int ce_nil)) (ln_io (ln_cons ln_nil)))) de_int (by rfl)) (we_and1 (te_cmp op_gt od_gt (k_lenv K 5 Z.f_len) de_int (by rfl))))) (sse_one (se_asg (oe_lst (ae_cons (de_cold (k_cal K C__law_take (hr.mono (by decide : 1 ≤ 2)) (takes_of rfl rfl rfl rfl) (ce_v 0 (ce_cons (k_lenv K 5 Z.f_len) ce_nil)) (ln_io (ln_cons ln_nil)))) ae_nil)) (ge_v 7 ND))) sse_nil)
  (sse_one (se_ret (oe_lst (ae_cons (de_v 4) (ae_cons (de_v 5) (ae_cons (de_v 7) ae_nil)))))))))))))⟩
/-! _law_built -/
theorem sc__law_built : FnScope ["_law_kind_here", "_law_size", "_law_runs", "_law_absent"] ["_law_kind_here", "_law_size", "_law_runs", "_law_absent"] (defScope (top 51)) := ⟨rfl, rfl, rfl, by decide +kernel, rfl, by decide +kernel, by decide +kernel⟩
theorem ok__law_built {f : Addr} {fd : FuncData} (Z : Zf P w K mg) (M_Join : Mak P w K mg base (cmOf K) "Join" 6 2 ["gone"] f_Join___init__) (M_Lap : Mak P w K mg base (cmOf K) "Lap" 6 2 ["gone"] f_Lap___init__) (Fd : FunD K "_law_built" "_law_built" (defArgs (top 51)) (defBody (top 51)) (defScope (top 51)) [] [] f fd) : FnOk P w K mg base (L2.CX P w) 8 f fd ["_law_kind_here", "_law_size", "_law_runs", "_law_absent"] (spOf K (cmOf K) 4 f__law_built) := by
  have ND : (["_law_kind_here", "_law_size", "_law_runs", "_law_absent"] : List Str).Nodup := sc__law_built.nd
  refine fn_ok (t := tNext) (n := 0) (l := [true, true, true, true]) (m := m__law_built) Fd sc__law_built rfl rfl fun cdv A outer s H E hr => ?_
  exact ⟨_, (sse_cons (se_if (te_cmp (k_eq K hr.units) od_eq (de_v 0) de_str (by rfl)) (sse_one (se_ret (oe_mak M_Join (hr.mono (by decide : 7 ≤ 7)) (by rfl) (takes_of rfl rfl rfl rfl) (ae_cons (de_v 1) (ae_cons (de_v 2) ae_nil)) (ke_cons (de_v 3) ke_nil)))) sse_nil)
  (sse_one (se_ret (oe_mak M_Lap (hr.mono (by decide : 7 ≤ 7)) (by rfl) (takes_of rfl rfl rfl rfl) (ae_cons (de_v 1) (ae_cons (de_v 2) ae_nil)) (ke_cons (de_v 3) ke_nil)))))⟩
/-! _law_kind -/
theorem sc__law_kind : FnScope ["_law_draws_here"] ["_law_draws_here"] (defScope (top 52)) := ⟨rfl, rfl, rfl, by decide +kernel, rfl, by decide +kernel, by decide +kernel⟩
theorem ok__law_kind {f : Addr} {fd : FuncData} (Z : Zf P w K mg) (C__law_take : Cal P w K mg base (cmOf K) "_law_take" 1 2 f__law_take) (Fd : FunD K "_law_kind" "_law_kind" (defArgs (top 52)) (defBody (top 52)) (defScope (top 52)) [] [] f fd) : FnOk P w K mg base (L2.CX P w) 2 f fd ["_law_draws_here"] (spOf K (cmOf K) 1 f__law_kind) := by
  have ND : (["_law_draws_here"] : List Str).Nodup := sc__law_kind.nd
  refine fn_ok (t := tNext) (n := 0) (l := [true]) (m := m__law_kind) Fd sc__law_kind rfl rfl fun cdv A outer s H E hr => ?_
  exact ⟨_, (sse_cons (se_if (te_cmp (k_eq K hr.units) od_eq (de_cold (k_cal K C__law_take (hr.mono (by decide : 1 ≤ 1)) (takes_of rfl rfl rfl rfl) (ce_v 0 (ce_cons de_int ce_nil)) (ln_io (ln_cons ln_nil)))) de_int (by rfl)) (sse_one (se_ret (oe_val de_str))) sse_nil)
  (sse_one (se_ret (oe_val de_str))))⟩
/-! _law_parts -/
theorem sc__law_parts : FnScope ["_law_draws_here", "_law_many", "_law_part"] ["_law_draws_here", "_law_many"] (defScope (top 53)) := ⟨rfl, rfl, rfl, by decide +kernel, rfl, by decide +kernel, by decide +kernel⟩
theorem ok__law_parts {f : Addr} {fd : FuncData} (Z : Zf P w K mg) (C__law_take : Cal P w K mg base (cmOf K) "_law_take" 1 2 f__law_take) (Fd : FunD K "_law_parts" "_law_parts" (defArgs (top 53)) (defBody (top 53)) (defScope (top 53)) [] [] f fd) : FnOk P w K mg base (L2.CX P w) 2 f fd ["_law_draws_here", "_law_many"] (spOf K (cmOf K) 2 f__law_parts) := by
  have ND : (["_law_draws_here", "_law_many", "_law_part"] : List Str).Nodup := sc__law_parts.nd
  refine fn_ok (t := tNext) (n := 1) (l := [true, true]) (m := m__law_parts) Fd sc__law_parts rfl rfl fun cdv A outer s H E hr => ?_
  exact ⟨_, (sse_one (se_ret (oe_lc rfl ND (ie_range1 (by rfl) Z.f_range (de_v 1)) (blk_ok (own := ([("_law_part", 2)] : List (Str × Nat))) (by kernel_rfl)) (fun _ _ _ _ _ => (ge_v 2 ND)) (fun _ _ _ _ _ => (ifs_one (te_cmp (k_eq K hr.units) od_eq (de_cold (k_cal K C__law_take (hr.mono (by decide : 1 ≤ 1)) takes_WF (ce_v 0 (ce_cons de_int ce_nil)) (ln_io (ln_cons ln_nil)))) de_int (by rfl)))) (fun _ _ _ _ _ => (de_v 2)))))⟩
/-! _law_cover -/
theorem sc__law_cover : FnScope ["_law_size", "_law_runs", "_law_parts_here", "_law_covers", "_law_place", "_law_part"] ["_law_size", "_law_runs", "_law_parts_here"] (defScope (top 54)) := ⟨rfl, rfl, rfl, by decide +kernel, rfl, by decide +kernel, by decide +kernel⟩
theorem ok__law_cover {f : Addr} {fd : FuncData} (Z : Zf P w K mg) (Fd : FunD K "_law_cover" "_law_cover" (defArgs (top 54)) (defBody (top 54)) (defScope (top 54)) [] [] f fd) : FnOk P w K mg base (L2.CX P w) 1 f fd ["_law_size", "_law_runs", "_law_parts_here"] (spOf K (cmOf K) 3 f__law_cover) := by
  have ND : (["_law_size", "_law_runs", "_law_parts_here", "_law_covers", "_law_place", "_law_part"] : List Str).Nodup := sc__law_cover.nd
  refine fn_ok (t := tNext) (n := 3) (l := [true, true, true]) (m := m__law_cover) Fd sc__law_cover rfl rfl fun cdv A outer s H E hr => ?_
  exact ⟨_, (sse_cons (se_setLc (i := 3) rfl ND rfl rfl (by rfl) (ie_range1 (by rfl) Z.f_range (de_v 0)) (blk_ok (own := ([("_law_place", 4)] : List (Str × Nat))) (by kernel_rfl)) (fun _ _ _ _ _ => (ge_v 4 ND)) (fun _ _ _ _ _ => ifs_nil) (fun _ _ _ _ _ => de_int))
  (sse_cons (se_for (passes_of rfl) rfl (k_seq K (de_v 2)) (ge_v 5 ND) (sse_one (se_for (passes_of rfl) rfl (ie_range2 (by rfl) Z.f_range (k_ix K (k_ixv K 1 (de_v 5)) de_int) (k_ix K (k_ixv K 1 (de_v 5)) de_int)) (ge_v 4 ND) (sse_one (se_augN (i := 3) rfl (by first | exact Or.inl rfl | exact Or.inr (Or.inl rfl) | exact Or.inr (Or.inr rfl)) (de_v 4) de_int ip_add id_add)))))
  (sse_one (se_ret (oe_v 3)))))⟩
/-! _law_parted -/
theorem sc__law_parted : FnScope ["_law_told", "_law_parts_here", "_law_many", "_law_seen", "_law_lot", "_law_part"] ["_law_told", "_law_parts_here", "_law_many"] (defScope (top 55)) := ⟨rfl, rfl, rfl, by decide +kernel, rfl, by decide +kernel, by decide +kernel⟩
theorem ok__law_parted {f : Addr} {fd : FuncData} (Z : Zf P w K mg) (C__law_set : Cal P w K mg base (cmOf K) "_law_set" 2 2 f__law_set) (Fd : FunD K "_law_parted" "_law_parted" (defArgs (top 55)) (defBody (top 55)) (defScope (top 55)) [] [] f fd) : FnOk P w K mg base (L2.CX P w) 3 f fd ["_law_told", "_law_parts_here", "_law_many"] (spOf K (cmOf K) 3 f__law_parted) := by
  have ND : (["_law_told", "_law_parts_here", "_law_many", "_law_seen", "_law_lot", "_law_part"] : List Str).Nodup := sc__law_parted.nd
  refine fn_ok (t := tNext) (n := 3) (l := [true, true, true]) (m := m__law_parted) Fd sc__law_parted rfl rfl fun cdv A outer s H E hr => ?_
  exact ⟨_, (sse_cons (se_asg (oe_lst ae_nil) (ge_v 3 ND))
  (sse_cons (se_forN (j := 0) (passes_of rfl) rfl rfl (by first | exact Or.inl rfl | exact Or.inr (Or.inl rfl) | exact Or.inr (Or.inr rfl)) (ge_v 4 ND) (sse_cons (se_if (te_not (te_val (k_cal K C__law_set (hr.mono (by decide : 2 ≤ 2)) (takes_of rfl rfl rfl rfl) (ce_cons (de_v 4) (ce_cons (de_v 2) ce_nil)) (ln_cons (ln_cons ln_nil))))) (sse_one (se_ret (oe_val de_bl))) sse_nil)
  (sse_one (se_for (passes_of rfl) rfl (k_seq K (de_v 4)) (ge_v 5 ND) (sse_cons (se_if (te_w (we_or (k_tinv K false 3 (k_in K) (de_v 5)) (we_or1 (k_tinv K true 1 (k_nin K) (de_v 5))))) (sse_one (se_ret (oe_val de_bl))) sse_nil)
  (sse_one (se_expr (oe_appN (i := 3) rfl (by first | exact Or.inl rfl | exact Or.inr (Or.inl rfl) | exact Or.inr (Or.inr rfl)) (de_v 5)))))))))
  (sse_one (se_ret (oe_cmp (k_eq K hr.units) od_eq (k_lenv K 3 Z.f_len) (k_lenv K 1 Z.f_len) (by rfl))))))⟩
/-! _law_even -/
theorem sc__law_even : FnScope ["_law_size", "_law_runs", "_law_told", "_law_parts_here", "_law_number", "_law_covers", "_law_rows", "_law_lot", "_law_place", "_law_floor", "_law_more", "_law_row"] ["_law_size", "_law_runs", "_law_told", "_law_parts_here"] (defScope (top 56)) := ⟨rfl, rfl, rfl, by decide +kernel, rfl, by decide +kernel, by decide +kernel⟩
theorem ok__law_even {f : Addr} {fd : FuncData} (Z : Zf P w K mg) (C__law_cover : Cal P w K mg base (cmOf K) "_law_cover" 1 3 f__law_cover) (Fd : FunD K "_law_even" "_law_even" (defArgs (top 56)) (defBody (top 56)) (defScope (top 56)) [] [] f fd) : FnOk P w K mg base (L2.CX P w) 2 f fd ["_law_size", "_law_runs", "_law_told", "_law_parts_here"] (spOf K (cmOf K) 4 f__law_even) := by
  have ND : (["_law_size", "_law_runs", "_law_told", "_law_parts_here", "_law_number", "_law_covers", "_law_rows", "_law_lot", "_law_place", "_law_floor", "_law_more", "_law_row"] : List Str).Nodup := sc__law_even.nd
  refine fn_ok (t := tNext) (n := 8) (l := [true, true, true, true]) (m := m__law_even) Fd sc__law_even rfl rfl fun cdv A outer s H E hr => ?_
  exact ⟨_, (sse_cons (se_asg (oe_val (k_lenv K 2 Z.f_len)) (ge_v 4 ND))
  (sse_cons (se_asg (k_cal K C__law_cover (hr.mono (by decide : 1 ≤ 1)) (takes_of rfl rfl rfl rfl) (ce_cons (de_v 0) (ce_cons (de_v 1) (ce_cons (de_v 3) ce_nil))) (ln_cons (ln_cons (ln_cons ln_nil)))) (ge_v 5 ND))
  (sse_cons (se_setLcN (i := 6) (j := 2) rfl ND rfl rfl (by rfl) rfl (by first | exact Or.inl rfl | exact Or.inr (Or.inl rfl) | exact Or.inr (Or.inr rfl)) (blk_ok (own := ([("_law_lot", 7)] : List (Str × Nat))) (by kernel_rfl)) (fun _ _ _ _ _ => (ge_v 7 ND)) (fun _ _ _ _ _ => ifs_nil) (fun _ _ _ _ _ => (de_cold (k_cal K C__law_cover (hr.mono (by decide : 1 ≤ 1)) takes_WF (ce_cons (de_v 0) (ce_cons (de_v 1) (ce_cons (de_v 7) ce_nil))) (ln_cons (ln_cons (ln_cons ln_nil)))))))
  (sse_cons (se_for (passes_of rfl) rfl (ie_range1 (by rfl) Z.f_range (de_v 0)) (ge_v 8 ND) (sse_cons (se_asg (oe_op op_fdiv od_div (k_ixv K 5 (de_v 8)) (de_v 4)) (ge_v 9 ND))
  (sse_cons (se_asg (oe_val de_int) (ge_v 10 ND))
  (sse_cons (se_for (passes_of rfl) rfl (k_seq K (de_v 6)) (ge_v 11 ND) (sse_cons (se_if (te_w (we_and (te_cmp (k_ne K hr.units) od_ne (k_ixv K 11 (de_v 8)) (de_v 9) (by rfl)) (we_and1 (te_cmp (k_ne K hr.units) od_ne (k_ixv K 11 (de_v 8)) (de_cold (oe_op op_addX od_add (de_v 9) de_int)) (by rfl))))) (sse_one (se_ret (oe_val de_bl))) sse_nil)
  (sse_one (se_aug (i := 10) ND rfl (by first | exact Or.inl rfl | exact Or.inr rfl) (de_cold (oe_op op_sub od_sub (k_ixv K 11 (de_v 8)) (de_v 9))) ip_add id_add))))
  (sse_one (se_if (te_cmp (k_ne K hr.units) od_ne (de_v 10) (de_cold (oe_op op_sub od_sub (k_ixv K 5 (de_v 8)) (de_cold (oe_op op_mul od_mul (de_v 9) (de_v 4))))) (by rfl)) (sse_one (se_ret (oe_val de_bl))) sse_nil))))))
  (sse_one (se_ret (oe_val de_bl)))))))⟩
/-! _law_number_refused -/
theorem sc__law_number_refused : FnScope ["_law_market_here", "_law_parts_here", "_law_number", "_law_told", "error"] ["_law_market_here", "_law_parts_here", "_law_number"] (defScope (top 57)) := ⟨rfl, rfl, rfl, by decide +kernel, rfl, by decide +kernel, by decide +kernel⟩
theorem ok__law_number_refused {f : Addr} {fd : FuncData} (Z : Zf P w K mg) (C_lots : Cal P w K mg base (cmOf K) "lots" 6 3 f_lots) (Fd : FunD K "_law_number_refused" "_law_number_refused" (defArgs (top 57)) (defBody (top 57)) (defScope (top 57)) [] [] f fd) : FnOk P w K mg base (L2.CX P w) 7 f fd ["_law_market_here", "_law_parts_here", "_law_number"] (spOf K (cmOf K) 3 f__law_number_refused) := by
  have ND : (["_law_market_here", "_law_parts_here", "_law_number", "_law_told", "error"] : List Str).Nodup := sc__law_number_refused.nd
  refine fn_ok (t := tNext) (n := 2) (l := [true, true, true]) (m := m__law_number_refused) Fd sc__law_number_refused rfl rfl fun cdv A outer s H E hr => ?_
  exact ⟨_, (sse_cons (se_asg (oe_val de_str) (ge_v 3 ND))
  (sse_cons (se_tryL rfl rfl ND (i := 4) rfl rfl (takes_of rfl rfl rfl rfl) (fun _ _ _ tkT psT => (sse_one (se_expr (k_cal K C_lots (hr.mono (by decide : 6 ≤ 6)) tkT (ce_cons (de_v 0) (ce_cons (de_v 1) (ce_cons (de_v 2) ce_nil))) (ln_cons (ln_cons (ln_cons ln_nil))))))) (HzOk.cons (sub := subOf ["BadNumber", "BadSet"] "BadNumber") ⟨rfl, by decide, .inl Z.g_BadNumber⟩ Z.exl_BadNumber (fun _ _ _ _ _ hz hf => (sse_one (se_asg (oe_op op_addX od_add (de_cold (oe_op op_addX od_add (de_err (C := "BadNumber") (i := 4) Z.xf_BadNumber Z.no_BadNumber_name hz hf rfl (by first | exact Or.inl rfl | exact Or.inr (Or.inl rfl) | exact Or.inr (Or.inr rfl))) (de_cold (oe_t1 call_str_bl cd_strB (by rfl) Z.f_str (by decide +kernel) (de_cold (oe_isErr (C0 := "BadNumber") (C1 := "PartsError") (i := 4) (k := true) Z.ec_BadNumber hz hf (by rfl) Z.f_isinstance rfl Z.g_PartsError Z.kit_BadNumber_PartsError rfl (by first | exact Or.inl rfl | exact Or.inr (Or.inl rfl) | exact Or.inr (Or.inr rfl)))))))) (de_cold (oe_t1 call_str_bl cd_strB (by rfl) Z.f_str (by decide +kernel) (de_cold (oe_isErr (C0 := "BadNumber") (C1 := "BadSet") (i := 4) (k := false) Z.ec_BadNumber hz hf (by rfl) Z.f_isinstance rfl Z.g_BadSet Z.kin_BadNumber_BadSet rfl (by first | exact Or.inl rfl | exact Or.inr (Or.inl rfl) | exact Or.inr (Or.inr rfl))))))) (ge_v 3 ND)))) (HzOk.cons (sub := subOf ["BadNumber", "BadSet"] "BadSet") ⟨rfl, by decide, .inl Z.g_BadSet⟩ Z.exl_BadSet (fun _ _ _ _ _ hz hf => (sse_one (se_asg (oe_op op_addX od_add de_str (de_cold (oe_t1 call_str_int cd_str (by rfl) Z.f_str (by decide +kernel) (de_err (C := "BadSet") (i := 4) Z.xf_BadSet Z.no_BadSet_place hz hf rfl (by first | exact Or.inl rfl | exact Or.inr (Or.inl rfl) | exact Or.inr (Or.inr rfl)))))) (ge_v 3 ND)))) HzOk.nil)))
  (sse_one (se_ret (oe_v 3)))))⟩
/-! _law_halves_refused -/
theorem sc__law_halves_refused : FnScope ["_law_market_here", "_law_parts_here", "_law_told", "error"] ["_law_market_here", "_law_parts_here"] (defScope (top 58)) := ⟨rfl, rfl, rfl, by decide +kernel, rfl, by decide +kernel, by decide +kernel⟩
theorem ok__law_halves_refused {f : Addr} {fd : FuncData} (Z : Zf P w K mg) (C_halves : Cal P w K mg base (cmOf K) "halves" 5 2 f_halves) (Fd : FunD K "_law_halves_refused" "_law_halves_refused" (defArgs (top 58)) (defBody (top 58)) (defScope (top 58)) [] [] f fd) : FnOk P w K mg base (L2.CX P w) 6 f fd ["_law_market_here", "_law_parts_here"] (spOf K (cmOf K) 2 f__law_halves_refused) := by
  have ND : (["_law_market_here", "_law_parts_here", "_law_told", "error"] : List Str).Nodup := sc__law_halves_refused.nd
  refine fn_ok (t := tNext) (n := 2) (l := [true, true]) (m := m__law_halves_refused) Fd sc__law_halves_refused rfl rfl fun cdv A outer s H E hr => ?_
  exact ⟨_, (sse_cons (se_asg (oe_val (de_un un_neg ud_neg de_int)) (ge_v 2 ND))
  (sse_cons (se_try (sub := SUB_BadSet) rfl rfl ND (i := 3) rfl rfl ⟨rfl, by decide, .inl Z.g_BadSet⟩ Z.ex_BadSet (takes_of rfl rfl rfl rfl) (fun _ _ _ tkT psT => (sse_one (se_expr (k_cal K C_halves (hr.mono (by decide : 5 ≤ 5)) tkT (ce_cons (de_v 0) (ce_cons (de_v 1) ce_nil)) (ln_cons (ln_cons ln_nil)))))) (fun _ _ _ _ _ hz hf => (sse_one (se_asg (oe_val (de_err (C := "BadSet") (i := 3) Z.xf_BadSet Z.no_BadSet_place hz hf rfl (by first | exact Or.inl rfl | exact Or.inr (Or.inl rfl) | exact Or.inr (Or.inr rfl)))) (ge_v 2 ND)))))
  (sse_one (se_ret (oe_v 2)))))⟩
/-! _law_turned_right -/
theorem sc__law_turned_right : FnScope ["_law_market_here", "_law_size", "_law_runs", "_law_parts_here", "_law_number", "_law_turned", "_law_k", "_law_kept", "_law_two", "_law_told", "_law_most", "_law_row"] ["_law_market_here", "_law_size", "_law_runs", "_law_parts_here", "_law_number"] (defScope (top 59)) := ⟨rfl, rfl, rfl, by decide +kernel, rfl, by decide +kernel, by decide +kernel⟩
theorem ok__law_turned_right {f : Addr} {fd : FuncData} (Z : Zf P w K mg) (C_halves : Cal P w K mg base (cmOf K) "halves" 5 2 f_halves) (C_lots : Cal P w K mg base (cmOf K) "lots" 6 3 f_lots) (C__law_parted : Cal P w K mg base (cmOf K) "_law_parted" 3 3 f__law_parted) (C__law_even : Cal P w K mg base (cmOf K) "_law_even" 2 4 f__law_even) (C__law_halves_refused : Cal P w K mg base (cmOf K) "_law_halves_refused" 6 2 f__law_halves_refused) (Fd : FunD K "_law_turned_right" "_law_turned_right" (defArgs (top 59)) (defBody (top 59)) (defScope (top 59)) [] [] f fd) : FnOk P w K mg base (L2.CX P w) 7 f fd ["_law_market_here", "_law_size", "_law_runs", "_law_parts_here", "_law_number"] (spOf K (cmOf K) 5 f__law_turned_right) := by
  have ND : (["_law_market_here", "_law_size", "_law_runs", "_law_parts_here", "_law_number", "_law_turned", "_law_k", "_law_kept", "_law_two", "_law_told", "_law_most", "_law_row"] : List Str).Nodup := sc__law_turned_right.nd
  refine fn_ok (t := tNext) (n := 7) (l := [true, true, true, true, true]) (m := m__law_turned_right) Fd sc__law_turned_right rfl rfl fun cdv A outer s H E hr => ?_
  exact ⟨_, (sse_cons (se_setLc (i := 5) rfl ND rfl rfl (by rfl) (ie_range1 (by rfl) Z.f_range (k_lenv K 3 Z.f_len)) (blk_ok (own := ([("_law_k", 6)] : List (Str × Nat))) (by kernel_rfl)) (fun _ _ _ _ _ => (ge_v 6 ND)) (fun _ _ _ _ _ => ifs_nil) (fun _ _ _ _ _ => (k_ixv K 3 (de_cold (oe_op op_sub od_sub (de_cold (oe_op op_sub od_sub (k_lenv K 3 Z.f_len) de_int)) (de_v 6))))))
  (sse_cons (se_asg (oe_t1 (k_list K) cd_list (by rfl) Z.f_list (by decide +kernel) (de_v 5)) (ge_v 7 ND))
  (sse_cons (se_asg (k_cal K C_halves (hr.mono (by decide : 5 ≤ 6)) (takes_of rfl rfl rfl rfl) (ce_cons (de_v 0) (ce_cons (de_v 5) ce_nil)) (ln_cons (ln_cons ln_nil))) (ge_v 8 ND))
  (sse_cons (se_asg (k_cal K C_lots (hr.mono (by decide : 6 ≤ 6)) (takes_of rfl rfl rfl rfl) (ce_cons (de_v 0) (ce_cons (de_v 5) (ce_cons (de_v 4) ce_nil))) (ln_cons (ln_cons (ln_cons ln_nil)))) (ge_v 9 ND))
  (sse_cons (se_asg (k_cal K C_lots (hr.mono (by decide : 6 ≤ 6)) (takes_of rfl rfl rfl rfl) (ce_cons (de_v 0) (ce_cons (de_v 5) (ce_cons de_int ce_nil))) (ln_cons (ln_cons (ln_cons ln_nil)))) (ge_v 10 ND))
  (sse_cons (se_if (te_w (we_or (te_cmp (k_ne K hr.units) od_ne (de_v 5) (de_v 7) (by rfl)) (we_or (te_cmp (k_ne K hr.units) od_ne (k_lenv K 8 Z.f_len) de_int (by rfl)) (we_or (te_cmp (k_ne K hr.units) od_ne (k_lenv K 9 Z.f_len) (de_v 4) (by rfl)) (we_or1 (te_cmp (k_ne K hr.units) od_ne (k_lenv K 10 Z.f_len) de_int (by rfl))))))) (sse_one (se_ret (oe_val de_bl))) sse_nil)
  (sse_cons (se_for (passes_of rfl) rfl (k_seq K (de_cold (oe_lst (ae_cons (de_v 8) (ae_cons (de_v 9) (ae_cons (de_v 10) ae_nil)))))) (ge_v 11 ND) (sse_one (se_if (te_w (we_or (te_not (te_val (k_cal K C__law_parted (hr.mono (by decide : 3 ≤ 6)) (takes_of rfl rfl rfl rfl) (ce_v 11 (ce_cons (de_v 3) (ce_cons (k_lenv K 2 Z.f_len) ce_nil))) (ln_io (ln_cons (ln_cons ln_nil)))))) (we_or1 (te_not (te_val (k_cal K C__law_even (hr.mono (by decide : 2 ≤ 6)) (takes_of rfl rfl rfl rfl) (ce_cons (de_v 1) (ce_cons (de_v 2) (ce_v 11 (ce_cons (de_v 3) ce_nil)))) (ln_cons (ln_cons (ln_io (ln_cons ln_nil)))))))))) (sse_one (se_ret (oe_val de_bl))) sse_nil)))
  (sse_one (se_ret (oe_val (de_and (de_cold (oe_cmp (k_eq K hr.units) od_eq (de_cold (k_cal K C__law_halves_refused (hr.mono (by decide : 6 ≤ 6)) (takes_of rfl rfl rfl rfl) (ce_cons (de_v 0) (ce_cons (de_cold (oe_op op_addX od_add (de_v 5) (de_cold (oe_lst (ae_cons (de_un un_neg ud_neg de_int) ae_nil))))) ce_nil)) (ln_cons (ln_cons ln_nil)))) (k_lenv K 3 Z.f_len) (by rfl))) (de_one (oe_cmp (k_eq K hr.units) od_eq (de_cold (k_cal K C__law_halves_refused (hr.mono (by decide : 6 ≤ 6)) (takes_of rfl rfl rfl rfl) (ce_cons (de_v 0) (ce_cons de_non ce_nil)) (ln_cons (ln_cons ln_nil)))) (de_un un_neg ud_neg de_int) (by rfl))))))))))))))⟩
/-! _law_chain_stock -/
theorem sc__law_chain_stock : FnScope ["_law_draws_here", "_law_kind_here", "_law_size", "_law_runs", "_law_number", "_law_copy", "_law_start", "_law_k", "_law_stop", "_law_turn"] ["_law_draws_here", "_law_kind_here", "_law_size"] (defScope (top 60)) := ⟨rfl, rfl, rfl, by decide +kernel, rfl, by decide +kernel, by decide +kernel⟩
theorem ok__law_chain_stock {f : Addr} {fd : FuncData} (Z : Zf P w K mg) (C__law_take : Cal P w K mg base (cmOf K) "_law_take" 1 2 f__law_take) (Fd : FunD K "_law_chain_stock" "_law_chain_stock" (defArgs (top 60)) (defBody (top 60)) (defScope (top 60)) [] [] f fd) : FnOk P w K mg base (L2.CX P w) 2 f fd ["_law_draws_here", "_law_kind_here", "_law_size"] (spOf K (cmOf K) 3 f__law_chain_stock) := by
  have ND : (["_law_draws_here", "_law_kind_here", "_law_size", "_law_runs", "_law_number", "_law_copy", "_law_start", "_law_k", "_law_stop", "_law_turn"] : List Str).Nodup := sc__law_chain_stock.nd
  refine fn_ok (t := tNext) (n := 7) (l := [true, true, true]) (m := m__law_chain_stock) Fd sc__law_chain_stock rfl rfl fun cdv A outer s H E hr => ?_
  exact ⟨_, (sse_cons (se_asg (oe_lst ae_nil) (ge_v 3 ND))
  (sse_cons (se_asg (oe_op op_addX od_add de_int (de_cold (k_cal K C__law_take (hr.mono (by decide : 1 ≤ 1)) (takes_of rfl rfl rfl rfl) (ce_v 0 (ce_cons de_int ce_nil)) (ln_io (ln_cons ln_nil))))) (ge_v 4 ND))
  (sse_cons (se_for (passes_of rfl) rfl (ie_range1 (by rfl) Z.f_range (de_v 4)) (ge_v 5 ND) (sse_cons (se_asg (oe_val de_int) (ge_v 6 ND))
  (sse_one (se_for (passes_of rfl) rfl (ie_range1 (by rfl) Z.f_range (de_v 2)) (ge_v 7 ND) (sse_one (se_if (te_cmp op_lt od_lt (de_v 6) (de_v 2) (by rfl)) (sse_cons (se_asg (oe_b2 (call_min2 rfl) cd_min2 (by rfl) Z.f_min (by decide +kernel) (de_v 2) (de_cold (oe_op op_addX od_add (de_cold (oe_op op_addX od_add (de_v 6) de_int)) (de_cold (k_cal K C__law_take (hr.mono (by decide : 1 ≤ 1)) (takes_of rfl rfl rfl rfl) (ce_v 0 (ce_cons (de_v 2) ce_nil)) (ln_io (ln_cons ln_nil))))))) (ge_v 8 ND))
  (sse_cons (se_expr (oe_appN (i := 3) rfl (by first | exact Or.inl rfl | exact Or.inr (Or.inl rfl) | exact Or.inr (Or.inr rfl)) (de_tup (ae_cons (de_v 6) (ae_cons (de_v 8) ae_nil)))))
  (sse_one (se_asg (oe_val (de_v 8)) (ge_v 6 ND))))) sse_nil))))))
  (sse_cons (se_if (te_w (we_and (te_cmp (k_eq K hr.units) od_eq (de_v 1) de_str (by rfl)) (we_and1 (te_cmp (k_eq K hr.units) od_eq (de_cold (k_cal K C__law_take (hr.mono (by decide : 1 ≤ 1)) (takes_of rfl rfl rfl rfl) (ce_v 0 (ce_cons de_int ce_nil)) (ln_io (ln_cons ln_nil)))) de_int (by rfl))))) (sse_one (se_expr (oe_appN (i := 3) rfl (by first | exact Or.inl rfl | exact Or.inr (Or.inl rfl) | exact Or.inr (Or.inr rfl)) (de_tup (ae_cons de_int (ae_cons (de_v 2) ae_nil)))))) sse_nil)
  (sse_cons (se_asg (k_cal K C__law_take (hr.mono (by decide : 1 ≤ 1)) (takes_of rfl rfl rfl rfl) (ce_v 0 (ce_cons (k_lenv K 3 Z.f_len) ce_nil)) (ln_io (ln_cons ln_nil))) (ge_v 9 ND))
  (sse_one (se_ret (oe_lst (ae_cons (de_v 4) (ae_cons (de_cold (oe_op op_addX od_add (de_cold (k_sl K (de_v 3) (op_some (de_v 9)) op_none)) (de_cold (k_sl K (de_v 3) op_none (op_some (de_v 9)))))) ae_nil))))))))))⟩
/-! _law_stock_lots -/
theorem sc__law_stock_lots : FnScope ["_law_draws_here", "_law_kind_here", "_law_size", "_law_drawn", "_law_number", "_law_runs", "_law_market_here", "_law_parts_here", "_law_told", "_law_chosen", "_law_taken", "_law_lot"] ["_law_draws_here", "_law_kind_here", "_law_size"] (defScope (top 61)) := ⟨rfl, rfl, rfl, by decide +kernel, rfl, by decide +kernel, by decide +kernel⟩
theorem ok__law_stock_lots {f : Addr} {fd : FuncData} (Z : Zf P w K mg) (C__law_chain_stock : Cal P w K mg base (cmOf K) "_law_chain_stock" 2 3 f__law_chain_stock) (C__law_built : Cal P w K mg base (cmOf K) "_law_built" 8 4 f__law_built) (C_lots : Cal P w K mg base (cmOf K) "lots" 6 3 f_lots) (C__law_parted : Cal P w K mg base (cmOf K) "_law_parted" 3 3 f__law_parted) (C_is_stock : Cal P w K mg base (cmOf K) "is_stock" 5 3 f_is_stock) (C__law_take : Cal P w K mg base (cmOf K) "_law_take" 1 2 f__law_take) (Fd : FunD K "_law_stock_lots" "_law_stock_lots" (defArgs (top 61)) (defBody (top 61)) (defScope (top 61)) [] [] f fd) : FnOk P w K mg base (L2.CX P w) 9 f fd ["_law_draws_here", "_law_kind_here", "_law_size"] (spOf K (cmOf K) 3 f__law_stock_lots) := by
  have ND : (["_law_draws_here", "_law_kind_here", "_law_size", "_law_drawn", "_law_number", "_law_runs", "_law_market_here", "_law_parts_here", "_law_told", "_law_chosen", "_law_taken", "_law_lot"] : List Str).Nodup := sc__law_stock_lots.nd
  refine fn_ok (t := tNext) (n := 9) (l := [true, true, true]) (m := m__law_stock_lots) Fd sc__law_stock_lots rfl rfl fun cdv A outer s H E hr => ?_
  exact ⟨_, (sse_cons (se_asg (k_cal K C__law_chain_stock (hr.mono (by decide : 2 ≤ 8)) (takes_of rfl rfl rfl rfl) (ce_v 0 (ce_cons (de_v 1) (ce_cons (de_v 2) ce_nil))) (ln_io (ln_cons (ln_cons ln_nil)))) (ge_v 3 ND))
  (sse_cons (se_asg (oe_val (k_ixv K 3 de_int)) (ge_v 4 ND))
  (sse_cons (se_asg (oe_val (k_ixv K 3 de_int)) (ge_v 5 ND))
  (sse_cons (se_asg (k_cal K C__law_built (hr.mono (by decide : 8 ≤ 8)) (takes_of rfl rfl rfl rfl) (ce_cons (de_v 1) (ce_cons (de_v 2) (ce_cons (de_v 5) (ce_cons (de_cold (oe_lst ae_nil)) ce_nil)))) (ln_cons (ln_cons (ln_cons (ln_cons ln_nil))))) (ge_v 6 ND))
  (sse_cons (se_asg (oe_listRg1 rfl (by rfl) Z.f_list (by rfl) Z.f_range (k_lenv K 5 Z.f_len)) (ge_v 7 ND))
  (sse_cons (se_asg (k_cal K C_lots (hr.mono (by decide : 6 ≤ 8)) (takes_of rfl rfl rfl rfl) (ce_cons (de_v 6) (ce_cons (de_v 7) (ce_cons (de_v 4) ce_nil))) (ln_cons (ln_cons (ln_cons ln_nil)))) (ge_v 8 ND))
  (sse_cons (se_if (te_w (we_or (te_not (te_val (oe_isTN (j := 8) isT_list rfl (by first | exact Or.inl rfl | exact Or.inr (Or.inl rfl) | exact Or.inr (Or.inr rfl)) (by rfl) Z.f_isinstance (by rfl) Z.f_list (by decide +kernel)))) (we_or (te_cmp (k_ne K hr.units) od_ne (k_lenv K 8 Z.f_len) (de_v 4) (by rfl)) (we_or1 (te_not (te_val (k_cal K C__law_parted (hr.mono (by decide : 3 ≤ 8)) (takes_of rfl rfl rfl rfl) (ce_v 8 (ce_cons (de_v 7) (ce_cons (k_lenv K 5 Z.f_len) ce_nil))) (ln_io (ln_cons (ln_cons ln_nil)))))))))) (sse_one (se_ret (oe_val de_bl))) sse_nil)
  (sse_cons (se_asg (oe_lst ae_nil) (ge_v 9 ND))
  (sse_cons (se_asg (oe_val de_int) (ge_v 10 ND))
  (sse_cons (se_for (passes_of rfl) rfl (k_seq K (de_v 8)) (ge_v 11 ND) (sse_cons (se_if (te_not (te_val (k_cal K C_is_stock (hr.mono (by decide : 5 ≤ 8)) (takes_of rfl rfl rfl rfl) (ce_cons (de_v 6) (ce_cons de_int (ce_cons (de_v 11) ce_nil))) (ln_cons (ln_cons (ln_cons ln_nil)))))) (sse_one (se_ret (oe_val de_bl))) sse_nil)
  (sse_one (se_if (te_cmp (k_eq K hr.units) od_eq (de_cold (k_cal K C__law_take (hr.mono (by decide : 1 ≤ 8)) (takes_of rfl rfl rfl rfl) (ce_v 0 (ce_cons de_int ce_nil)) (ln_io (ln_cons ln_nil)))) de_int (by rfl)) (sse_cons (se_asg (oe_op op_addX od_add (de_v 9) (de_cold (oe_t1 (k_list K) cd_list (by rfl) Z.f_list (by decide +kernel) (de_v 11)))) (ge_v 9 ND))
  (sse_one (se_aug (i := 10) ND rfl (by first | exact Or.inl rfl | exact Or.inr rfl) de_int ip_add id_add))) sse_nil))))
  (sse_one (se_ret (oe_val (de_and (de_cold (k_cal K C_is_stock (hr.mono (by decide : 5 ≤ 8)) (takes_of rfl rfl rfl rfl) (ce_cons (de_v 6) (ce_cons (de_v 4) (ce_cons (de_v 7) ce_nil))) (ln_cons (ln_cons (ln_cons ln_nil))))) (de_one (k_cal K C_is_stock (hr.mono (by decide : 5 ≤ 8)) (takes_of rfl rfl rfl rfl) (ce_cons (de_v 6) (ce_cons (de_v 10) (ce_cons (de_v 9) ce_nil))) (ln_cons (ln_cons (ln_cons ln_nil)))))))))))))))))))⟩
/-! law -/
theorem sc_law : FnScope ["_law_script", "_law_draws_here", "_law_kind_here", "_law_drawn", "_law_size", "_law_runs", "_law_market_here", "_law_parts_here", "_law_number", "_law_kept", "_law_two", "_law_told", "_law_again", "_law_one", "_law_wrong"] ["_law_script"] (defScope (top 62)) := ⟨rfl, rfl, rfl, by decide +kernel, rfl, by decide +kernel, by decide +kernel⟩
theorem ok_law {f : Addr} {fd : FuncData} (Z : Zf P w K mg) (C__law_draws : Cal P w K mg base (cmOf K) "_law_draws" 1 1 f__law_draws) (C__law_kind : Cal P w K mg base (cmOf K) "_law_kind" 2 1 f__law_kind) (C__law_market : Cal P w K mg base (cmOf K) "_law_market" 3 2 f__law_market_v2) (C__law_built : Cal P w K mg base (cmOf K) "_law_built" 8 4 f__law_built) (C__law_parts : Cal P w K mg base (cmOf K) "_law_parts" 2 2 f__law_parts) (C__law_take : Cal P w K mg base (cmOf K) "_law_take" 1 2 f__law_take) (C_halves : Cal P w K mg base (cmOf K) "halves" 5 2 f_halves) (C__law_parted : Cal P w K mg base (cmOf K) "_law_parted" 3 3 f__law_parted) (C__law_even : Cal P w K mg base (cmOf K) "_law_even" 2 4 f__law_even) (C_lots : Cal P w K mg base (cmOf K) "lots" 6 3 f_lots) (C__law_turned_right : Cal P w K mg base (cmOf K) "_law_turned_right" 7 5 f__law_turned_right) (C_cover : Cal P w K mg base (cmOf K) "cover" 5 2 f_cover) (C__law_cover : Cal P w K mg base (cmOf K) "_law_cover" 1 3 f__law_cover) (C__law_number_refused : Cal P w K mg base (cmOf K) "_law_number_refused" 7 3 f__law_number_refused) (C__law_stock_lots : Cal P w K mg base (cmOf K) "_law_stock_lots" 9 3 f__law_stock_lots) (Fd : FunD K "law" "law" (defArgs (top 62)) (defBody (top 62)) (defScope (top 62)) [] [] f fd) : FnOk P w K mg base (L2.CX P w) 10 f fd ["_law_script"] (spOf K (cmOf K) 1 f_law_v2) := by
  have ND : (["_law_script", "_law_draws_here", "_law_kind_here", "_law_drawn", "_law_size", "_law_runs", "_law_market_here", "_law_parts_here", "_law_number", "_law_kept", "_law_two", "_law_told", "_law_again", "_law_one", "_law_wrong"] : List Str).Nodup := sc_law.nd
  refine fn_ok (t := tNext) (n := 14) (l := [true]) (m := m_law_v2) Fd sc_law rfl rfl fun cdv A outer s H E hr => ?_
  exact ⟨_, (sse_cons (se_asg (k_cal K C__law_draws (hr.mono (by decide : 1 ≤ 9)) (takes_of rfl rfl rfl rfl) (ce_cons (de_v 0) ce_nil) (ln_cons ln_nil)) (ge_v 1 ND))
  (sse_cons (se_asg (k_cal K C__law_kind (hr.mono (by decide : 2 ≤ 9)) (takes_of rfl rfl rfl rfl) (ce_v 1 ce_nil) (ln_io ln_nil)) (ge_v 2 ND))
  (sse_cons (se_asg (k_cal K C__law_market (hr.mono (by decide : 3 ≤ 9)) (takes_of rfl rfl rfl rfl) (ce_v 1 (ce_cons de_int ce_nil)) (ln_io (ln_cons ln_nil))) (ge_v 3 ND))
  (sse_cons (se_asg (oe_val (k_ixv K 3 de_int)) (ge_v 4 ND))
  (sse_cons (se_asg (oe_val (k_ixv K 3 de_int)) (ge_v 5 ND))
  (sse_cons (se_asg (k_cal K C__law_built (hr.mono (by decide : 8 ≤ 9)) (takes_of rfl rfl rfl rfl) (ce_cons (de_v 2) (ce_cons (de_v 4) (ce_cons (de_cold (oe_t1 (k_list K) cd_list (by rfl) Z.f_list (by decide +kernel) (de_v 5))) (ce_cons (k_ixv K 3 de_int) ce_nil)))) (ln_cons (ln_cons (ln_cons (ln_cons ln_nil))))) (ge_v 6 ND))
  (sse_cons (se_asg (k_cal K C__law_parts (hr.mono (by decide : 2 ≤ 9)) (takes_of rfl rfl rfl rfl) (ce_v 1 (ce_cons (k_lenv K 5 Z.f_len) ce_nil)) (ln_io (ln_cons ln_nil))) (ge_v 7 ND))
  (sse_cons (se_if (te_cmp (k_eq K hr.units) od_eq (de_cold (k_cal K C__law_take (hr.mono (by decide : 1 ≤ 9)) (takes_of rfl rfl rfl rfl) (ce_v 1 (ce_cons de_int ce_nil)) (ln_io (ln_cons ln_nil)))) de_int (by rfl)) (sse_one (se_asg (oe_listRg1 rfl (by rfl) Z.f_list (by rfl) Z.f_range (k_lenv K 5 Z.f_len)) (ge_v 7 ND))) sse_nil)
  (sse_cons (se_asg (oe_op op_addX od_add de_int (de_cold (k_cal K C__law_take (hr.mono (by decide : 1 ≤ 9)) (takes_of rfl rfl rfl rfl) (ce_v 1 (ce_cons de_int ce_nil)) (ln_io (ln_cons ln_nil))))) (ge_v 8 ND))
  (sse_cons (se_asg (oe_t1 (k_list K) cd_list (by rfl) Z.f_list (by decide +kernel) (de_v 7)) (ge_v 9 ND))
  (sse_cons (se_asg (k_cal K C_halves (hr.mono (by decide : 5 ≤ 9)) (takes_of rfl rfl rfl rfl) (ce_cons (de_v 6) (ce_cons (de_v 9) ce_nil)) (ln_cons (ln_cons ln_nil))) (ge_v 10 ND))
  (sse_cons (se_if (te_w (we_or (te_not (te_val (oe_isTN (j := 10) isT_tuple rfl (by first | exact Or.inl rfl | exact Or.inr (Or.inl rfl) | exact Or.inr (Or.inr rfl)) (by rfl) Z.f_isinstance (by rfl) Z.f_tuple (by decide +kernel)))) (we_or (te_cmp (k_ne K hr.units) od_ne (k_lenv K 10 Z.f_len) de_int (by rfl)) (we_or1 (te_not (te_val (k_cal K C__law_parted (hr.mono (by decide : 3 ≤ 9)) (takes_of rfl rfl rfl rfl) (ce_v 10 (ce_cons (de_v 7) (ce_cons (k_lenv K 5 Z.f_len) ce_nil))) (ln_io (ln_cons (ln_cons ln_nil)))))))))) (sse_one (se_ret (oe_val de_bl))) sse_nil)
  (sse_cons (se_if (te_not (te_val (k_cal K C__law_even (hr.mono (by decide : 2 ≤ 9)) (takes_of rfl rfl rfl rfl) (ce_cons (de_v 4) (ce_cons (de_v 5) (ce_v 10 (ce_cons (de_v 7) ce_nil)))) (ln_cons (ln_cons (ln_io (ln_cons ln_nil))))))) (sse_one (se_ret (oe_val de_bl))) sse_nil)
  (sse_cons (se_asg (k_cal K C_lots (hr.mono (by decide : 6 ≤ 9)) (takes_of rfl rfl rfl rfl) (ce_cons (de_v 6) (ce_cons (de_v 9) (ce_cons (de_v 8) ce_nil))) (ln_cons (ln_cons (ln_cons ln_nil)))) (ge_v 11 ND))
  (sse_cons (se_if (te_w (we_or (te_not (te_val (oe_isTN (j := 11) isT_list rfl (by first | exact Or.inl rfl | exact Or.inr (Or.inl rfl) | exact Or.inr (Or.inr rfl)) (by rfl) Z.f_isinstance (by rfl) Z.f_list (by decide +kernel)))) (we_or (te_cmp (k_ne K hr.units) od_ne (k_lenv K 11 Z.f_len) (de_v 8) (by rfl)) (we_or1 (te_not (te_val (k_cal K C__law_parted (hr.mono (by decide : 3 ≤ 9)) (takes_of rfl rfl rfl rfl) (ce_v 11 (ce_cons (de_v 7) (ce_cons (k_lenv K 5 Z.f_len) ce_nil))) (ln_io (ln_cons (ln_cons ln_nil)))))))))) (sse_one (se_ret (oe_val de_bl))) sse_nil)
  (sse_cons (se_if (te_w (we_or (te_not (te_val (k_cal K C__law_even (hr.mono (by decide : 2 ≤ 9)) (takes_of rfl rfl rfl rfl) (ce_cons (de_v 4) (ce_cons (de_v 5) (ce_v 11 (ce_cons (de_v 7) ce_nil)))) (ln_cons (ln_cons (ln_io (ln_cons ln_nil))))))) (we_or1 (te_cmp (k_ne K hr.units) od_ne (de_v 9) (de_v 7) (by rfl))))) (sse_one (se_ret (oe_val de_bl))) sse_nil)
  (sse_cons (se_expr (oe_appN (i := 11) rfl (by first | exact Or.inl rfl | exact Or.inr (Or.inl rfl) | exact Or.inr (Or.inr rfl)) (de_tup ae_nil)))
  (sse_cons (se_asg (k_cal K C_lots (hr.mono (by decide : 6 ≤ 9)) (takes_of rfl rfl rfl rfl) (ce_cons (de_v 6) (ce_cons (de_cold (oe_t1 (k_tuple K) cd_tuple (by rfl) Z.f_tuple (by decide +kernel) (de_v 7))) (ce_cons (de_v 8) ce_nil))) (ln_cons (ln_cons (ln_cons ln_nil)))) (ge_v 12 ND))
  (sse_cons (se_if (te_cmp (k_ne K hr.units) od_ne (de_v 12) (de_cold (k_sl K (de_v 11) op_none (op_some (de_un un_neg ud_neg de_int)))) (by rfl)) (sse_one (se_ret (oe_val de_bl))) sse_nil)
  (sse_cons (se_if (te_not (te_val (k_cal K C__law_turned_right (hr.mono (by decide : 7 ≤ 9)) (takes_of rfl rfl rfl rfl) (ce_cons (de_v 6) (ce_cons (de_v 4) (ce_cons (de_v 5) (ce_cons (de_v 7) (ce_cons (de_v 8) ce_nil))))) (ln_cons (ln_cons (ln_cons (ln_cons (ln_cons ln_nil)))))))) (sse_one (se_ret (oe_val de_bl))) sse_nil)
  (sse_cons (se_asg (k_cal K C_lots (hr.mono (by decide : 6 ≤ 9)) (takes_of rfl rfl rfl rfl) (ce_cons (de_v 6) (ce_cons (de_v 7) (ce_cons de_int ce_nil))) (ln_cons (ln_cons (ln_cons ln_nil)))) (ge_v 13 ND))
  (sse_cons (se_if (te_w (we_or (te_cmp (k_ne K hr.units) od_ne (de_v 13) (de_cold (oe_lst (ae_cons (de_cold (oe_t1 (k_tuple K) cd_tuple (by rfl) Z.f_tuple (by decide +kernel) (de_v 7))) ae_nil))) (by rfl)) (we_or1 (te_cmp (k_ne K hr.units) od_ne (de_cold (k_cal K C_cover (hr.mono (by decide : 5 ≤ 9)) (takes_of rfl rfl rfl rfl) (ce_cons (de_v 6) (ce_cons (de_v 7) ce_nil)) (ln_cons (ln_cons ln_nil)))) (de_cold (oe_t1 (k_tuple K) cd_tuple (by rfl) Z.f_tuple (by decide +kernel) (de_cold (k_cal K C__law_cover (hr.mono (by decide : 1 ≤ 9)) (takes_of rfl rfl rfl rfl) (ce_cons (de_v 4) (ce_cons (de_v 5) (ce_cons (de_v 7) ce_nil))) (ln_cons (ln_cons (ln_cons ln_nil))))))) (by rfl))))) (sse_one (se_ret (oe_val de_bl))) sse_nil)
  (sse_cons (se_asg (oe_val (k_ix K (de_cold (oe_lst (ae_cons de_int (ae_cons (de_un un_neg ud_neg de_int) (ae_cons de_int (ae_cons de_non (ae_cons de_bl ae_nil))))))) (de_cold (k_cal K C__law_take (hr.mono (by decide : 1 ≤ 9)) (takes_of rfl rfl rfl rfl) (ce_v 1 (ce_cons de_int ce_nil)) (ln_io (ln_cons ln_nil)))))) (ge_v 14 ND))
  (sse_cons (se_if (te_cmp (k_ne K hr.units) od_ne (de_cold (k_cal K C__law_number_refused (hr.mono (by decide : 7 ≤ 9)) (takes_of rfl rfl rfl rfl) (ce_cons (de_v 6) (ce_cons (de_v 7) (ce_cons (de_v 14) ce_nil))) (ln_cons (ln_cons (ln_cons ln_nil))))) de_str (by rfl)) (sse_one (se_ret (oe_val de_bl))) sse_nil)
  (sse_cons (se_if (te_cmp (k_ne K hr.units) od_ne (de_cold (k_cal K C__law_number_refused (hr.mono (by decide : 7 ≤ 9)) (takes_of rfl rfl rfl rfl) (ce_cons (de_v 6) (ce_cons (de_cold (oe_op op_addX od_add (de_v 7) (de_cold (oe_lst (ae_cons (k_lenv K 5 Z.f_len) ae_nil))))) (ce_cons (de_v 14) ce_nil))) (ln_cons (ln_cons (ln_cons ln_nil))))) (de_cold (oe_op op_addX od_add de_str (de_cold (oe_t1 call_str_int cd_str (by rfl) Z.f_str (by decide +kernel) (k_lenv K 7 Z.f_len))))) (by rfl)) (sse_one (se_ret (oe_val de_bl))) sse_nil)
  (sse_one (se_ret (k_cal K C__law_stock_lots (hr.mono (by decide : 9 ≤ 9)) (takes_of rfl rfl rfl rfl) (ce_v 1 (ce_cons (de_v 2) (ce_cons (de_v 4) ce_nil))) (ln_io (ln_cons (ln_cons ln_nil)))))))))))))))))))))))))))))))⟩
end
end L2.Fn.K02
set_option maxRecDepth 100000
set_option maxHeartbeats 0
namespace L2.Fn.K02
open PySem PySem.Spec PyProof.Rows L2 L2.Fn

def d_is_int : He.DefD := ⟨("is_int", none), "is_int", "is_int", defArgs (top 9), defBody (top 9), defScope (top 9), [], []⟩
def d_check_number : He.DefD := ⟨("check_number", none), "check_number", "check_number", defArgs (top 10), defBody (top 10), defScope (top 10), [], []⟩
def d_set_of : He.DefD := ⟨("set_of", none), "set_of", "set_of", defArgs (top 12), defBody (top 12), defScope (top 12), [], []⟩
def d_both : He.DefD := ⟨("both", none), "both", "both", defArgs (top 13), defBody (top 13), defScope (top 13), [], []⟩
def d_common : He.DefD := ⟨("common", none), "common", "common", defArgs (top 14), defBody (top 14), defScope (top 14), [], []⟩
def d_minus : He.DefD := ⟨("minus", none), "minus", "minus", defArgs (top 15), defBody (top 15), defScope (top 15), [], []⟩
def d_pair_of : He.DefD := ⟨("pair_of", none), "pair_of", "pair_of", defArgs (top 17), defBody (top 17), defScope (top 17), [], []⟩
def d__runs_of : He.DefD := ⟨("_runs_of", none), "_runs_of", "_runs_of", defArgs (top 18), defBody (top 18), defScope (top 18), [], []⟩
def d_Market___init__ : He.DefD := ⟨("Market", some "__init__"), "__init__", "Market.__init__", defArgs (meth 20 1), defBody (meth 20 1), defScope (meth 20 1), [], []⟩
def d_demand_of : He.DefD := ⟨("demand_of", none), "demand_of", "demand_of", defArgs (top 32), defBody (top 32), defScope (top 32), [], []⟩
def d__cover : He.DefD := ⟨("_cover", none), "_cover", "_cover", defArgs (top 33), defBody (top 33), defScope (top 33), [], []⟩
def d_cover : He.DefD := ⟨("cover", none), "cover", "cover", defArgs (top 34), defBody (top 34), defScope (top 34), [], []⟩
def d__misfit : He.DefD := ⟨("_misfit", none), "_misfit", "_misfit", defArgs (top 35), defBody (top 35), defScope (top 35), [], []⟩
def d_is_stock : He.DefD := ⟨("is_stock", none), "is_stock", "is_stock", defArgs (top 36), defBody (top 36), defScope (top 36), [], []⟩
def d__partners : He.DefD := ⟨("_partners", none), "_partners", "_partners", defArgs (top 38), defBody (top 38), defScope (top 38), [], []⟩
def d__halves : He.DefD := ⟨("_halves", none), "_halves", "_halves", defArgs (top 39), defBody (top 39), defScope (top 39), [], []⟩
def d_halves : He.DefD := ⟨("halves", none), "halves", "halves", defArgs (top 40), defBody (top 40), defScope (top 40), [], []⟩
def d__far : He.DefD := ⟨("_far", none), "_far", "_far", defArgs (top 41), defBody (top 41), defScope (top 41), [], []⟩
def d_lots : He.DefD := ⟨("lots", none), "lots", "lots", defArgs (top 42), defBody (top 42), defScope (top 42), [], []⟩
def d__law_draws : He.DefD := ⟨("_law_draws", none), "_law_draws", "_law_draws", defArgs (top 44), defBody (top 44), defScope (top 44), [], []⟩
def d__law_take : He.DefD := ⟨("_law_take", none), "_law_take", "_law_take", defArgs (top 45), defBody (top 45), defScope (top 45), [], []⟩
def d__law_int : He.DefD := ⟨("_law_int", none), "_law_int", "_law_int", defArgs (top 46), defBody (top 46), defScope (top 46), [], []⟩
def d__law_set : He.DefD := ⟨("_law_set", none), "_law_set", "_law_set", defArgs (top 47), defBody (top 47), defScope (top 47), [], []⟩
def d__law_chains : He.DefD := ⟨("_law_chains", none), "_law_chains", "_law_chains", defArgs (top 48), defBody (top 48), defScope (top 48), [], []⟩
def d__law_special : He.DefD := ⟨("_law_special", none), "_law_special", "_law_special", defArgs (top 49), defBody (top 49), defScope (top 49), [], []⟩
def d__law_market : He.DefD := ⟨("_law_market", none), "_law_market", "_law_market", defArgs (top 50), defBody (top 50), defScope (top 50), [], []⟩
def d__law_built : He.DefD := ⟨("_law_built", none), "_law_built", "_law_built", defArgs (top 51), defBody (top 51), defScope (top 51), [], []⟩
def d__law_kind : He.DefD := ⟨("_law_kind", none), "_law_kind", "_law_kind", defArgs (top 52), defBody (top 52), defScope (top 52), [], []⟩
def d__law_parts : He.DefD := ⟨("_law_parts", none), "_law_parts", "_law_parts", defArgs (top 53), defBody (top 53), defScope (top 53), [], []⟩
def d__law_cover : He.DefD := ⟨("_law_cover", none), "_law_cover", "_law_cover", defArgs (top 54), defBody (top 54), defScope (top 54), [], []⟩
def d__law_parted : He.DefD := ⟨("_law_parted", none), "_law_parted", "_law_parted", defArgs (top 55), defBody (top 55), defScope (top 55), [], []⟩
def d__law_even : He.DefD := ⟨("_law_even", none), "_law_even", "_law_even", defArgs (top 56), defBody (top 56), defScope (top 56), [], []⟩
def d__law_number_refused : He.DefD := ⟨("_law_number_refused", none), "_law_number_refused", "_law_number_refused", defArgs (top 57), defBody (top 57), defScope (top 57), [], []⟩
def d__law_halves_refused : He.DefD := ⟨("_law_halves_refused", none), "_law_halves_refused", "_law_halves_refused", defArgs (top 58), defBody (top 58), defScope (top 58), [], []⟩
def d__law_turned_right : He.DefD := ⟨("_law_turned_right", none), "_law_turned_right", "_law_turned_right", defArgs (top 59), defBody (top 59), defScope (top 59), [], []⟩
def d__law_chain_stock : He.DefD := ⟨("_law_chain_stock", none), "_law_chain_stock", "_law_chain_stock", defArgs (top 60), defBody (top 60), defScope (top 60), [], []⟩
def d__law_stock_lots : He.DefD := ⟨("_law_stock_lots", none), "_law_stock_lots", "_law_stock_lots", defArgs (top 61), defBody (top 61), defScope (top 61), [], []⟩
def d_law : He.DefD := ⟨("law", none), "law", "law", defArgs (top 62), defBody (top 62), defScope (top 62), [], []⟩
def d_BadNumber___init__ : He.DefD := ⟨("BadNumber", some "__init__"), "__init__", "BadNumber.__init__", defArgs (meth 3 0), defBody (meth 3 0), defScope (meth 3 0), [], []⟩
def d_BadSet___init__ : He.DefD := ⟨("BadSet", some "__init__"), "__init__", "BadSet.__init__", defArgs (meth 5 0), defBody (meth 5 0), defScope (meth 5 0), [], []⟩
def d_BadRun___init__ : He.DefD := ⟨("BadRun", some "__init__"), "__init__", "BadRun.__init__", defArgs (meth 4 0), defBody (meth 4 0), defScope (meth 4 0), [], []⟩
def d_BadDemand___init__ : He.DefD := ⟨("BadDemand", some "__init__"), "__init__", "BadDemand.__init__", defArgs (meth 6 0), defBody (meth 6 0), defScope (meth 6 0), [], []⟩
def fnl : List He.DefD := [d_is_int, d_check_number, d_set_of, d_both, d_common, d_minus, d_pair_of, d__runs_of, d_Market___init__, d_demand_of, d__cover, d_cover, d__misfit, d_is_stock, d__partners, d__halves, d_halves, d__far, d_lots, d__law_draws, d__law_take, d__law_int, d__law_set, d__law_chains, d__law_special, d__law_market, d__law_built, d__law_kind, d__law_parts, d__law_cover, d__law_parted, d__law_even, d__law_number_refused, d__law_halves_refused, d__law_turned_right, d__law_chain_stock, d__law_stock_lots, d_law, d_BadNumber___init__, d_BadSet___init__, d_BadRun___init__, d_BadDemand___init__]
def fal : List He.Fa := [.glo "is_int", .glo "check_number", .glo "set_of", .glo "both", .glo "common", .glo "minus", .glo "pair_of", .glo "_runs_of", .glo "demand_of", .glo "_cover", .glo "cover", .glo "_misfit", .glo "is_stock", .glo "_partners", .glo "_halves", .glo "halves", .glo "_far", .glo "lots", .glo "_law_draws", .glo "_law_take", .glo "_law_int", .glo "_law_set", .glo "_law_chains", .glo "_law_special", .glo "_law_market", .glo "_law_built", .glo "_law_kind", .glo "_law_parts", .glo "_law_cover", .glo "_law_parted", .glo "_law_even", .glo "_law_number_refused", .glo "_law_halves_refused", .glo "_law_turned_right", .glo "_law_chain_stock", .glo "_law_stock_lots", .glo "law", .glo "BadNumber", .glo "BadSet", .glo "BadRun", .glo "BadDemand", .glo "PartsError", .glo "Join", .glo "Lap", .glo "Market", .free "bool", .free "enumerate", .free "int", .free "isinstance", .free "len", .free "list", .free "max", .free "min", .free "range", .free "sorted", .free "str", .free "tuple", .free "super", .cls "Join", .mkr "Join", .noat "Join" "size", .noat "Join" "runs", .noat "Join" "gone", .cls "Lap", .mkr "Lap", .noat "Lap" "size", .noat "Lap" "runs", .noat "Lap" "gone", .noat "BadNumber" "name", .noat "BadSet" "place", .noat "BadRun" "place", .noat "BadDemand" "place", .exm "BadSet" "BadSet" true, .exm "BadNumber" "BadNumber" true, .exm "BadNumber" "BadSet" false, .exm "BadSet" "BadNumber" false]
def exl (K : PySem.W.Frag) : List Bool := [oexB K (He.ga K "BadNumber"), initB K (He.ga K "BadNumber"), oexB K (He.ga K "BadSet"), initB K (He.ga K "BadSet"), oexB K (He.ga K "BadRun"), initB K (He.ga K "BadRun"), oexB K (He.ga K "BadDemand"), initB K (He.ga K "BadDemand"), excCB K (He.ga K "BadNumber"), kinB K (He.ga K "BadNumber") (He.ga K "BadSet"), kitB K (He.ga K "BadNumber") (He.ga K "PartsError"), xfB K (He.ga K "BadNumber"), xfB K (He.ga K "BadSet"), He.conB K "Join" "KIND" (.str "join"), He.conB K "Lap" "KIND" (.str "lap"), supB PW K "Join" "__init__" "Join.__init__" (He.ma K (He.ga K "Market") "__init__"), supB PW K "Lap" "__init__" "Lap.__init__" (He.ma K (He.ga K "Market") "__init__")]
def exb (K : PySem.W.Frag) : Bool := (exl K).all id
theorem ex_at {K : PySem.W.Frag} (h : exb K = true) (i : Nat) {b : Bool} (e : (exl K)[i]? = some b) : b = true := List.all_eq_true.mp h b (List.mem_of_getElem? e)
def swl (K : PySem.W.Frag) : List SupV := [supW K "Join" "__init__", supW K "Lap" "__init__"]
def svl : List SupV := [some ("__init__", "Join.__init__", defArgs (meth 29 1), .stmts (defBody (meth 29 1)), defScope (meth 29 1), mainGlobals, builtinsNs), some ("__init__", "Lap.__init__", defArgs (meth 30 1), .stmts (defBody (meth 30 1)), defScope (meth 30 1), mainGlobals, builtinsNs)]
end L2.Fn.K02
set_option maxRecDepth 100000
set_option maxHeartbeats 0
namespace L2.Fn.K02
open PySem PySem.Spec PyProof.Rows L2 L2.Fn
/-! ### the head -/
abbrev R : PySem.W.OpenRow := PySem.W.OpenLaw.row PySem.Challenge.rw_keptparts_k02_halves_and_lots
abbrev hk : PySem.W.Hook := hookF fal fnl exb swl svl
def ob (s : PySem.W.SharedT) : AlF := obsF fal fnl exb swl (HandSHeadRun.getT s)
theorem ob_eq (s : PySem.W.SharedT) : ob s = hk.obs s.abs := obsF_eq (HandSHeadRun.getT_eq s)
def names : List Str := (["_wall", "PartsError", "BadNumber", "BadRun", "BadSet", "BadDemand", "NotJoin", "is_int", "check_number", "set_of", "both", "common", "minus", "pair_of", "_runs_of", "check_run", "Market", "_moved", "_all_gone", "_row_behind", "_turned", "_point_beside", "_row_beside", "_gone_often", "_check_kind", "Join", "Lap", "demand_of", "_cover", "cover"] : List Str) ++ (["_misfit", "is_stock", "_partners", "_halves", "halves", "_far", "lots", "_law_draws", "_law_take", "_law_int", "_law_set", "_law_chains", "_law_special", "_law_market", "_law_built", "_law_kind", "_law_parts", "_law_cover", "_law_parted", "_law_even", "_law_number_refused", "_law_halves_refused", "_law_turned_right", "_law_chain_stock", "_law_stock_lots"] : List Str)
theorem run (w : World) : HandSHeadRun.RunEq R (PySem.W.view R.prog [62]) hk ob 20000 names w := by
  intro os
  kernel_rfl
end L2.Fn.K02
set_option maxRecDepth 100000
set_option maxHeartbeats 0
namespace L2.Fn.K02
open PySem PySem.Spec PyProof.Rows L2 L2.Fn
section
variable {w : World} {K : PySem.W.Frag} {mg : Str → Option Value} {base h : Heap}
theorem zf (X : K.In h) (G : h.Ns mainGlobals mg) (c : SaysF fal fnl exb swl svl K) : Zf PW w K mg where
  cn_KIND := fun C d e => by
    unfold CN_KIND at e
    rw [List.lookup_cons] at e
    split at e
    · rename_i q; cases e; rw [beq_iff_eq.mp q]
      obtain ⟨u, hu⟩ := He.conB_ok (ex_at c.ex 13 (b := He.conB K "Join" "KIND" (.str "join")) rfl)
      exact ⟨He.cls_ok (c.d.fact 58 (f := .cls "Join") rfl), _, u, hu, fun _ => .str⟩
    · rw [List.lookup_cons] at e
      split at e
      · rename_i q; cases e; rw [beq_iff_eq.mp q]
        obtain ⟨u, hu⟩ := He.conB_ok (ex_at c.ex 14 (b := He.conB K "Lap" "KIND" (.str "lap")) rfl)
        exact ⟨He.cls_ok (c.d.fact 63 (f := .cls "Lap") rfl), _, u, hu, fun _ => .str⟩
      · cases e
  ec_BadNumber := excCB_ok (ex_at c.ex 8 (b := excCB K (He.ga K "BadNumber")) rfl)
  ex_BadSet := fun C b e => by
    unfold SUB_BadSet at e
    split at e
    · rename_i q; cases e; rw [q]; exact He.exm_ok (c.d.fact 72 (f := .exm "BadSet" "BadSet" true) rfl)
    · cases e
  exl_BadNumber := fun C b e => by
    unfold subOf at e
    split at e
    · rename_i q
      cases e
      rcases List.mem_cons.mp q with rfl | q
      · exact He.exm_ok (c.d.fact 73 (f := .exm "BadNumber" "BadNumber" true) rfl)
      rcases List.mem_cons.mp q with rfl | q
      · exact He.exm_ok (c.d.fact 75 (f := .exm "BadSet" "BadNumber" false) rfl)
      cases q
    · cases e
  exl_BadSet := fun C b e => by
    unfold subOf at e
    split at e
    · rename_i q
      cases e
      rcases List.mem_cons.mp q with rfl | q
      · exact He.exm_ok (c.d.fact 74 (f := .exm "BadNumber" "BadSet" false) rfl)
      rcases List.mem_cons.mp q with rfl | q
      · exact He.exm_ok (c.d.fact 72 (f := .exm "BadSet" "BadSet" true) rfl)
      cases q
    · cases e
  f_bool := He.free_ok X G (c.d.fact 45 (f := .free "bool") rfl)
  f_enumerate := He.free_ok X G (c.d.fact 46 (f := .free "enumerate") rfl)
  f_int := He.free_ok X G (c.d.fact 47 (f := .free "int") rfl)
  f_isinstance := He.free_ok X G (c.d.fact 48 (f := .free "isinstance") rfl)
  f_len := He.free_ok X G (c.d.fact 49 (f := .free "len") rfl)
  f_list := He.free_ok X G (c.d.fact 50 (f := .free "list") rfl)
  f_max := He.free_ok X G (c.d.fact 51 (f := .free "max") rfl)
  f_min := He.free_ok X G (c.d.fact 52 (f := .free "min") rfl)
  f_range := He.free_ok X G (c.d.fact 53 (f := .free "range") rfl)
  f_sorted := He.free_ok X G (c.d.fact 54 (f := .free "sorted") rfl)
  f_str := He.free_ok X G (c.d.fact 55 (f := .free "str") rfl)
  f_tuple := He.free_ok X G (c.d.fact 56 (f := .free "tuple") rfl)
  fl_gone := fun C hC => by
    rcases List.mem_cons.mp hC with rfl | hC
    · exact ⟨He.cls_ok (c.d.fact 58 (f := .cls "Join") rfl), He.noat_ok (c.d.fact 62 (f := .noat "Join" "gone") rfl)⟩
    · rcases List.mem_cons.mp hC with rfl | hC
      · exact ⟨He.cls_ok (c.d.fact 63 (f := .cls "Lap") rfl), He.noat_ok (c.d.fact 67 (f := .noat "Lap" "gone") rfl)⟩
      · cases hC
  fl_runs := fun C hC => by
    rcases List.mem_cons.mp hC with rfl | hC
    · exact ⟨He.cls_ok (c.d.fact 58 (f := .cls "Join") rfl), He.noat_ok (c.d.fact 61 (f := .noat "Join" "runs") rfl)⟩
    · rcases List.mem_cons.mp hC with rfl | hC
      · exact ⟨He.cls_ok (c.d.fact 63 (f := .cls "Lap") rfl), He.noat_ok (c.d.fact 66 (f := .noat "Lap" "runs") rfl)⟩
      · cases hC
  fl_size := fun C hC => by
    rcases List.mem_cons.mp hC with rfl | hC
    · exact ⟨He.cls_ok (c.d.fact 58 (f := .cls "Join") rfl), He.noat_ok (c.d.fact 60 (f := .noat "Join" "size") rfl)⟩
    · rcases List.mem_cons.mp hC with rfl | hC
      · exact ⟨He.cls_ok (c.d.fact 63 (f := .cls "Lap") rfl), He.noat_ok (c.d.fact 65 (f := .noat "Lap" "size") rfl)⟩
      · cases hC
  g_BadNumber := He.glo_ok X G (c.d.fact 37 (f := .glo "BadNumber") rfl)
  g_BadSet := He.glo_ok X G (c.d.fact 38 (f := .glo "BadSet") rfl)
  g_PartsError := He.glo_ok X G (c.d.fact 41 (f := .glo "PartsError") rfl)
  kin_BadNumber_BadSet := of_decide_eq_true (ex_at c.ex 9 (b := kinB K (He.ga K "BadNumber") (He.ga K "BadSet")) rfl)
  kit_BadNumber_PartsError := of_decide_eq_true (ex_at c.ex 10 (b := kitB K (He.ga K "BadNumber") (He.ga K "PartsError")) rfl)
  no_BadNumber_name := He.noat_ok (c.d.fact 68 (f := .noat "BadNumber" "name") rfl)
  no_BadSet_place := He.noat_ok (c.d.fact 69 (f := .noat "BadSet" "place") rfl)
  xf_BadNumber := xfB_ok (ex_at c.ex 11 (b := xfB K (He.ga K "BadNumber")) rfl)
  xf_BadSet := xfB_ok (ex_at c.ex 12 (b := xfB K (He.ga K "BadSet")) rfl)
theorem sc_BadNumber : FnScope ["self", "name"] ["self", "name"] (defScope (meth 3 0)) := ⟨rfl, rfl, rfl, by decide +kernel, rfl, by decide +kernel, by decide +kernel⟩
theorem err_BadNumber (X : K.In h) (G : h.Ns mainGlobals mg) (c : SaysF fal fnl exb swl svl K) : ErrP PW w K mg base (cmOf K) "BadNumber" "name" := by
  obtain ⟨fd, F⟩ := c.d.def_ 38 (d := d_BadNumber___init__) rfl
  have hi := ex_at c.ex 1 (b := initB K (He.ga K "BadNumber")) rfl
  exact ⟨oexB_ok (ex_at c.ex 0 (b := oexB K (He.ga K "BadNumber")) rfl), of_decide_eq_true (Bool.and_eq_true_iff.mp hi).1, of_decide_eq_true (Bool.and_eq_true_iff.mp hi).2, ⟨fd, _, exc_init F sc_BadNumber rfl rfl (oexB_ok (ex_at c.ex 0 (b := oexB K (He.ga K "BadNumber")) rfl)) (He.noat_ok (c.d.fact 68 (f := .noat "BadNumber" "name") rfl)), FunD.bindsN F fun _ _ _ _ _ _ us hl => match us, hl with | [_, _], _ => rfl⟩, He.glo_ok X G (c.d.fact 37 (f := .glo "BadNumber") rfl)⟩
theorem sc_BadSet : FnScope ["self", "place"] ["self", "place"] (defScope (meth 5 0)) := ⟨rfl, rfl, rfl, by decide +kernel, rfl, by decide +kernel, by decide +kernel⟩
theorem err_BadSet (X : K.In h) (G : h.Ns mainGlobals mg) (c : SaysF fal fnl exb swl svl K) : ErrP PW w K mg base (cmOf K) "BadSet" "place" := by
  obtain ⟨fd, F⟩ := c.d.def_ 39 (d := d_BadSet___init__) rfl
  have hi := ex_at c.ex 3 (b := initB K (He.ga K "BadSet")) rfl
  exact ⟨oexB_ok (ex_at c.ex 2 (b := oexB K (He.ga K "BadSet")) rfl), of_decide_eq_true (Bool.and_eq_true_iff.mp hi).1, of_decide_eq_true (Bool.and_eq_true_iff.mp hi).2, ⟨fd, _, exc_init F sc_BadSet rfl rfl (oexB_ok (ex_at c.ex 2 (b := oexB K (He.ga K "BadSet")) rfl)) (He.noat_ok (c.d.fact 69 (f := .noat "BadSet" "place") rfl)), FunD.bindsN F fun _ _ _ _ _ _ us hl => match us, hl with | [_, _], _ => rfl⟩, He.glo_ok X G (c.d.fact 38 (f := .glo "BadSet") rfl)⟩
theorem sc_BadRun : FnScope ["self", "place"] ["self", "place"] (defScope (meth 4 0)) := ⟨rfl, rfl, rfl, by decide +kernel, rfl, by decide +kernel, by decide +kernel⟩
theorem err_BadRun (X : K.In h) (G : h.Ns mainGlobals mg) (c : SaysF fal fnl exb swl svl K) : ErrP PW w K mg base (cmOf K) "BadRun" "place" := by
  obtain ⟨fd, F⟩ := c.d.def_ 40 (d := d_BadRun___init__) rfl
  have hi := ex_at c.ex 5 (b := initB K (He.ga K "BadRun")) rfl
  exact ⟨oexB_ok (ex_at c.ex 4 (b := oexB K (He.ga K "BadRun")) rfl), of_decide_eq_true (Bool.and_eq_true_iff.mp hi).1, of_decide_eq_true (Bool.and_eq_true_iff.mp hi).2, ⟨fd, _, exc_init F sc_BadRun rfl rfl (oexB_ok (ex_at c.ex 4 (b := oexB K (He.ga K "BadRun")) rfl)) (He.noat_ok (c.d.fact 70 (f := .noat "BadRun" "place") rfl)), FunD.bindsN F fun _ _ _ _ _ _ us hl => match us, hl with | [_, _], _ => rfl⟩, He.glo_ok X G (c.d.fact 39 (f := .glo "BadRun") rfl)⟩
theorem sc_BadDemand : FnScope ["self", "place"] ["self", "place"] (defScope (meth 6 0)) := ⟨rfl, rfl, rfl, by decide +kernel, rfl, by decide +kernel, by decide +kernel⟩
theorem err_BadDemand (X : K.In h) (G : h.Ns mainGlobals mg) (c : SaysF fal fnl exb swl svl K) : ErrP PW w K mg base (cmOf K) "BadDemand" "place" := by
  obtain ⟨fd, F⟩ := c.d.def_ 41 (d := d_BadDemand___init__) rfl
  have hi := ex_at c.ex 7 (b := initB K (He.ga K "BadDemand")) rfl
  exact ⟨oexB_ok (ex_at c.ex 6 (b := oexB K (He.ga K "BadDemand")) rfl), of_decide_eq_true (Bool.and_eq_true_iff.mp hi).1, of_decide_eq_true (Bool.and_eq_true_iff.mp hi).2, ⟨fd, _, exc_init F sc_BadDemand rfl rfl (oexB_ok (ex_at c.ex 6 (b := oexB K (He.ga K "BadDemand")) rfl)) (He.noat_ok (c.d.fact 71 (f := .noat "BadDemand" "place") rfl)), FunD.bindsN F fun _ _ _ _ _ _ us hl => match us, hl with | [_, _], _ => rfl⟩, He.glo_ok X G (c.d.fact 40 (f := .glo "BadDemand") rfl)⟩
theorem sc_Join : SupScope ["self", "size", "runs", "gone"] ["self", "size", "runs", "gone"] (defScope (meth 29 1)) "self" := ⟨rfl, rfl, rfl, by decide +kernel, rfl, rfl, by decide +kernel, by decide +kernel, by decide +kernel, by decide +kernel, by decide +kernel⟩
theorem mak_Join (X : K.In h) (G : h.Ns mainGlobals mg) (c : SaysF fal fnl exb swl svl K) {fdM : FuncData} (FM : FnOk PW w K mg base (L2.CX PW w) 5 (He.ma K (He.ga K "Market") "__init__") fdM ["self", "size", "runs", "gone"] (spOf K (cmOf K) 4 f_Market___init__))
    (hb : KBn K fdM ["self", "size", "runs", "gone"] 3 ["gone"] (fun us ws => us ++ ws) (fun vs zs => vs ++ zs)) : Mak PW w K mg base (cmOf K) "Join" 6 2 ["gone"] f_Join___init__ := by
  have hw : supW K "Join" "__init__" = _ := Option.some.inj (congrArg (fun l : List SupV => l[0]?) c.sw)
  obtain ⟨⟨fd, Sd⟩, Sc⟩ := sup_ok (ex_at c.ex 15 (b := supB PW K "Join" "__init__" "Join.__init__" (He.ma K (He.ga K "Market") "__init__")) rfl) hw
  refine ⟨⟨fd, _, _, fn_sup4 (cm := cmOf K) (C := "Join") Sd sc_Join Sc rfl FM hb (He.free_ok X G (c.d.fact 57 (f := .free "super") rfl)) (by decide +kernel) (by decide) (by decide +kernel) (fun _ _ => rfl) (fun _ _ => rfl) (fun _ => ⟨_, rfl⟩) (fun _ => rfl) (fun _ => rfl) (fun _ => rfl) (fun _ => rfl) (fun _ => rfl) (by decide +kernel), Sd.kall fun _ _ _ _ _ _ _ us ws h1 h2 => match us, ws, h1, h2 with | [_, _, _], [_], _, _ => rfl⟩, He.mkr_ok (c.d.fact 59 (f := .mkr "Join") rfl), He.glo_ok X G (c.d.fact 42 (f := .glo "Join") rfl)⟩
theorem sc_Lap : SupScope ["self", "size", "runs", "gone"] ["self", "size", "runs", "gone"] (defScope (meth 30 1)) "self" := ⟨rfl, rfl, rfl, by decide +kernel, rfl, rfl, by decide +kernel, by decide +kernel, by decide +kernel, by decide +kernel, by decide +kernel⟩
theorem mak_Lap (X : K.In h) (G : h.Ns mainGlobals mg) (c : SaysF fal fnl exb swl svl K) {fdM : FuncData} (FM : FnOk PW w K mg base (L2.CX PW w) 5 (He.ma K (He.ga K "Market") "__init__") fdM ["self", "size", "runs", "gone"] (spOf K (cmOf K) 4 f_Market___init__))
    (hb : KBn K fdM ["self", "size", "runs", "gone"] 3 ["gone"] (fun us ws => us ++ ws) (fun vs zs => vs ++ zs)) : Mak PW w K mg base (cmOf K) "Lap" 6 2 ["gone"] f_Lap___init__ := by
  have hw : supW K "Lap" "__init__" = _ := Option.some.inj (congrArg (fun l : List SupV => l[1]?) c.sw)
  obtain ⟨⟨fd, Sd⟩, Sc⟩ := sup_ok (ex_at c.ex 16 (b := supB PW K "Lap" "__init__" "Lap.__init__" (He.ma K (He.ga K "Market") "__init__")) rfl) hw
  refine ⟨⟨fd, _, _, fn_sup4 (cm := cmOf K) (C := "Lap") Sd sc_Lap Sc rfl FM hb (He.free_ok X G (c.d.fact 57 (f := .free "super") rfl)) (by decide +kernel) (by decide) (by decide +kernel) (fun _ _ => rfl) (fun _ _ => rfl) (fun _ => ⟨_, rfl⟩) (fun _ => rfl) (fun _ => rfl) (fun _ => rfl) (fun _ => rfl) (fun _ => rfl) (by decide +kernel), Sd.kall fun _ _ _ _ _ _ _ us ws h1 h2 => match us, ws, h1, h2 with | [_, _, _], [_], _, _ => rfl⟩, He.mkr_ok (c.d.fact 64 (f := .mkr "Lap") rfl), He.glo_ok X G (c.d.fact 43 (f := .glo "Lap") rfl)⟩
theorem asm (X : K.In h) (G : h.Ns mainGlobals mg) (c : SaysF fal fnl exb swl svl K) : ∃ fd, (∀ (s : Shared) (u : Value), BindsTo s fd ⟨[u], []⟩ [("_law_script", u)]) ∧ ∀ base : Heap, K.In base → base.Ns mainGlobals mg → FnOk PW w K mg base (L2.CX PW w) 10 (He.ga K "law") fd ["_law_script"] (spOf K (cmOf K) 1 f_law_v2) := by
  have Z := zf (w := w) X G c
  obtain ⟨fd_is_int, F_is_int⟩ := c.d.def_ 0 (d := d_is_int) rfl
  obtain ⟨fd_check_number, F_check_number⟩ := c.d.def_ 1 (d := d_check_number) rfl
  obtain ⟨fd_set_of, F_set_of⟩ := c.d.def_ 2 (d := d_set_of) rfl
  obtain ⟨fd_both, F_both⟩ := c.d.def_ 3 (d := d_both) rfl
  obtain ⟨fd_common, F_common⟩ := c.d.def_ 4 (d := d_common) rfl
  obtain ⟨fd_minus, F_minus⟩ := c.d.def_ 5 (d := d_minus) rfl
  obtain ⟨fd_pair_of, F_pair_of⟩ := c.d.def_ 6 (d := d_pair_of) rfl
  obtain ⟨fd__runs_of, F__runs_of⟩ := c.d.def_ 7 (d := d__runs_of) rfl
  obtain ⟨fd_Market___init__, F_Market___init__⟩ := c.d.def_ 8 (d := d_Market___init__) rfl
  obtain ⟨fd_demand_of, F_demand_of⟩ := c.d.def_ 9 (d := d_demand_of) rfl
  obtain ⟨fd__cover, F__cover⟩ := c.d.def_ 10 (d := d__cover) rfl
  obtain ⟨fd_cover, F_cover⟩ := c.d.def_ 11 (d := d_cover) rfl
  obtain ⟨fd__misfit, F__misfit⟩ := c.d.def_ 12 (d := d__misfit) rfl
  obtain ⟨fd_is_stock, F_is_stock⟩ := c.d.def_ 13 (d := d_is_stock) rfl
  obtain ⟨fd__partners, F__partners⟩ := c.d.def_ 14 (d := d__partners) rfl
  obtain ⟨fd__halves, F__halves⟩ := c.d.def_ 15 (d := d__halves) rfl
  obtain ⟨fd_halves, F_halves⟩ := c.d.def_ 16 (d := d_halves) rfl
  obtain ⟨fd__far, F__far⟩ := c.d.def_ 17 (d := d__far) rfl
  obtain ⟨fd_lots, F_lots⟩ := c.d.def_ 18 (d := d_lots) rfl
  obtain ⟨fd__law_draws, F__law_draws⟩ := c.d.def_ 19 (d := d__law_draws) rfl
  obtain ⟨fd__law_take, F__law_take⟩ := c.d.def_ 20 (d := d__law_take) rfl
  obtain ⟨fd__law_int, F__law_int⟩ := c.d.def_ 21 (d := d__law_int) rfl
  obtain ⟨fd__law_set, F__law_set⟩ := c.d.def_ 22 (d := d__law_set) rfl
  obtain ⟨fd__law_chains, F__law_chains⟩ := c.d.def_ 23 (d := d__law_chains) rfl
  obtain ⟨fd__law_special, F__law_special⟩ := c.d.def_ 24 (d := d__law_special) rfl
  obtain ⟨fd__law_market, F__law_market⟩ := c.d.def_ 25 (d := d__law_market) rfl
  obtain ⟨fd__law_built, F__law_built⟩ := c.d.def_ 26 (d := d__law_built) rfl
  obtain ⟨fd__law_kind, F__law_kind⟩ := c.d.def_ 27 (d := d__law_kind) rfl
  obtain ⟨fd__law_parts, F__law_parts⟩ := c.d.def_ 28 (d := d__law_parts) rfl
  obtain ⟨fd__law_cover, F__law_cover⟩ := c.d.def_ 29 (d := d__law_cover) rfl
  obtain ⟨fd__law_parted, F__law_parted⟩ := c.d.def_ 30 (d := d__law_parted) rfl
  obtain ⟨fd__law_even, F__law_even⟩ := c.d.def_ 31 (d := d__law_even) rfl
  obtain ⟨fd__law_number_refused, F__law_number_refused⟩ := c.d.def_ 32 (d := d__law_number_refused) rfl
  obtain ⟨fd__law_halves_refused, F__law_halves_refused⟩ := c.d.def_ 33 (d := d__law_halves_refused) rfl
  obtain ⟨fd__law_turned_right, F__law_turned_right⟩ := c.d.def_ 34 (d := d__law_turned_right) rfl
  obtain ⟨fd__law_chain_stock, F__law_chain_stock⟩ := c.d.def_ 35 (d := d__law_chain_stock) rfl
  obtain ⟨fd__law_stock_lots, F__law_stock_lots⟩ := c.d.def_ 36 (d := d__law_stock_lots) rfl
  obtain ⟨fd_law, F_law⟩ := c.d.def_ 37 (d := d_law) rfl
  refine ⟨fd_law, fun s u => FunD.bindsA (ps := ["_law_script"]) F_law (fun _ _ _ _ _ _ us hl => match us, hl with | [_], _ => rfl) s [u] rfl, fun base _ _ => ?_⟩
  have E_BadNumber := err_BadNumber (w := w) (base := base) X G c
  have E_BadSet := err_BadSet (w := w) (base := base) X G c
  have E_BadRun := err_BadRun (w := w) (base := base) X G c
  have E_BadDemand := err_BadDemand (w := w) (base := base) X G c
  have C_is_int : Cal PW w K mg base (cmOf K) "is_int" 1 1 f_is_int := ⟨⟨fd_is_int, ["value"], ok_is_int Z F_is_int, FunD.bindsN F_is_int fun _ _ _ _ _ _ us hl => match us, hl with | [_], _ => rfl⟩, He.glo_ok X G (c.d.fact 0 (f := .glo "is_int") rfl), F_is_int.kp⟩
  have C_check_number : Cal PW w K mg base (cmOf K) "check_number" 3 4 f_check_number := ⟨⟨fd_check_number, ["value", "name", "least", "most"], ok_check_number Z C_is_int E_BadNumber F_check_number, FunD.bindsN F_check_number fun _ _ _ _ _ _ us hl => match us, hl with | [_, _, _, _], _ => rfl⟩, He.glo_ok X G (c.d.fact 1 (f := .glo "check_number") rfl), F_check_number.kp⟩
  have C_set_of : Cal PW w K mg base (cmOf K) "set_of" 4 2 f_set_of := ⟨⟨fd_set_of, ["many", "parts"], ok_set_of Z C_check_number C_is_int E_BadSet F_set_of, FunD.bindsN F_set_of fun _ _ _ _ _ _ us hl => match us, hl with | [_, _], _ => rfl⟩, He.glo_ok X G (c.d.fact 2 (f := .glo "set_of") rfl), F_set_of.kp⟩
  have C_both : Cal PW w K mg base (cmOf K) "both" 1 2 f_both := ⟨⟨fd_both, ["one", "other"], ok_both Z F_both, FunD.bindsN F_both fun _ _ _ _ _ _ us hl => match us, hl with | [_, _], _ => rfl⟩, He.glo_ok X G (c.d.fact 3 (f := .glo "both") rfl), F_both.kp⟩
  have C_common : Cal PW w K mg base (cmOf K) "common" 1 2 f_common := ⟨⟨fd_common, ["one", "other"], ok_common Z F_common, FunD.bindsN F_common fun _ _ _ _ _ _ us hl => match us, hl with | [_, _], _ => rfl⟩, He.glo_ok X G (c.d.fact 4 (f := .glo "common") rfl), F_common.kp⟩
  have C_minus : Cal PW w K mg base (cmOf K) "minus" 1 2 f_minus := ⟨⟨fd_minus, ["one", "other"], ok_minus Z F_minus, FunD.bindsN F_minus fun _ _ _ _ _ _ us hl => match us, hl with | [_, _], _ => rfl⟩, He.glo_ok X G (c.d.fact 5 (f := .glo "minus") rfl), F_minus.kp⟩
  have C_pair_of : Cal PW w K mg base (cmOf K) "pair_of" 2 2 f_pair_of := ⟨⟨fd_pair_of, ["size", "run"], ok_pair_of Z C_is_int F_pair_of, FunD.bindsN F_pair_of fun _ _ _ _ _ _ us hl => match us, hl with | [_, _], _ => rfl⟩, He.glo_ok X G (c.d.fact 6 (f := .glo "pair_of") rfl), F_pair_of.kp⟩
  have C__runs_of : Cal PW w K mg base (cmOf K) "_runs_of" 3 2 f__runs_of := ⟨⟨fd__runs_of, ["size", "runs"], ok__runs_of Z C_pair_of E_BadRun F__runs_of, FunD.bindsN F__runs_of fun _ _ _ _ _ _ us hl => match us, hl with | [_, _], _ => rfl⟩, He.glo_ok X G (c.d.fact 7 (f := .glo "_runs_of") rfl), F__runs_of.kp⟩
  have hb : KBn K fd_Market___init__ ["self", "size", "runs", "gone"] 3 ["gone"] (fun us ws => us ++ ws) (fun vs zs => vs ++ zs) := FunD.kall F_Market___init__ fun _ _ _ _ _ _ us ws h1 h2 => match us, ws, h1, h2 with | [_, _, _], [_], _, _ => rfl
  have FM := ok_Market___init__ (base := base) Z C_check_number C__runs_of C_set_of F_Market___init__
  have M_Join := mak_Join (w := w) X G c FM hb
  have M_Lap := mak_Lap (w := w) X G c FM hb
  have C_demand_of : Cal PW w K mg base (cmOf K) "demand_of" 3 2 f_demand_of := ⟨⟨fd_demand_of, ["market", "demand"], ok_demand_of Z C_is_int E_BadDemand F_demand_of, FunD.bindsN F_demand_of fun _ _ _ _ _ _ us hl => match us, hl with | [_, _], _ => rfl⟩, He.glo_ok X G (c.d.fact 8 (f := .glo "demand_of") rfl), F_demand_of.kp⟩
  have C__cover : Cal PW w K mg base (cmOf K) "_cover" 1 2 f__cover := ⟨⟨fd__cover, ["market", "parts"], ok__cover Z F__cover, FunD.bindsN F__cover fun _ _ _ _ _ _ us hl => match us, hl with | [_, _], _ => rfl⟩, He.glo_ok X G (c.d.fact 9 (f := .glo "_cover") rfl), F__cover.kp⟩
  have C_cover : Cal PW w K mg base (cmOf K) "cover" 5 2 f_cover := ⟨⟨fd_cover, ["market", "parts"], ok_cover Z C__cover C_set_of F_cover, FunD.bindsN F_cover fun _ _ _ _ _ _ us hl => match us, hl with | [_, _], _ => rfl⟩, He.glo_ok X G (c.d.fact 10 (f := .glo "cover") rfl), F_cover.kp⟩
  have C__misfit : Cal PW w K mg base (cmOf K) "_misfit" 2 3 f__misfit := ⟨⟨fd__misfit, ["market", "row", "parts"], ok__misfit Z C__cover F__misfit, FunD.bindsN F__misfit fun _ _ _ _ _ _ us hl => match us, hl with | [_, _, _], _ => rfl⟩, He.glo_ok X G (c.d.fact 11 (f := .glo "_misfit") rfl), F__misfit.kp⟩
  have C_is_stock : Cal PW w K mg base (cmOf K) "is_stock" 5 3 f_is_stock := ⟨⟨fd_is_stock, ["market", "demand", "parts"], ok_is_stock Z C_demand_of C_set_of C_common C__misfit F_is_stock, FunD.bindsN F_is_stock fun _ _ _ _ _ _ us hl => match us, hl with | [_, _, _], _ => rfl⟩, He.glo_ok X G (c.d.fact 12 (f := .glo "is_stock") rfl), F_is_stock.kp⟩
  have C__partners : Cal PW w K mg base (cmOf K) "_partners" 1 2 f__partners := ⟨⟨fd__partners, ["market", "parts"], ok__partners Z F__partners, FunD.bindsN F__partners fun _ _ _ _ _ _ us hl => match us, hl with | [_, _], _ => rfl⟩, He.glo_ok X G (c.d.fact 13 (f := .glo "_partners") rfl), F__partners.kp⟩
  have C__halves : Cal PW w K mg base (cmOf K) "_halves" 2 2 f__halves := ⟨⟨fd__halves, ["market", "parts"], ok__halves Z C__partners C_minus F__halves, FunD.bindsN F__halves fun _ _ _ _ _ _ us hl => match us, hl with | [_, _], _ => rfl⟩, He.glo_ok X G (c.d.fact 14 (f := .glo "_halves") rfl), F__halves.kp⟩
  have C_halves : Cal PW w K mg base (cmOf K) "halves" 5 2 f_halves := ⟨⟨fd_halves, ["market", "parts"], ok_halves Z C__halves C_set_of F_halves, FunD.bindsN F_halves fun _ _ _ _ _ _ us hl => match us, hl with | [_, _], _ => rfl⟩, He.glo_ok X G (c.d.fact 15 (f := .glo "halves") rfl), F_halves.kp⟩
  have C__far : Cal PW w K mg base (cmOf K) "_far" 1 2 f__far := ⟨⟨fd__far, ["covers", "size"], ok__far Z F__far, FunD.bindsN F__far fun _ _ _ _ _ _ us hl => match us, hl with | [_, _], _ => rfl⟩, He.glo_ok X G (c.d.fact 16 (f := .glo "_far") rfl), F__far.kp⟩
  have C_lots : Cal PW w K mg base (cmOf K) "lots" 6 3 f_lots := ⟨⟨fd_lots, ["market", "parts", "number"], ok_lots Z C_set_of C_check_number C_cover C__far C__halves C_both F_lots, FunD.bindsN F_lots fun _ _ _ _ _ _ us hl => match us, hl with | [_, _, _], _ => rfl⟩, He.glo_ok X G (c.d.fact 17 (f := .glo "lots") rfl), F_lots.kp⟩
  have C__law_draws : Cal PW w K mg base (cmOf K) "_law_draws" 1 1 f__law_draws := ⟨⟨fd__law_draws, ["_law_script"], ok__law_draws Z F__law_draws, FunD.bindsN F__law_draws fun _ _ _ _ _ _ us hl => match us, hl with | [_], _ => rfl⟩, He.glo_ok X G (c.d.fact 18 (f := .glo "_law_draws") rfl), F__law_draws.kp⟩
  have C__law_take : Cal PW w K mg base (cmOf K) "_law_take" 1 2 f__law_take := ⟨⟨fd__law_take, ["_law_draws_here", "_law_many"], ok__law_take Z F__law_take, FunD.bindsN F__law_take fun _ _ _ _ _ _ us hl => match us, hl with | [_, _], _ => rfl⟩, He.glo_ok X G (c.d.fact 19 (f := .glo "_law_take") rfl), F__law_take.kp⟩
  have C__law_int : Cal PW w K mg base (cmOf K) "_law_int" 1 1 f__law_int := ⟨⟨fd__law_int, ["_law_value"], ok__law_int Z F__law_int, FunD.bindsN F__law_int fun _ _ _ _ _ _ us hl => match us, hl with | [_], _ => rfl⟩, He.glo_ok X G (c.d.fact 20 (f := .glo "_law_int") rfl), F__law_int.kp⟩
  have C__law_set : Cal PW w K mg base (cmOf K) "_law_set" 2 2 f__law_set := ⟨⟨fd__law_set, ["_law_value", "_law_many"], ok__law_set Z C__law_int F__law_set, FunD.bindsN F__law_set fun _ _ _ _ _ _ us hl => match us, hl with | [_, _], _ => rfl⟩, He.glo_ok X G (c.d.fact 21 (f := .glo "_law_set") rfl), F__law_set.kp⟩
  have C__law_chains : Cal PW w K mg base (cmOf K) "_law_chains" 2 2 f__law_chains := ⟨⟨fd__law_chains, ["_law_draws_here", "_law_size"], ok__law_chains Z C__law_take F__law_chains, FunD.bindsN F__law_chains fun _ _ _ _ _ _ us hl => match us, hl with | [_, _], _ => rfl⟩, He.glo_ok X G (c.d.fact 22 (f := .glo "_law_chains") rfl), F__law_chains.kp⟩
  have C__law_special : Cal PW w K mg base (cmOf K) "_law_special" 2 1 f__law_special_v2 := ⟨⟨fd__law_special, ["_law_draws_here"], ok__law_special Z C__law_take F__law_special, FunD.bindsN F__law_special fun _ _ _ _ _ _ us hl => match us, hl with | [_], _ => rfl⟩, He.glo_ok X G (c.d.fact 23 (f := .glo "_law_special") rfl), F__law_special.kp⟩
  have C__law_market : Cal PW w K mg base (cmOf K) "_law_market" 3 2 f__law_market_v2 := ⟨⟨fd__law_market, ["_law_draws_here", "_law_most"], ok__law_market Z C__law_take C__law_special C__law_chains F__law_market, FunD.bindsN F__law_market fun _ _ _ _ _ _ us hl => match us, hl with | [_, _], _ => rfl⟩, He.glo_ok X G (c.d.fact 24 (f := .glo "_law_market") rfl), F__law_market.kp⟩
  have C__law_built : Cal PW w K mg base (cmOf K) "_law_built" 8 4 f__law_built := ⟨⟨fd__law_built, ["_law_kind_here", "_law_size", "_law_runs", "_law_absent"], ok__law_built Z M_Join M_Lap F__law_built, FunD.bindsN F__law_built fun _ _ _ _ _ _ us hl => match us, hl with | [_, _, _, _], _ => rfl⟩, He.glo_ok X G (c.d.fact 25 (f := .glo "_law_built") rfl), F__law_built.kp⟩
  have C__law_kind : Cal PW w K mg base (cmOf K) "_law_kind" 2 1 f__law_kind := ⟨⟨fd__law_kind, ["_law_draws_here"], ok__law_kind Z C__law_take F__law_kind, FunD.bindsN F__law_kind fun _ _ _ _ _ _ us hl => match us, hl with | [_], _ => rfl⟩, He.glo_ok X G (c.d.fact 26 (f := .glo "_law_kind") rfl), F__law_kind.kp⟩
  have C__law_parts : Cal PW w K mg base (cmOf K) "_law_parts" 2 2 f__law_parts := ⟨⟨fd__law_parts, ["_law_draws_here", "_law_many"], ok__law_parts Z C__law_take F__law_parts, FunD.bindsN F__law_parts fun _ _ _ _ _ _ us hl => match us, hl with | [_, _], _ => rfl⟩, He.glo_ok X G (c.d.fact 27 (f := .glo "_law_parts") rfl), F__law_parts.kp⟩
  have C__law_cover : Cal PW w K mg base (cmOf K) "_law_cover" 1 3 f__law_cover := ⟨⟨fd__law_cover, ["_law_size", "_law_runs", "_law_parts_here"], ok__law_cover Z F__law_cover, FunD.bindsN F__law_cover fun _ _ _ _ _ _ us hl => match us, hl with | [_, _, _], _ => rfl⟩, He.glo_ok X G (c.d.fact 28 (f := .glo "_law_cover") rfl), F__law_cover.kp⟩
  have C__law_parted : Cal PW w K mg base (cmOf K) "_law_parted" 3 3 f__law_parted := ⟨⟨fd__law_parted, ["_law_told", "_law_parts_here", "_law_many"], ok__law_parted Z C__law_set F__law_parted, FunD.bindsN F__law_parted fun _ _ _ _ _ _ us hl => match us, hl with | [_, _, _], _ => rfl⟩, He.glo_ok X G (c.d.fact 29 (f := .glo "_law_parted") rfl), F__law_parted.kp⟩
  have C__law_even : Cal PW w K mg base (cmOf K) "_law_even" 2 4 f__law_even := ⟨⟨fd__law_even, ["_law_size", "_law_runs", "_law_told", "_law_parts_here"], ok__law_even Z C__law_cover F__law_even, FunD.bindsN F__law_even fun _ _ _ _ _ _ us hl => match us, hl with | [_, _, _, _], _ => rfl⟩, He.glo_ok X G (c.d.fact 30 (f := .glo "_law_even") rfl), F__law_even.kp⟩
  have C__law_number_refused : Cal PW w K mg base (cmOf K) "_law_number_refused" 7 3 f__law_number_refused := ⟨⟨fd__law_number_refused, ["_law_market_here", "_law_parts_here", "_law_number"], ok__law_number_refused Z C_lots F__law_number_refused, FunD.bindsN F__law_number_refused fun _ _ _ _ _ _ us hl => match us, hl with | [_, _, _], _ => rfl⟩, He.glo_ok X G (c.d.fact 31 (f := .glo "_law_number_refused") rfl), F__law_number_refused.kp⟩
  have C__law_halves_refused : Cal PW w K mg base (cmOf K) "_law_halves_refused" 6 2 f__law_halves_refused := ⟨⟨fd__law_halves_refused, ["_law_market_here", "_law_parts_here"], ok__law_halves_refused Z C_halves F__law_halves_refused, FunD.bindsN F__law_halves_refused fun _ _ _ _ _ _ us hl => match us, hl with | [_, _], _ => rfl⟩, He.glo_ok X G (c.d.fact 32 (f := .glo "_law_halves_refused") rfl), F__law_halves_refused.kp⟩
  have C__law_turned_right : Cal PW w K mg base (cmOf K) "_law_turned_right" 7 5 f__law_turned_right := ⟨⟨fd__law_turned_right, ["_law_market_here", "_law_size", "_law_runs", "_law_parts_here", "_law_number"], ok__law_turned_right Z C_halves C_lots C__law_parted C__law_even C__law_halves_refused F__law_turned_right, FunD.bindsN F__law_turned_right fun _ _ _ _ _ _ us hl => match us, hl with | [_, _, _, _, _], _ => rfl⟩, He.glo_ok X G (c.d.fact 33 (f := .glo "_law_turned_right") rfl), F__law_turned_right.kp⟩
  have C__law_chain_stock : Cal PW w K mg base (cmOf K) "_law_chain_stock" 2 3 f__law_chain_stock := ⟨⟨fd__law_chain_stock, ["_law_draws_here", "_law_kind_here", "_law_size"], ok__law_chain_stock Z C__law_take F__law_chain_stock, FunD.bindsN F__law_chain_stock fun _ _ _ _ _ _ us hl => match us, hl with | [_, _, _], _ => rfl⟩, He.glo_ok X G (c.d.fact 34 (f := .glo "_law_chain_stock") rfl), F__law_chain_stock.kp⟩
  have C__law_stock_lots : Cal PW w K mg base (cmOf K) "_law_stock_lots" 9 3 f__law_stock_lots := ⟨⟨fd__law_stock_lots, ["_law_draws_here", "_law_kind_here", "_law_size"], ok__law_stock_lots Z C__law_chain_stock C__law_built C_lots C__law_parted C_is_stock C__law_take F__law_stock_lots, FunD.bindsN F__law_stock_lots fun _ _ _ _ _ _ us hl => match us, hl with | [_, _, _], _ => rfl⟩, He.glo_ok X G (c.d.fact 35 (f := .glo "_law_stock_lots") rfl), F__law_stock_lots.kp⟩
  exact ok_law Z C__law_draws C__law_kind C__law_market C__law_built C__law_parts C__law_take C_halves C__law_parted C__law_even C_lots C__law_turned_right C_cover C__law_cover C__law_number_refused C__law_stock_lots F_law
end
end L2.Fn.K02
set_option maxRecDepth 100000
set_option maxHeartbeats 4000000
/-! FnP: what the functions compute, run from the end. -/
namespace L2.Fn
open PySem PySem.Spec PyProof.Rows L2

def ev {α : Type} (m : ME α) (ρ : Slots) (Q : Ex α → Prop) : Prop := ∃ r, m ρ = some r ∧ Q r
def run (m : MS) (ρ : Slots) (Q : Out → Prop) : Prop := ∃ r, m ρ = some r ∧ Q r
def cal (f : Fun') (ss : List S) (Q : CR → Prop) : Prop := ∃ r, f ss = some r ∧ Q r
def gev (g : MG) (s : S) (ρ : Slots) (Q : Slots → Prop) : Prop := ∃ r, g s ρ = some r ∧ Q r
def gevs (g : MGs) (s : List D) (ρ : Slots) (Q : Slots → Prop) : Prop := ∃ r, g s ρ = some r ∧ Q r
/-- behind a value -/
def okx {α : Type} (k : α → Slots → Prop) (x : Str → List (Str × D) → Slots → Prop) : Ex α → Prop
  | .ok a ρ => k a ρ
  | .ex C fs ρ => x C fs ρ
/-- behind a statement -/
def nxt (k : Slots → Prop) (Q : Out → Prop) : Out → Prop
  | .nx ρ => k ρ
  | r => Q r
section
variable {α β : Type} {m : ME α} {k : α → ME β} {ρ : Slots} {Q : Ex α → Prop} {QB : Ex β → Prop} {R : Out → Prop} {a : α} {kk : α → Slots → Prop} {x : Str → List (Str × D) → Slots → Prop} {ks : α → MS}
@[simp] theorem okx_ok : okx kk x (.ok a ρ) = kk a ρ := rfl
@[simp] theorem okx_ex {C : Str} {fs : List (Str × D)} : okx kk x (.ex C fs ρ) = x C fs ρ := rfl
@[simp] theorem nxt_nx {k : Slots → Prop} : nxt k R (.nx ρ) = k ρ := rfl
@[simp] theorem nxt_rt {k : Slots → Prop} {s : S} : nxt k R (.rt s ρ) = R (.rt s ρ) := rfl
@[simp] theorem nxt_ex {k : Slots → Prop} {C : Str} {fs : List (Str × D)} : nxt k R (.ex C fs ρ) = R (.ex C fs ρ) := rfl
@[simp] theorem nxt_bk {k : Slots → Prop} : nxt k R (.bk ρ) = R (.bk ρ) := rfl
@[simp] theorem nxt_ct {k : Slots → Prop} : nxt k R (.ct ρ) = R (.ct ρ) := rfl
theorem ev_some {r : Ex α} (h : m ρ = some r) : ev m ρ Q ↔ Q r := ⟨fun ⟨r', h1, h2⟩ => by rw [h] at h1; cases h1; exact h2, fun q => ⟨r, h, q⟩⟩
theorem ev_none (h : m ρ = none) : ev m ρ Q ↔ False := ⟨fun ⟨r', h1, h2⟩ => (by rw [h] at h1; cases h1), False.elim⟩
@[simp] theorem ev_bnd : ev (m.bnd k) ρ QB ↔ ev m ρ (okx (fun a ρ' => ev (k a) ρ' QB) fun C fs ρ' => QB (.ex C fs ρ')) := by
  unfold ev ME.bnd
  cases q : m ρ with
  | none => simp
  | some r => cases r <;> simp
@[simp] theorem ev_ret : ev (ret a) ρ Q ↔ Q (.ok a ρ) := ev_some rfl
@[simp] theorem ev_opt_some : ev (opt (some a)) ρ Q ↔ Q (.ok a ρ) := ev_some rfl
@[simp] theorem ev_opt_none : ev (opt (none : Option α)) ρ Q ↔ False := ev_none rfl
@[simp] theorem ev_no : ev (fun _ => none : ME α) ρ Q ↔ False := ev_none rfl
@[simp] theorem ev_if {c : Prop} [Decidable c] {m1 m2 : ME α} : ev (if c then m1 else m2) ρ Q ↔ (if c then ev m1 ρ Q else ev m2 ρ Q) := by split <;> rfl
@[simp] theorem run_thn : run (m.thn ks) ρ R ↔ ev m ρ (okx (fun a ρ' => run (ks a) ρ' R) fun C fs ρ' => R (.ex C fs ρ')) := by
  unfold ev run ME.thn
  cases q : m ρ with
  | none => simp
  | some r => cases r <;> simp
theorem run_some {s : MS} {r : Out} (h : s ρ = some r) : run s ρ R ↔ R r := ⟨fun ⟨r', h1, h2⟩ => by rw [h] at h1; cases h1; exact h2, fun q => ⟨r, h, q⟩⟩
theorem run_none {s : MS} (h : s ρ = none) : run s ρ R ↔ False := ⟨fun ⟨r', h1, h2⟩ => (by rw [h] at h1; cases h1), False.elim⟩
@[simp] theorem run_lam_some {r : Slots → Out} : run (fun ρ => some (r ρ)) ρ R ↔ R (r ρ) := run_some rfl
@[simp] theorem run_seq {s t : MS} : run (sSeq s t) ρ R ↔ run s ρ (nxt (fun ρ' => run t ρ' R) R) := by
  unfold run sSeq
  cases q : s ρ with
  | none => simp
  | some r => cases r <;> simp
@[simp] theorem run_nil : run sNil ρ R ↔ R (.nx ρ) := run_some rfl
@[simp] theorem run_break : run sBreak ρ R ↔ R (.bk ρ) := run_some rfl
@[simp] theorem run_cont : run sCont ρ R ↔ R (.ct ρ) := run_some rfl
@[simp] theorem run_retN : run sRetN ρ R ↔ R (.rt (.val .non) ρ) := run_some rfl
@[simp] theorem run_ret {mo : ME S} : run (sRet mo) ρ R ↔ ev mo ρ (okx (fun s ρ' => R (.rt s ρ')) fun C fs ρ' => R (.ex C fs ρ')) := by unfold sRet; rw [run_thn]; simp only [run_lam_some]
@[simp] theorem run_drop : run (sDrop m) ρ R ↔ ev m ρ (okx (fun _ ρ' => R (.nx ρ')) fun C fs ρ' => R (.ex C fs ρ')) := by unfold sDrop; rw [run_thn]; simp only [run_lam_some]
@[simp] theorem run_ite {c : Bool} {s t : MS} : run (if c = true then s else t) ρ R ↔ (if c = true then run s ρ R else run t ρ R) := by split <;> rfl
@[simp] theorem run_if {c : ME Bool} {s t : MS} : run (sIf c s t) ρ R ↔ ev c ρ (okx (fun b ρ' => if b = true then run s ρ' R else run t ρ' R) fun C fs ρ' => R (.ex C fs ρ')) := by unfold sIf; rw [run_thn]; simp only [run_ite]
@[simp] theorem run_asg {mo : ME S} {g : MG} : run (sAsg mo g) ρ R ↔ ev mo ρ (okx (fun s ρ' => gev g s ρ' fun ρ'' => R (.nx ρ'')) fun C fs ρ' => R (.ex C fs ρ')) := by
  unfold sAsg; rw [run_thn]
  have : ∀ s ρ', run (fun ρ => (g s ρ).map Out.nx) ρ' R ↔ gev g s ρ' fun ρ'' => R (.nx ρ'') := fun s ρ' => by
    unfold run gev
    cases q : g s ρ' <;> simp [q]
  simp only [this]
@[simp] theorem gev_set {i : Nat} {s : S} {q : Slots → Prop} : gev (gSetM i) s ρ q ↔ (i < ρ.length ∧ q (ρ.set i s)) := by
  unfold gev gSetM
  by_cases h : i < ρ.length <;> simp [h]
@[simp] theorem gev_tup {n : Nat} {ms : MGs} {xs : List D} {q : Slots → Prop} : gev (gTupM n ms) (.val (.tup xs)) ρ q ↔ (xs.length = n ∧ gevs ms xs ρ q) := by
  unfold gev gTupM gevs
  by_cases h : xs.length = n <;> simp [h]
@[simp] theorem gevs_nil {q : Slots → Prop} : gevs gNilM [] ρ q ↔ q ρ := by unfold gevs gNilM; simp
@[simp] theorem gevs_cons {m : MG} {ms : MGs} {d : D} {r : List D} {q : Slots → Prop} : gevs (gConsM m ms) (d :: r) ρ q ↔ gev m (.val d) ρ fun ρ' => gevs ms r ρ' q := by
  unfold gevs gConsM gev
  cases h : m (.val d) ρ <;> simp [h]
/-! names -/
@[simp] theorem ev_var {i : Nat} {Q : Ex D → Prop} : ev (mVar i) ρ Q ↔ (match ρ[i]? with
    | some (.val d) => Q (.ok d ρ)
    | some s => (match s.cold with
      | some d => Q (.ok d (ρ.set i (.val d)))
      | none => False)
    | none => False) := by
  unfold ev mVar
  cases ρ[i]? with
  | none => simp
  | some s => cases s <;> simp [S.cold]
@[simp] theorem ev_move {i : Nat} {Q : Ex S → Prop} : ev (mMove i) ρ Q ↔ (match ρ[i]? with
    | some .no => False
    | some s => Q (.ok s (ρ.set i .no))
    | none => False) := by
  unfold ev mMove
  cases ρ[i]? with
  | none => simp
  | some s => cases s <;> simp
@[simp] theorem ev_fldN {L : List Str} {f : Str} {i : Nat} {Q : Ex D → Prop} : ev (mFldN L f i) ρ Q ↔ (match ρ[i]? with
    | some (.ins C fs) => if C ∈ L then ev (opt (fs.lookup f)) ρ Q else False
    | some (.val d) => ev (opt (gFld L f d)) ρ Q
    | _ => False) := by
  unfold mFldN
  cases h : ρ[i]? with
  | none => unfold ev; simp [h]
  | some s =>
    cases s with
    | ins C fs =>
      unfold ev
      simp only [h]
      by_cases q : C ∈ L <;> simp [q]
    | val d => unfold ev; simp only [h]
    | _ => unfold ev; simp [h]
@[simp] theorem ev_ixN {i : Nat} {mb : ME D} {Q : Ex D → Prop} : ev (mIxN i mb) ρ Q ↔ (match ρ[i]? with
    | none => False
    | some .no => False
    | some _ => ev mb ρ (okx (fun y ρ' => match ρ'[i]? with
      | some (.val x) => ev (opt (gIx x y)) ρ' Q
      | some (.lst xs) => ev (opt (gIx (.lst xs) y)) ρ' Q
      | _ => False) fun C fs ρ' => Q (.ex C fs ρ'))) := by
  have key : ev (mb.bnd fun y ρ => match ρ[i]? with
    | some (.val x) => opt (gIx x y) ρ
    | some (.lst xs) => opt (gIx (.lst xs) y) ρ
    | _ => none) ρ Q ↔ ev mb ρ (okx (fun y ρ' => match ρ'[i]? with
      | some (.val x) => ev (opt (gIx x y)) ρ' Q
      | some (.lst xs) => ev (opt (gIx (.lst xs) y)) ρ' Q
      | _ => False) fun C fs ρ' => Q (.ex C fs ρ')) := by
    rw [ev_bnd]
    have : ∀ y ρ', ev (fun ρ => match ρ[i]? with
      | some (.val x) => opt (gIx x y) ρ
      | some (.lst xs) => opt (gIx (.lst xs) y) ρ
      | _ => none : ME D) ρ' Q ↔ (match ρ'[i]? with
      | some (.val x) => ev (opt (gIx x y)) ρ' Q
      | some (.lst xs) => ev (opt (gIx (.lst xs) y)) ρ' Q
      | _ => False) := fun y ρ' => by
      unfold ev
      cases h : ρ'[i]? with
      | none => simp [h]
      | some s => cases s <;> simp [h]
    simp only [this]
  cases h : ρ[i]? with
  | none => exact ev_none (by unfold mIxN; rw [h])
  | some s =>
    cases s with
    | no => exact ev_none (by unfold mIxN; rw [h])
    | _ =>
      rw [← key]
      have e : mIxN i mb ρ = (mb.bnd fun y ρ => match ρ[i]? with
        | some (.val x) => opt (gIx x y) ρ
        | some (.lst xs) => opt (gIx (.lst xs) y) ρ
        | _ => none) ρ := by
        show (match ρ[i]? with
          | none => none
          | some .no => none
          | some _ => _) = _
        rw [h] <;> rfl
      unfold ev
      rw [e]
@[simp] theorem ev_lenN {i : Nat} {Q : Ex D → Prop} : ev (mLenN i) ρ Q ↔ (match ρ[i]? with
    | some (.val d) => ev (opt ((gLen d).map fun n => D.int n)) ρ Q
    | some (.lst xs) => Q (.ok (.int xs.length) ρ)
    | some (.dK kvs) => Q (.ok (.int kvs.length) ρ)
    | _ => False) := by
  unfold ev mLenN
  cases h : ρ[i]? with
  | none => simp
  | some s => cases s <;> simp
@[simp] theorem ev_onList {i : Nat} {k : List D → Option (D × List D)} {Q : Ex S → Prop} : ev (onList i k) ρ Q ↔ (match ρ[i]? with
    | some (.lst xs) => (match k xs with
      | some q => Q (.ok (.val q.1) (ρ.set i (.lst q.2)))
      | none => False)
    | _ => False) := by
  unfold ev onList
  cases h : ρ[i]? with
  | none => simp
  | some s =>
    cases s with
    | lst xs => cases q : k xs <;> simp [q]
    | _ => simp
@[simp] theorem ev_listAt {i : Nat} : ev (listAt i m) ρ Q ↔ (match ρ[i]? with
    | some (.lst _) => ev m ρ Q
    | _ => False) := by
  unfold ev listAt
  cases h : ρ[i]? with
  | none => simp
  | some s => cases s <;> simp
@[simp] theorem ev_onListL {i : Nat} {k : D → List D → Option (D × List D)} {d : D} {Q : Ex S → Prop} : ev ((fun d => onList i (k d)) d) ρ Q ↔ ev (onList i (k d)) ρ Q := Iff.rfl
@[simp] theorem ev_listKN {i : Nat} {Q : Ex S → Prop} : ev (mListKN i) ρ Q ↔ (match ρ[i]? with
    | some (.dK kvs) => Q (.ok (.lst (kvs.map fun kv => keyOut kv.1)) ρ)
    | some (.val (.dK kvs)) => Q (.ok (.lst (kvs.map fun kv => keyOut kv.1)) ρ)
    | _ => False) := by
  unfold ev mListKN
  cases h : ρ[i]? with
  | none => simp
  | some s =>
    cases s with
    | val d => cases d <;> simp
    | _ => simp
/-! calls -/
@[simp] theorem cal_def {n : Nat} {l : List Bool} {s : MS} {ss : List S} {C : CR → Prop} : cal (runDef n l s) ss C ↔ run s (ss ++ List.replicate n .no) (fun o => match o with
    | .nx ρ => C (.ret (.val .non) (maskL l ρ))
    | .rt s ρ => C (.ret s (maskL l ρ))
    | .ex E fs ρ => C (.exc E fs (maskL l ρ))
    | _ => False) := by
  unfold cal runDef run
  cases q : s (ss ++ List.replicate n .no) with
  | none => simp
  | some r => cases r <;> simp
@[simp] theorem ev_call {f : Fun'} {ms : ME (List Ar)} {Q : Ex S → Prop} : ev (mCall f [] ms) ρ Q ↔ ev ms ρ (okx (fun as ρ' => ioOk as = true ∧ cal f (as.map (Ar.s ρ')) fun c => Q (c.back as ρ')) fun C fs ρ' => Q (.ex C fs ρ')) := by
  unfold mCall
  rw [ev_bnd]
  have : ∀ as ρ', ev (fun ρ => if ioOk as = true then (f ((as ++ [].map Ar.val).map (Ar.s ρ))).map (CR.back (as ++ [].map Ar.val) ρ) else none : ME S) ρ' Q ↔ (ioOk as = true ∧ cal f (as.map (Ar.s ρ')) fun c => Q (c.back as ρ')) := fun as ρ' => by
    unfold ev cal
    by_cases h : ioOk as = true
    · simp only [h, if_true, List.map_nil, List.append_nil, true_and]
      cases q : f (as.map (Ar.s ρ')) <;> simp
    · simp [h]
  simp only [this]
@[simp] theorem ev_io {j : Nat} {ms : ME (List Ar)} {Q : Ex (List Ar) → Prop} : ev (mIo j ms) ρ Q ↔ (match ρ[j]? with
    | some .no => False
    | some _ => ev ms ρ (okx (fun as ρ' => Q (.ok (.io j :: as) ρ')) fun C fs ρ' => Q (.ex C fs ρ'))
    | none => False) := by
  unfold mIo
  have : ev (aIo j ms) ρ Q ↔ ev ms ρ (okx (fun as ρ' => Q (.ok (.io j :: as) ρ')) fun C fs ρ' => Q (.ex C fs ρ')) := by unfold aIo; rw [ev_bnd]; simp only [ev_ret]
  rw [← this]
  unfold ev
  cases h : ρ[j]? with
  | none => simp [h]
  | some s => cases s <;> simp [h]
/-! loops -/
@[simp] theorem run_for {it : ME (List D)} {g : MG} {b : MS} : run (sFor it g b) ρ R ↔ ev it ρ (okx (fun ds ρ' => run (sLoop g b ds) ρ' R) fun C fs ρ' => R (.ex C fs ρ')) := by unfold sFor; rw [run_thn]
/-- a for, its invariant by what is done -/
theorem run_loop {γ : Type} {f : γ → D} {g : MG} {b : MS} (xs : List γ) (I : List γ → Slots → Prop) (h0 : I [] ρ)
    (hs : ∀ done x rest ρ, xs = done ++ x :: rest → I done ρ → gev g (.val (f x)) ρ fun ρ1 => run b ρ1 fun o => match o with
      | .nx ρ' => I (done ++ [x]) ρ'
      | .ct ρ' => I (done ++ [x]) ρ'
      | .bk ρ' => R (.nx ρ')
      | r => R r)
    (he : ∀ ρ, I xs ρ → R (.nx ρ)) : run (sLoop g b (xs.map f)) ρ R := by
  suffices H : ∀ rest done ρ, xs = done ++ rest → I done ρ → run (sLoop g b (rest.map f)) ρ R from H xs [] ρ rfl h0
  intro rest
  induction rest with
  | nil => intro done ρ e i; rw [List.append_nil] at e; subst e; exact ⟨_, rfl, he ρ i⟩
  | cons x rest ih =>
    intro done ρ e i
    obtain ⟨ρ1, h1, r, h2, h3⟩ := hs done x rest ρ e i
    unfold run
    simp only [List.map_cons, sLoop, h1, h2]
    cases r with
    | nx ρ' => exact ih (done ++ [x]) ρ' (by simp [e]) h3
    | ct ρ' => exact ih (done ++ [x]) ρ' (by simp [e]) h3
    | bk ρ' => exact ⟨_, rfl, h3⟩
    | rt s ρ' => exact ⟨_, rfl, h3⟩
    | ex C fs ρ' => exact ⟨_, rfl, h3⟩
/-- a comprehension, its invariant by what is done and the items so far -/
theorem ev_lcI {γ : Type} {f : γ → D} {g : MG} {tt : ME Bool} {te : ME D} {vs : List Nat} (xs : List γ) (I : List γ → List D → Slots → Prop) (h0 : I [] [] ρ)
    (hs : ∀ done x rest acc ρ, xs = done ++ x :: rest → I done acc ρ → gev g (.val (f x)) (wipeE ρ vs) fun ρ1 => ev tt ρ1 (okx (fun b ρ2 => if b = true then ev te ρ2 (okx (fun y ρ3 => I (done ++ [x]) (acc ++ [y]) (wipeE ρ3 vs)) fun _ _ _ => False) else I (done ++ [x]) acc (wipeE ρ2 vs)) fun _ _ _ => False)) :
    ∃ acc ρ', lcL g tt te vs (xs.map f) [] ρ = some (acc, ρ') ∧ I xs acc ρ' := by
  suffices H : ∀ rest done acc ρ, xs = done ++ rest → I done acc ρ → ∃ acc' ρ', lcL g tt te vs (rest.map f) acc ρ = some (acc', ρ') ∧ I xs acc' ρ' from H xs [] [] ρ rfl h0
  intro rest
  induction rest with
  | nil => intro done acc ρ e i; rw [List.append_nil] at e; subst e; exact ⟨_, _, rfl, i⟩
  | cons x rest ih =>
    intro done acc ρ e i
    obtain ⟨ρ1, h1, r, h2, h3⟩ := hs done x rest acc ρ e i
    simp only [List.map_cons, lcL, h1, h2]
    cases r with
    | ex C fs ρ' => exact h3.elim
    | ok c ρ2 =>
      cases c with
      | false => exact ih (done ++ [x]) acc _ (by simp [e]) h3
      | true =>
        obtain ⟨r, h4, h5⟩ := h3
        simp only [h4]
        cases r with
        | ex C fs ρ' => exact h5.elim
        | ok y ρ3 => exact ih (done ++ [x]) (acc ++ [y]) _ (by simp [e]) h5
theorem ev_lc {it : ME (List D)} {g : MG} {tt : ME Bool} {te : ME D} {vs : List Nat} {Q : Ex S → Prop} (h : ev it ρ (okx (fun ds ρ' => ds.length ≤ sizeLine ∧ ∃ acc ρ'', lcL g tt te vs ds [] ρ' = some (acc, ρ'') ∧ Q (.ok (.lst acc) ρ'')) fun C fs ρ' => Q (.ex C fs ρ'))) : ev (mLc it g tt te vs) ρ Q := by
  obtain ⟨r, h1, h2⟩ := h
  unfold mLc ME.bnd ev
  dsimp only
  rw [h1]
  cases r with
  | ex C fs ρ' => exact ⟨_, rfl, h2⟩
  | ok ds ρ' =>
    obtain ⟨h3, acc, ρ'', h4, h5⟩ := h2
    exact ⟨_, by simp only [h3, if_true, h4], h5⟩
end
end L2.Fn
set_option maxRecDepth 100000
set_option maxHeartbeats 4000000
/-! FnQ: operators on known data. -/
namespace L2.Fn
open PySem PySem.Spec PyProof.Rows L2

/-! ### == of a piece of data and itself -/
mutual
theorem eqv_self : ∀ p : PyData, p.canLay0 = true → PyData.eqv p p = true
  | .none, _ => by simp [PyData.eqv]
  | .bool b, _ => by simp [PyData.eqv]
  | .int i, _ => by simp [PyData.eqv]
  | .str x, _ => by simp [PyData.eqv]
  | .list xs, h => by simp only [PyData.eqv]; exact eqvAll_self xs (by simpa [PyData.canLay0] using h)
  | .tuple xs, h => by simp only [PyData.eqv]; exact eqvAll_self xs (by simpa [PyData.canLay0] using h)
  | .dict _, h => by simp [PyData.canLay0] at h
theorem eqvAll_self : ∀ ps : List PyData, PyData.canLayAll0 ps = true → PyData.eqvAll ps ps = true
  | [], _ => by simp [PyData.eqvAll]
  | x :: xs, h => by
    have h' : x.canLay0 = true ∧ PyData.canLayAll0 xs = true := by simpa [PyData.canLayAll0] using h
    simp only [PyData.eqvAll, eqv_self x h'.1, eqvAll_self xs h'.2, Bool.and_self]
end
def Sh (k : Nat) (d : D) : Prop := ∃ p, d.py = some p ∧ p.canLay0 = true ∧ p.depth ≤ k
theorem sh_int {k : Nat} {i : Int} : Sh k (.int i) := ⟨.int i, rfl, by simp [PyData.canLay0], by simp [PyData.depth]⟩
theorem sh_bl {k : Nat} {b : Bool} : Sh k (.bl b) := ⟨.bool b, rfl, by simp [PyData.canLay0], by simp [PyData.depth]⟩
theorem sh_non {k : Nat} : Sh k .non := ⟨.none, rfl, by simp [PyData.canLay0], by simp [PyData.depth]⟩
theorem sh_all {k : Nat} : ∀ {xs : List D}, (∀ x ∈ xs, Sh k x) → ∃ ps, D.pys xs = some ps ∧ PyData.canLayAll0 ps = true ∧ PyData.depthAll ps ≤ k
  | [], _ => ⟨[], rfl, by simp [PyData.canLayAll0], by simp [PyData.depthAll]⟩
  | x :: xs, h => by
    obtain ⟨p, e1, e2, e3⟩ := h x List.mem_cons_self
    obtain ⟨ps, f1, f2, f3⟩ := sh_all (xs := xs) fun y hy => h y (List.mem_cons_of_mem _ hy)
    exact ⟨p :: ps, by simp [D.pys, e1, f1], by simp [PyData.canLayAll0, e2, f2], by simp [PyData.depthAll]; omega⟩
theorem sh_lst {k : Nat} {xs : List D} (h : ∀ x ∈ xs, Sh k x) : Sh (k + 1) (.lst xs) := by
  obtain ⟨ps, e1, e2, e3⟩ := sh_all h
  exact ⟨.list ps, by simp [D.py, e1], by simp [PyData.canLay0, e2], by simp [PyData.depth]; omega⟩
theorem sh_tup {k : Nat} {xs : List D} (h : ∀ x ∈ xs, Sh k x) : Sh (k + 1) (.tup xs) := by
  obtain ⟨ps, e1, e2, e3⟩ := sh_all h
  exact ⟨.tuple ps, by simp [D.py, e1], by simp [PyData.canLay0, e2], by simp [PyData.depth]; omega⟩
theorem Sh.eq {k : Nat} {d : D} (h : Sh k d) (hk : k ≤ 64) : eqD d d = some true := by
  obtain ⟨p, e1, e2, e3⟩ := h
  have : SeqAt.shaped p = true := by
    unfold SeqAt.shaped
    rw [e2, Bool.true_and, decide_eq_true_eq]; omega
  unfold eqD
  simp [e1, this, eqv_self p e2]
/-! ### lists of ints -/
def Js (l : List Int) : List D := l.map D.int
@[simp] theorem Js_length (l : List Int) : (Js l).length = l.length := by simp [Js]
@[simp] theorem Js_nil : Js [] = [] := rfl
@[simp] theorem Js_cons (a : Int) (l : List Int) : Js (a :: l) = .int a :: Js l := rfl
@[simp] theorem Js_append (a b : List Int) : Js (a ++ b) = Js a ++ Js b := by simp [Js]
@[simp] theorem Js_dropLast (a : List Int) : (Js a).dropLast = Js a.dropLast := by simp [Js]
@[simp] theorem Js_reverse (a : List Int) : (Js a).reverse = Js a.reverse := by simp [Js]
theorem Js_get (a : List Int) (i : Nat) : (Js a)[i]? = (a[i]?).map D.int := by simp [Js]
theorem sh_Js {k : Nat} {l : List Int} : ∀ x ∈ Js l, Sh k x := fun x hx => by
  obtain ⟨i, _, rfl⟩ := List.mem_map.mp hx
  exact sh_int
theorem intsD_Js (l : List Int) : intsD (Js l) = some l := intsD_map l
theorem flatsD_Js : ∀ l : List Int, flatsD (Js l) = some (l.map V.int)
  | [] => rfl
  | a :: l => by simp [flatsD, flatD, flatsD_Js l]
theorem inV_int (i : Int) : ∀ l : List Int, inV (.int i) (l.map V.int) = decide (i ∈ l)
  | [] => by simp [inV]
  | a :: l => by
    have ih := inV_int i l
    unfold inV at ih ⊢
    rw [List.map_cons, List.any_cons, ih]
    by_cases h : a = i
    · subst h; simp [eqV]
    · have h2 : i ≠ a := fun e => h e.symm
      simp [eqV, h, h2]
/-! ### operators -/
section
variable {i j : Int}
@[simp] theorem eqD_int : eqD (.int i) (.int j) = some (decide (i = j)) := by
  have s : ∀ k : Int, SeqAt.shaped (.int k) = true := fun k => by simp [SeqAt.shaped, PyData.canLay0, PyData.depth]
  unfold eqD
  simp only [D.py, s, Bool.and_self, if_true, PyData.eqv, Option.some.injEq]
  by_cases h : i = j <;> simp [h]
@[simp] theorem gEq_int : gEq (.int i) (.int j) = some (.val (.bl (decide (i = j)))) := by simp [gEq]
@[simp] theorem gNe_int : gNe (.int i) (.int j) = some (.val (.bl (!decide (i = j)))) := by simp [gNe]
@[simp] theorem gAdd_int : gAdd (.int i) (.int j) = some (.val (.int (i + j))) := rfl
@[simp] theorem gSub_int : gSub (.int i) (.int j) = some (.val (.int (i - j))) := rfl
@[simp] theorem gLt_int : gLt (.int i) (.int j) = some (.val (.bl (decide (i < j)))) := rfl
@[simp] theorem gLe_int : gLe (.int i) (.int j) = some (.val (.bl (decide (i ≤ j)))) := rfl
@[simp] theorem gGt_int : gGt (.int i) (.int j) = some (.val (.bl (decide (j < i)))) := rfl
@[simp] theorem gGe_int : gGe (.int i) (.int j) = some (.val (.bl (decide (j ≤ i)))) := rfl
theorem gMod_int (h : 0 < j) : gMod (.int i) (.int j) = some (.val (.int (i % j))) := by show (if 0 < j then _ else none) = _; rw [if_pos h]
theorem gDiv_int (h : 0 < j) (h2 : j < 1073741824) : gDiv (.int i) (.int j) = some (.val (.int (i / j))) := by show (if CDiv i j then _ else none) = _; rw [if_pos ⟨h, h2⟩]
theorem gMul_int (h1 : -(2 ^ 64) < i) (h2 : i < 2 ^ 64) (h : CMul i j) : gMul (.int i) (.int j) = some (.val (.int (i * j))) := by show (if CMul i j then _ else none) = _; rw [if_pos h]
@[simp] theorem gNeg_int : gNeg (.int i) = some (.int (-i)) := rfl
@[simp] theorem gInt1_int : gInt1 (.int i) = some (.val (.int i)) := rfl
@[simp] theorem gInt1_bl {b : Bool} : gInt1 (.bl b) = some (.val (.int (if b then 1 else 0))) := rfl
@[simp] theorem gAbs_int : gAbs (.int i) = some (.val (.int (if i < 0 then -i else i))) := rfl
@[simp] theorem gMin_int : gMin2 (.int i) (.int j) = some (.val (.int (if j < i then j else i))) := rfl
@[simp] theorem gAddI_int : gAddI (.int i) (.int j) = some (.int (i + j)) := rfl
@[simp] theorem gSubI_int : gSubI (.int i) (.int j) = some (.int (i - j)) := rfl
@[simp] theorem cold_val {d : D} : (S.val d).cold = some d := rfl
@[simp] theorem cold_lst {d : List D} : (S.lst d).cold = some (.lst d) := rfl
@[simp] theorem cold_dK {d : List (Key × D)} : (S.dK d).cold = some (.dK d) := rfl
@[simp] theorem cold_dT {d : List (List Key × D)} : (S.dT d).cold = some (.dT d) := rfl
@[simp] theorem cold_ins {C : Str} {d : List (Str × D)} : (S.ins C d).cold = some (.obj C d) := rfl
@[simp] theorem mask_nil {ρ : Slots} : maskL [] ρ = [] := by cases ρ <;> rfl
@[simp] theorem mask_t {l : List Bool} {s : S} {ρ : Slots} : maskL (true :: l) (s :: ρ) = s :: maskL l ρ := rfl
@[simp] theorem mask_f {l : List Bool} {s : S} {ρ : Slots} : maskL (false :: l) (s :: ρ) = .no :: maskL l ρ := rfl
end
/-! what is unfolded at a run -/
end L2.Fn
set_option maxRecDepth 100000
set_option maxHeartbeats 4000000
/-! FnR: each expression's run, word by word. -/
namespace L2.Fn
open PySem PySem.Spec PyProof.Rows L2
/-- (by exists: its whnf must not run the operator) -/
def opx {α : Type} (o : Option α) (k : α → Prop) : Prop := ∃ a, o = some a ∧ k a
@[simp] theorem opx_some {α : Type} {a : α} {k : α → Prop} : opx (some a) k = k a := by
  apply propext
  constructor
  · intro h
    obtain ⟨b, h, q⟩ := h
    cases h
    exact q
  · intro q
    exact ⟨a, rfl, q⟩
@[simp] theorem opx_none {α : Type} {k : α → Prop} : opx none k = False := by
  apply propext
  constructor
  · intro h
    obtain ⟨b, h, q⟩ := h
    cases h
  · intro q
    exact q.elim
theorem opx_of {α : Type} {o : Option α} {a : α} {k : α → Prop} (h : o = some a) (q : k a) : opx o k := ⟨a, h, q⟩
section
variable {α β : Type} {m ma mb mc : ME D} {mo mo' : ME S} {ms : ME (List D)} {mA mB : ME Bool} {ρ : Slots} {QD : Ex D → Prop} {QS : Ex S → Prop} {QB : Ex Bool → Prop} {QL : Ex (List D) → Prop} {R : Out → Prop}
theorem ev_congr {γ : Type} {m : ME γ} {K K' : γ → Slots → Prop} {x : Str → List (Str × D) → Slots → Prop} (h : ∀ a ρ', K a ρ' ↔ K' a ρ') : ev m ρ (okx K x) ↔ ev m ρ (okx K' x) := by
  have : K = K' := by funext a ρ'; exact propext (h a ρ')
  rw [this]
@[simp] theorem ev_opt {o : Option α} {Q : Ex α → Prop} : ev (opt o) ρ Q ↔ (opx (o) fun a => Q (.ok a ρ)) := by cases o <;> simp
@[simp] theorem ev_cold : ev (mCold mo) ρ QD ↔ ev mo ρ (okx (fun s ρ' => opx (s.cold) fun d => QD (.ok d ρ')) fun C fs ρ' => QD (.ex C fs ρ')) := by simp only [mCold, ev_bnd, ev_opt]
@[simp] theorem ev_warm : ev (mWarm m) ρ QS ↔ ev m ρ (okx (fun d ρ' => QS (.ok (.val d) ρ')) fun C fs ρ' => QS (.ex C fs ρ')) := by simp only [mWarm, ev_bnd, ev_ret]
@[simp] theorem ev_op {g : D → D → Option S} : ev (mOp g ma mb) ρ QS ↔ ev ma ρ (okx (fun x ρ1 => ev mb ρ1 (okx (fun y ρ2 => opx (g x y) fun s => QS (.ok s ρ2)) fun C fs ρ' => QS (.ex C fs ρ'))) fun C fs ρ' => QS (.ex C fs ρ')) := by simp only [mOp, ev_bnd, ev_opt]
@[simp] theorem ev_un {g : D → Option D} : ev (mUn g ma) ρ QD ↔ ev ma ρ (okx (fun x ρ1 => opx (g x) fun s => QD (.ok s ρ1)) fun C fs ρ' => QD (.ex C fs ρ')) := by simp only [mUn, ev_bnd, ev_opt]
@[simp] theorem ev_b1 {g : D → Option S} : ev (mB1 g ma) ρ QS ↔ ev ma ρ (okx (fun x ρ1 => opx (g x) fun s => QS (.ok s ρ1)) fun C fs ρ' => QS (.ex C fs ρ')) := by simp only [mB1, ev_bnd, ev_opt]
@[simp] theorem ev_isT {f : String → Bool} : ev (mIsT f ma) ρ QS ↔ ev ma ρ (okx (fun x ρ1 => opx (gIsT f x) fun s => QS (.ok s ρ1)) fun C fs ρ' => QS (.ex C fs ρ')) := by simp only [mIsT, ev_bnd, ev_opt]
@[simp] theorem ev_test : ev (mTest mo) ρ QB ↔ ev mo ρ (okx (fun s ρ' => match s with
    | .val (.bl b) => QB (.ok b ρ')
    | _ => False) fun C fs ρ' => QB (.ex C fs ρ')) := by
  unfold mTest
  rw [ev_bnd]
  have : ∀ s ρ', ev (match s with
    | S.val (.bl b) => ret b
    | _ => fun _ => none) ρ' QB ↔ (match s with
    | S.val (.bl b) => QB (.ok b ρ')
    | _ => False) := fun s ρ' => by
    cases s with
    | val d => cases d <;> simp
    | _ => simp
  exact ev_congr this
@[simp] theorem ev_and : ev (mAnd mA mB) ρ QB ↔ ev mA ρ (okx (fun b ρ' => if b = true then ev mB ρ' QB else QB (.ok false ρ')) fun C fs ρ' => QB (.ex C fs ρ')) := by simp only [mAnd, ev_bnd, ev_if, ev_ret]
@[simp] theorem ev_or : ev (mOr mA mB) ρ QB ↔ ev mA ρ (okx (fun b ρ' => if b = true then QB (.ok true ρ') else ev mB ρ' QB) fun C fs ρ' => QB (.ex C fs ρ')) := by simp only [mOr, ev_bnd, ev_if, ev_ret]
@[simp] theorem ev_not : ev (mNot mA) ρ QB ↔ ev mA ρ (okx (fun b ρ' => QB (.ok (!b) ρ')) fun C fs ρ' => QB (.ex C fs ρ')) := by simp only [mNot, ev_bnd, ev_ret]
@[simp] theorem ev_ifx {c : ME Bool} {ma mb : ME α} {Q : Ex α → Prop} : ev (mIf c ma mb) ρ Q ↔ ev c ρ (okx (fun b ρ' => if b = true then ev ma ρ' Q else ev mb ρ' Q) fun C fs ρ' => Q (.ex C fs ρ')) := by simp only [mIf, ev_bnd, ev_if]
@[simp] theorem ev_andV : ev (mAndV ma mb) ρ QD ↔ ev ma ρ (okx (fun x ρ' => match x with
    | .bl c => if c = true then ev mb ρ' QD else QD (.ok (.bl false) ρ')
    | _ => False) fun C fs ρ' => QD (.ex C fs ρ')) := by
  unfold mAndV
  rw [ev_bnd]
  have : ∀ x ρ', ev (match x with
    | D.bl c => if c = true then mb else ret (.bl false)
    | _ => fun _ => none) ρ' QD ↔ (match x with
    | D.bl c => if c = true then ev mb ρ' QD else QD (.ok (.bl false) ρ')
    | _ => False) := fun x ρ' => by cases x <;> simp
  exact ev_congr this
@[simp] theorem ev_orV : ev (mOrV ma mb) ρ QD ↔ ev ma ρ (okx (fun x ρ' => match x with
    | .bl c => if c = true then QD (.ok (.bl true) ρ') else ev mb ρ' QD
    | _ => False) fun C fs ρ' => QD (.ex C fs ρ')) := by
  unfold mOrV
  rw [ev_bnd]
  have : ∀ x ρ', ev (match x with
    | D.bl c => if c = true then ret (.bl true) else mb
    | _ => fun _ => none) ρ' QD ↔ (match x with
    | D.bl c => if c = true then QD (.ok (.bl true) ρ') else ev mb ρ' QD
    | _ => False) := fun x ρ' => by cases x <;> simp
  exact ev_congr this
@[simp] theorem ev_notV : ev (mNotV ma) ρ QD ↔ ev ma ρ (okx (fun x ρ' => match x with
    | .bl c => QD (.ok (.bl (!c)) ρ')
    | _ => False) fun C fs ρ' => QD (.ex C fs ρ')) := by
  unfold mNotV
  rw [ev_bnd]
  have : ∀ x ρ', ev (match x with
    | D.bl c => ret (.bl (!c))
    | _ => fun _ => none) ρ' QD ↔ (match x with
    | D.bl c => QD (.ok (.bl (!c)) ρ')
    | _ => False) := fun x ρ' => by cases x <;> simp
  exact ev_congr this
@[simp] theorem ev_nilL : ev mNil ρ QL ↔ QL (.ok [] ρ) := ev_ret
@[simp] theorem ev_consL : ev (mCons m ms) ρ QL ↔ ev m ρ (okx (fun d ρ1 => ev ms ρ1 (okx (fun ds ρ2 => QL (.ok (d :: ds) ρ2)) fun C fs ρ' => QL (.ex C fs ρ'))) fun C fs ρ' => QL (.ex C fs ρ')) := by simp only [mCons, ev_bnd, ev_ret]
@[simp] theorem ev_nilA {Q : Ex (List Ar) → Prop} : ev aNil ρ Q ↔ Q (.ok [] ρ) := ev_ret
@[simp] theorem ev_consA {as : ME (List Ar)} {Q : Ex (List Ar) → Prop} : ev (aCons m as) ρ Q ↔ ev m ρ (okx (fun d ρ1 => ev as ρ1 (okx (fun ds ρ2 => Q (.ok (.val d :: ds) ρ2)) fun C fs ρ' => Q (.ex C fs ρ'))) fun C fs ρ' => Q (.ex C fs ρ')) := by simp only [aCons, ev_bnd, ev_ret]
@[simp] theorem ev_tup : ev (mTup ms) ρ QD ↔ ev ms ρ (okx (fun ds ρ1 => ds.length ≤ sizeLine ∧ QD (.ok (.tup ds) ρ1)) fun C fs ρ' => QD (.ex C fs ρ')) := by
  unfold mTup
  rw [ev_bnd]
  have : ∀ ds ρ', ev (if ds.length ≤ sizeLine then ret (D.tup ds) else fun _ => none) ρ' QD ↔ (ds.length ≤ sizeLine ∧ QD (.ok (.tup ds) ρ')) := fun ds ρ' => by
    by_cases h : ds.length ≤ sizeLine <;> simp [h]
  exact ev_congr this
@[simp] theorem ev_lst : ev (mLst ms) ρ QS ↔ ev ms ρ (okx (fun ds ρ1 => ds.length ≤ sizeLine ∧ QS (.ok (.lst ds) ρ1)) fun C fs ρ' => QS (.ex C fs ρ')) := by
  unfold mLst
  rw [ev_bnd]
  have : ∀ ds ρ', ev (if ds.length ≤ sizeLine then ret (S.lst ds) else fun _ => none) ρ' QS ↔ (ds.length ≤ sizeLine ∧ QS (.ok (.lst ds) ρ')) := fun ds ρ' => by
    by_cases h : ds.length ≤ sizeLine <;> simp [h]
  exact ev_congr this
@[simp] theorem ev_ix : ev (mIx ma mb) ρ QD ↔ ev ma ρ (okx (fun x ρ1 => ev mb ρ1 (okx (fun y ρ2 => opx (gIx x y) fun s => QD (.ok s ρ2)) fun C fs ρ' => QD (.ex C fs ρ'))) fun C fs ρ' => QD (.ex C fs ρ')) := by simp only [mIx, ev_bnd, ev_opt]
@[simp] theorem ev_len : ev (mLen ma) ρ QD ↔ ev ma ρ (okx (fun x ρ1 => opx (gLen x) fun n => QD (.ok (.int n) ρ1)) fun C fs ρ' => QD (.ex C fs ρ')) := by
  unfold mLen
  rw [ev_bnd]
  have : ∀ x ρ', ev (opt ((gLen x).map fun n => D.int n)) ρ' QD ↔ (opx (gLen x) fun n => QD (.ok (.int n) ρ')) := fun x ρ' => by cases gLen x <;> simp
  exact ev_congr this
@[simp] theorem ev_fld {L : List Str} {f : Str} : ev (mFld L f ma) ρ QD ↔ ev ma ρ (okx (fun x ρ1 => opx (gFld L f x) fun s => QD (.ok s ρ1)) fun C fs ρ' => QD (.ex C fs ρ')) := by simp only [mFld, ev_bnd, ev_opt]
@[simp] theorem ev_con {L : List (Str × D)} {f : Str} : ev (mCon L f ma) ρ QD ↔ ev ma ρ (okx (fun x ρ1 => opx (gCon L f x) fun s => QD (.ok s ρ1)) fun C fs ρ' => QD (.ex C fs ρ')) := by simp only [mCon, ev_bnd, ev_opt]
@[simp] theorem ev_items : ev (mItems ma) ρ QL ↔ ev ma ρ (okx (fun x ρ1 => opx (itemsD x) fun s => QL (.ok s ρ1)) fun C fs ρ' => QL (.ex C fs ρ')) := by simp only [mItems, ev_bnd, ev_opt]
@[simp] theorem ev_enum : ev (mEnum ma) ρ QL ↔ ev ma ρ (okx (fun x ρ1 => opx (itemsD x) fun s => QL (.ok (enumD s) ρ1)) fun C fs ρ' => QL (.ex C fs ρ')) := by
  unfold mEnum
  rw [ev_bnd]
  have : ∀ x ρ', ev (opt ((itemsD x).map enumD)) ρ' QL ↔ (opx (itemsD x) fun n => QL (.ok (enumD n) ρ')) := fun x ρ' => by cases itemsD x <;> simp
  exact ev_congr this
def rg (i : Int) : Prop := -(2 ^ 62) ≤ i ∧ i < 2 ^ 62
theorem rg_ok {i : Int} : rangeOk i = true ↔ rg i := by simp [rangeOk, rg]
@[simp] theorem ev_range1 : ev (mRange1 ma) ρ QL ↔ ev ma ρ (okx (fun x ρ1 => match x with
    | .int j => rg j ∧ QL (.ok (rangeD 0 j.toNat) ρ1)
    | _ => False) fun C fs ρ' => QL (.ex C fs ρ')) := by
  unfold mRange1
  rw [ev_bnd]
  have : ∀ x ρ', ev (match x with
    | D.int j => if rangeOk j = true then ret (rangeD 0 j.toNat) else fun _ => none
    | _ => fun _ => none) ρ' QL ↔ (match x with
    | D.int j => rg j ∧ QL (.ok (rangeD 0 j.toNat) ρ')
    | _ => False) := fun x ρ' => by
    cases x with
    | int j => by_cases h : rangeOk j = true <;> simp [h, ← rg_ok]
    | _ => simp
  exact ev_congr this
@[simp] theorem ev_range2 : ev (mRange2 ma mb) ρ QL ↔ ev ma ρ (okx (fun x ρ1 => ev mb ρ1 (okx (fun y ρ2 => match x, y with
    | .int i, .int j => (rg i ∧ rg j) ∧ QL (.ok (rangeD i (j - i).toNat) ρ2)
    | _, _ => False) fun C fs ρ' => QL (.ex C fs ρ'))) fun C fs ρ' => QL (.ex C fs ρ')) := by
  unfold mRange2
  rw [ev_bnd]
  refine ev_congr fun x ρ1 => ?_
  rw [ev_bnd]
  refine ev_congr fun y ρ2 => ?_
  have : ∀ x y ρ', ev (match x, y with
    | D.int i, D.int j => if (rangeOk i && rangeOk j) = true then ret (rangeD i (j - i).toNat) else fun _ => none
    | _, _ => fun _ => none) ρ' QL ↔ (match x, y with
    | D.int i, D.int j => (rg i ∧ rg j) ∧ QL (.ok (rangeD i (j - i).toNat) ρ')
    | _, _ => False) := fun x y ρ' => by
    cases x with
    | int i =>
      cases y with
      | int j => by_cases h : rangeOk i = true <;> by_cases h2 : rangeOk j = true <;> simp [h, h2, ← rg_ok]
      | _ => simp
    | _ => simp
  exact this x y ρ2
@[simp] theorem ev_appN {i : Nat} : ev (mAppN i ma) ρ QS ↔ (match ρ[i]? with
    | some (.lst _) => ev ma ρ (okx (fun d ρ' => match ρ'[i]? with
      | some (.lst xs) => xs.length < sizeLine ∧ QS (.ok (.val .non) (ρ'.set i (.lst (xs ++ [d]))))
      | _ => False) fun C fs ρ' => QS (.ex C fs ρ'))
    | _ => False) := by
  unfold mAppN
  rw [ev_listAt]
  have : ∀ d ρ', ev (onList i fun xs => if xs.length < sizeLine then some (.non, xs ++ [d]) else none) ρ' QS ↔ (match ρ'[i]? with
      | some (.lst xs) => xs.length < sizeLine ∧ QS (.ok (.val .non) (ρ'.set i (.lst (xs ++ [d]))))
      | _ => False) := fun d ρ' => by
    rw [ev_onList]
    cases h : ρ'[i]? with
    | none => simp
    | some s =>
      cases s with
      | lst xs => by_cases q : xs.length < sizeLine <;> simp [q]
      | _ => simp
  cases h : ρ[i]? with
  | none => simp
  | some s =>
    cases s with
    | lst xs => simp only [ev_bnd]; exact ev_congr this
    | _ => simp
@[simp] theorem ev_popN {i : Nat} : ev (mPopN i) ρ QS ↔ (match ρ[i]? with
    | some (.lst xs) => (opx (xs[xs.length - 1]?) fun d => QS (.ok (.val d) (ρ.set i (.lst xs.dropLast))))
    | _ => False) := by
  unfold mPopN
  rw [ev_onList]
  cases h : ρ[i]? with
  | none => simp
  | some s =>
    cases s with
    | lst xs =>
      cases q : xs[xs.length - 1]? with
      | none => simp [q]
      | some d => simp [q]
    | _ => simp
@[simp] theorem ev_revN {i : Nat} : ev (mRevN i) ρ QS ↔ (match ρ[i]? with
    | some (.lst xs) => QS (.ok (.val .non) (ρ.set i (.lst xs.reverse)))
    | _ => False) := by
  unfold mRevN
  rw [ev_onList] <;> exact Iff.rfl
@[simp] theorem ev_keyN {neg : Bool} {i : Nat} : ev (mKeyN neg i m) ρ QS ↔ ev m ρ (okx (fun y ρ' => match ρ'[i]? with
    | none => False
    | some .no => False
    | some s => (opx (gGetS s y) fun o => QS (.ok (.val (.bl (if neg = true then !o.isSome else o.isSome))) ρ'))) fun C fs ρ' => QS (.ex C fs ρ')) := by
  unfold mKeyN
  rw [ev_bnd]
  have : ∀ y ρ', ev (fun ρ => match ρ[i]? with
    | none => none
    | some .no => none
    | some s => match gGetS s y with
      | some o => ret (.val (.bl (if neg = true then !o.isSome else o.isSome))) ρ
      | none => none : ME S) ρ' QS ↔ (match ρ'[i]? with
    | none => False
    | some .no => False
    | some s => (opx (gGetS s y) fun o => QS (.ok (.val (.bl (if neg = true then !o.isSome else o.isSome))) ρ'))) := fun y ρ' => by
    unfold ev
    cases h : ρ'[i]? with
    | none => simp [h]
    | some s =>
      cases s with
      | no => simp [h]
      | _ =>
        simp only [h]
        split
        · rename_i o e; simp [e, ret]
        · rename_i e; simp [e]
  exact ev_congr this
@[simp] theorem ev_inN {neg : Bool} {i : Nat} : ev (mInN neg i m) ρ QS ↔ ev m ρ (okx (fun d ρ' => match ρ'[i]? with
    | some (.val y) => (opx (gIn neg d y) fun s => QS (.ok s ρ'))
    | some (.lst ys) => (opx (inD neg d ys) fun s => QS (.ok s ρ'))
    | _ => False) fun C fs ρ' => QS (.ex C fs ρ')) := by
  unfold mInN
  rw [ev_bnd]
  have : ∀ d ρ', ev (fun ρ => match ρ[i]? with
    | some (.val y) => opt (gIn neg d y) ρ
    | some (.lst ys) => opt (inD neg d ys) ρ
    | _ => none : ME S) ρ' QS ↔ (match ρ'[i]? with
    | some (.val y) => (opx (gIn neg d y) fun s => QS (.ok s ρ'))
    | some (.lst ys) => (opx (inD neg d ys) fun s => QS (.ok s ρ'))
    | _ => False) := fun d ρ' => by
    unfold ev
    cases h : ρ'[i]? with
    | none => simp [h]
    | some s =>
      cases s with
      | val y => simp only [h]; cases q : gIn neg d y <;> simp [opt]
      | lst y => simp only [h]; cases q : inD neg d y <;> simp [opt]
      | _ => simp [h]
  exact ev_congr this
@[simp] theorem run_rais {C f : Str} : run (sRaise1 C f m) ρ R ↔ ev m ρ (okx (fun d ρ' => R (.ex C [(f, d)] ρ')) fun C fs ρ' => R (.ex C fs ρ')) := by unfold sRaise1; rw [run_thn]; simp only [run_lam_some]
@[simp] theorem run_par {i j : Nat} : run (sPar i j ms) ρ R ↔ ev ms ρ (okx (fun ds ρ' => match ds with
    | [x, y] => (i < ρ'.length ∧ j < ρ'.length) ∧ R (.nx ((ρ'.set i (.val x)).set j (.val y)))
    | _ => False) fun C fs ρ' => R (.ex C fs ρ')) := by
  unfold sPar
  rw [run_thn]
  have : ∀ ds ρ', run (fun ρ => match ds with
    | [x, y] => if i < ρ.length ∧ j < ρ.length then some (.nx ((ρ.set i (.val x)).set j (.val y))) else none
    | _ => none : MS) ρ' R ↔ (match ds with
    | [x, y] => (i < ρ'.length ∧ j < ρ'.length) ∧ R (.nx ((ρ'.set i (.val x)).set j (.val y)))
    | _ => False) := fun ds ρ' => by
    unfold run
    match ds with
    | [] => simp
    | [_] => simp
    | [x, y] => by_cases h : i < ρ'.length ∧ j < ρ'.length <;> simp [h]
    | _ :: _ :: _ :: _ => simp
  exact ev_congr this
end
end L2.Fn
set_option maxRecDepth 100000
set_option maxHeartbeats 4000000
/-! LibM1: the walk over the ends of runs, paired. -/
namespace L2.Fn
/-- an end: a part and its side -/
abbrev En := Int × Int
def fl (e : En) : En := (e.1, 1 - e.2)
def IsE (l : List Int) (e : En) : Prop := e.1 ∈ l ∧ (e.2 = 0 ∨ e.2 = 1)
structure Pi (l : List Int) (p : En → En) : Prop where
  mem : ∀ e, IsE l e → IsE l (p e)
  inv : ∀ e, IsE l e → p (p e) = e
  ne : ∀ e, IsE l e → p e ≠ e
abbrev Sd := Int → Option Int
def Ent (s : Sd) (e : En) : Prop := s e.1 = some e.2
def Exi (s : Sd) (e : En) : Prop := s e.1 = some (1 - e.2)
def Cl (l : List Int) (p : En → En) (s : Sd) : Prop := ∀ e, IsE l e → (Ent s e → Exi s (p e)) ∧ (Exi s e → Ent s (p e))
def Sok (l : List Int) (s : Sd) : Prop := ∀ q v, s q = some v → q ∈ l ∧ (v = 0 ∨ v = 1)
structure Wlk (l : List Int) (p : En → En) (f : Int) (s : Sd) (c : En) : Prop where
  ok : Sok l s
  cE : IsE l c
  i1 : ∀ e, IsE l e → Ent s e → e ≠ (f, 0) → Exi s (p e)
  i2 : ∀ e, IsE l e → Exi s e → p e ≠ c → Ent s (p e)
  i3 : (c = (f, 0) ∧ s f = none) ∨ (Exi s (p c) ∧ Ent s (f, 0))
  i4 : ∀ e, IsE l e → Ent s e → e ≠ (f, 0) → e ≠ c
def upd1 (s : Sd) (q v : Int) : Sd := fun x => if x = q then some v else s x
theorem fl_E {l : List Int} {e : En} (h : IsE l e) : IsE l (fl e) := ⟨h.1, by rcases h.2 with h | h <;> simp [fl, h]⟩
theorem fl_fl (e : En) : fl (fl e) = e := by simp [fl]; ext <;> simp; omega
theorem not_both {s : Sd} {e : En} (h1 : Ent s e) (h2 : Exi s e) : False := by
  unfold Ent Exi at *
  rw [h1] at h2
  injection h2 with h2
  omega
theorem wk_start {l : List Int} {p : En → En} {s : Sd} {f : Int} (hk : Sok l s) (hc : Cl l p s) (hf : f ∈ l) (hn : s f = none) : Wlk l p f s (f, 0) where
  ok := hk
  cE := ⟨hf, .inl rfl⟩
  i1 := fun e he h1 _ => (hc e he).1 h1
  i2 := fun e he h1 _ => (hc e he).2 h1
  i3 := .inl ⟨rfl, hn⟩
  i4 := fun e he h1 h2 => h2
theorem wk_step {l : List Int} {p : En → En} {s : Sd} {f : Int} {c : En} (hp : Pi l p) (w : Wlk l p f s c) (hn : s c.1 = none) : Wlk l p f (upd1 s c.1 c.2) (p (fl c)) := by
  have hfE := fl_E w.cE
  have keep : ∀ {q v}, s q = some v → upd1 s c.1 c.2 q = some v := fun {q v} h => by
    unfold upd1
    rw [if_neg (fun e => by rw [e, hn] at h; cases h)]
    exact h
  have kEn : ∀ {e}, Ent s e → Ent (upd1 s c.1 c.2) e := fun h => keep h
  have kEx : ∀ {e}, Exi s e → Exi (upd1 s c.1 c.2) e := fun h => keep h
  have eEn : ∀ {e}, Ent (upd1 s c.1 c.2) e → e = c ∨ Ent s e := fun {e} h => by
    unfold Ent upd1 at h
    by_cases q : e.1 = c.1
    · rw [if_pos q] at h
      injection h with h
      exact .inl (Prod.ext q h.symm)
    · rw [if_neg q] at h
      exact .inr h
  have eEx : ∀ {e}, Exi (upd1 s c.1 c.2) e → e = fl c ∨ Exi s e := fun {e} h => by
    unfold Exi upd1 at h
    by_cases q : e.1 = c.1
    · rw [if_pos q] at h
      injection h with h
      exact .inl (Prod.ext q (by simp only [fl]; omega))
    · rw [if_neg q] at h
      exact .inr h
  have nEx : ∀ {e : En}, e.1 = c.1 → ¬ Exi s e := fun {e} h z => by
    unfold Exi at z
    rw [h, hn] at z
    cases z
  have newC : Ent (upd1 s c.1 c.2) c := by simp [Ent, upd1]
  have newF : Exi (upd1 s c.1 c.2) (fl c) := by
    simp only [Exi, upd1, fl, if_true]
    congr 1; omega
  have cf : c ≠ (f, 0) → Exi s (p c) ∧ Ent s (f, 0) := fun h => by
    rcases w.i3 with ⟨a, _⟩ | a
    · exact absurd a h
    · exact a
  refine ⟨?_, hp.mem _ hfE, ?_, ?_, ?_, ?_⟩
  · intro q v h
    unfold upd1 at h
    by_cases e : q = c.1
    · rw [if_pos e] at h
      cases h
      subst e
      exact w.cE
    · rw [if_neg e] at h
      exact w.ok q v h
  · intro e he h1 h2
    rcases eEn h1 with rfl | h1
    · exact kEx (cf h2).1
    · exact kEx (w.i1 e he h1 h2)
  · intro e he h1 h2
    rcases eEx h1 with rfl | h1
    · exact absurd rfl h2
    · by_cases q : p e = c
      · rw [q]; exact newC
      · exact kEn (w.i2 e he h1 q)
  · right
    rw [hp.inv _ hfE]
    refine ⟨newF, ?_⟩
    by_cases q : c = (f, 0)
    · rw [q] at newC ⊢; exact newC
    · exact kEn (cf q).2
  · intro e he h1 h2 h3
    have hpe : p e = fl c := by rw [h3, hp.inv _ hfE]
    rcases eEn h1 with rfl | h1
    · have := (cf h2).1
      rw [hpe] at this
      exact nEx (e := fl _) rfl this
    · have := w.i1 e he h1 h2
      rw [hpe] at this
      exact nEx (e := fl _) rfl this
theorem wk_stop {l : List Int} {p : En → En} {s : Sd} {f : Int} {c : En} (hp : Pi l p) (w : Wlk l p f s c) (hn : s c.1 ≠ none) : Cl l p s ∧ s f = some 0 := by
  have h3 : Exi s (p c) ∧ Ent s (f, 0) := by
    rcases w.i3 with ⟨a, b⟩ | a
    · rw [a] at hn; exact absurd b hn
    · exact a
  have hc : Ent s c := by
    cases q : s c.1 with
    | none => exact absurd q hn
    | some v =>
      have hv := (w.ok _ _ q).2
      by_cases e : v = c.2
      · rw [e] at q; exact q
      · have hx : Exi s c := by
          unfold Exi
          rw [q]
          congr 1
          rcases w.cE.2 with z | z <;> rcases hv with y | y <;> omega
        exact (not_both (w.i2 c w.cE hx (hp.ne c w.cE)) h3.1).elim
  have ec : c = (f, 0) := by
    by_cases e : c = (f, 0)
    · exact e
    · exact absurd rfl (w.i4 c w.cE hc e)
  refine ⟨fun e he => ⟨fun h => ?_, fun h => ?_⟩, h3.2⟩
  · by_cases q : e = (f, 0)
    · rw [q, ← ec]; exact h3.1
    · exact w.i1 e he h q
  · by_cases q : p e = c
    · rw [q]; exact hc
    · exact w.i2 e he h q
/-! ### signs cancel -/
def bj (c : Bool) : Int := if c then 1 else 0
/-- consecutive entries belong together -/
def Prd (g : En → Int) : List (Int × En) → Prop
  | [] => True
  | [_] => False
  | a :: b :: r => (g a.2 + g b.2 = 0 ∧ (g a.2 = 1 ∨ g a.2 = -1)) ∧ Prd g r
def sgs (g : En → Int) (x : Int) (L : List (Int × En)) : Int := (L.map fun a => g a.2 * bj (decide (a.1 ≤ x))).sum
theorem sgs_gt {g : En → Int} {x : Int} : ∀ {L : List (Int × En)}, (∀ a ∈ L, x < a.1) → sgs g x L = 0
  | [], _ => rfl
  | a :: L, h => by
    have h1 := h a List.mem_cons_self
    have ih := sgs_gt (g := g) (x := x) (L := L) fun b hb => h b (List.mem_cons_of_mem _ hb)
    have n : ¬ a.1 ≤ x := by omega
    unfold sgs at ih ⊢
    rw [List.map_cons, List.sum_cons, ih]
    simp [bj, n]
theorem sgs_one {g : En → Int} {x : Int} : ∀ {L : List (Int × En)}, L.Pairwise (fun a b => a.1 ≤ b.1) → Prd g L → -1 ≤ sgs g x L ∧ sgs g x L ≤ 1
  | [], _, _ => by simp [sgs]
  | [_], _, h => h.elim
  | a :: b :: r, hs, h => by
    obtain ⟨h1, h2⟩ := List.pairwise_cons.mp hs
    obtain ⟨h3, h4⟩ := List.pairwise_cons.mp h2
    have hab := h1 b List.mem_cons_self
    have e : sgs g x (a :: b :: r) = g a.2 * bj (decide (a.1 ≤ x)) + (g b.2 * bj (decide (b.1 ≤ x)) + sgs g x r) := by simp [sgs]
    by_cases q : b.1 ≤ x
    · have q2 : a.1 ≤ x := by omega
      have ih := sgs_one (x := x) h4 h.2
      rw [e]
      simp only [q, q2, decide_true, bj, if_true, Int.mul_one]
      have := h.1.1
      omega
    · have hr : sgs g x r = 0 := sgs_gt fun c hc => by have := h3 c hc; omega
      rw [e, hr]
      simp only [q, decide_false, bj, Bool.false_eq_true, if_false, Int.mul_zero, Int.add_zero]
      by_cases q2 : a.1 ≤ x
      · simp only [q2, decide_true, if_true, Int.mul_one]
        have := h.1.2
        omega
      · simp [q2]
end L2.Fn
set_option maxRecDepth 100000
set_option maxHeartbeats 4000000
/-! LibM2: the ends in order, paired two by two. -/
namespace L2.Fn
def prs : List (Int × En) → List (En × En)
  | a :: b :: r => (a.2, b.2) :: (b.2, a.2) :: prs r
  | _ => []
theorem prs_keys : ∀ {L : List (Int × En)} {n : Nat}, L.length = 2 * n → (prs L).map (·.1) = L.map (·.2)
  | [], _, _ => rfl
  | [_], n, h => by simp at h; omega
  | a :: b :: r, n, h => by
    have ih := prs_keys (L := r) (n := n - 1) (by simp at h; omega)
    simp [prs, ih]
theorem prs_app : ∀ {L M : List (Int × En)} {n : Nat}, L.length = 2 * n → prs (L ++ M) = prs L ++ prs M
  | [], _, _, _ => rfl
  | [_], _, n, h => by simp at h; omega
  | a :: b :: r, M, n, h => by
    have ih := prs_app (L := r) (M := M) (n := n - 1) (by simp at h; omega)
    simp [prs, ih]
theorem prs_symm {a b : En} : ∀ {L : List (Int × En)}, (a, b) ∈ prs L → (b, a) ∈ prs L
  | [], h => by cases h
  | [_], h => by cases h
  | c :: d :: r, h => by
    rcases List.mem_cons.mp h with h | h
    · cases h; exact List.mem_cons_of_mem _ List.mem_cons_self
    · rcases List.mem_cons.mp h with h | h
      · cases h; exact List.mem_cons_self
      · exact List.mem_cons_of_mem _ (List.mem_cons_of_mem _ (prs_symm h))
theorem prs_mem {a b : En} : ∀ {L : List (Int × En)}, (a, b) ∈ prs L → a ∈ L.map (·.2) ∧ b ∈ L.map (·.2)
  | [], h => by cases h
  | [_], h => by cases h
  | c :: d :: r, h => by
    rcases List.mem_cons.mp h with h | h
    · cases h; simp
    · rcases List.mem_cons.mp h with h | h
      · cases h; simp
      · have := prs_mem h
        exact ⟨List.mem_cons_of_mem _ (List.mem_cons_of_mem _ this.1), List.mem_cons_of_mem _ (List.mem_cons_of_mem _ this.2)⟩
theorem prs_ne {a b : En} : ∀ {L : List (Int × En)}, (L.map (·.2)).Nodup → (a, b) ∈ prs L → a ≠ b
  | [], _, h => by cases h
  | [_], _, h => by cases h
  | c :: d :: r, hn, h => by
    obtain ⟨h1, h2⟩ := List.nodup_cons.mp hn
    rcases List.mem_cons.mp h with h | h
    · cases h; intro e; exact h1 (List.mem_map.mpr ⟨d, List.mem_cons_self, e.symm⟩)
    · rcases List.mem_cons.mp h with h | h
      · cases h; intro e; exact h1 (List.mem_map.mpr ⟨d, List.mem_cons_self, e⟩)
      · exact prs_ne (List.nodup_cons.mp h2).2 h
theorem find_of {α β : Type} [DecidableEq α] {k : α} {v : β} : ∀ {ps : List (α × β)}, (ps.map (·.1)).Nodup → (k, v) ∈ ps → ps.find? (fun q => decide (q.1 = k)) = some (k, v)
  | [], _, h => by cases h
  | q :: ps, hn, h => by
    obtain ⟨h1, h2⟩ := List.nodup_cons.mp hn
    rcases List.mem_cons.mp h with h | h
    · subst h; simp
    · have : q.1 ≠ k := fun e => h1 (List.mem_map.mpr ⟨_, h, e.symm⟩)
      rw [List.find?_cons]
      simp only [this, decide_false]
      exact find_of h2 h
def piOf (L : List (Int × En)) (e : En) : En := match (prs L).find? (fun q => decide (q.1 = e)) with
  | some q => q.2
  | none => e
theorem pi_of {L : List (Int × En)} {n : Nat} {a b : En} (hl : L.length = 2 * n) (hn : (L.map (·.2)).Nodup) (h : (a, b) ∈ prs L) : piOf L a = b := by
  unfold piOf
  rw [find_of (by rw [prs_keys hl]; exact hn) h]
theorem pi_mem {L : List (Int × En)} {n : Nat} {a : En} (hl : L.length = 2 * n) (hn : (L.map (·.2)).Nodup) (h : a ∈ L.map (·.2)) : (a, piOf L a) ∈ prs L := by
  rw [← prs_keys hl] at h
  obtain ⟨⟨a', b⟩, h1, rfl⟩ := List.mem_map.mp h
  rw [pi_of hl hn h1]
  exact h1
theorem pi_ok {l : List Int} {L : List (Int × En)} {n : Nat} (hl : L.length = 2 * n) (hn : (L.map (·.2)).Nodup) (hm : ∀ e, IsE l e ↔ e ∈ L.map (·.2)) : Pi l (piOf L) where
  mem := fun e h => (hm _).mpr (prs_mem (pi_mem hl hn ((hm e).mp h))).2
  inv := fun e h => pi_of hl hn (prs_symm (pi_mem hl hn ((hm e).mp h)))
  ne := fun e h z => prs_ne hn (pi_mem hl hn ((hm e).mp h)) z.symm
theorem prd_of {g : En → Int} : ∀ {L : List (Int × En)} {n : Nat}, L.length = 2 * n → (∀ a b, (a, b) ∈ prs L → g a + g b = 0 ∧ (g a = 1 ∨ g a = -1)) → Prd g L
  | [], _, _, _ => trivial
  | [_], n, h, _ => by simp at h; omega
  | a :: b :: r, n, h, k => ⟨k _ _ List.mem_cons_self, prd_of (n := n - 1) (by simp at h; omega) fun a b z => k a b (List.mem_cons_of_mem _ (List.mem_cons_of_mem _ z))⟩
/-! ### the halves -/
/-- all ends of the parts l -/
def ends (b e : Int → Int) (l : List Int) : List (Int × En) := l.flatMap fun p => [(b p, (p, 0)), (e p, (p, 1))]
theorem ends_len {b e : Int → Int} : ∀ {l : List Int}, (ends b e l).length = 2 * l.length
  | [] => rfl
  | p :: l => by
    have ih := ends_len (b := b) (e := e) (l := l)
    unfold ends at ih ⊢
    simp [ih]; omega
theorem ends_mem {b e : Int → Int} {l : List Int} {a : En} : IsE l a ↔ a ∈ (ends b e l).map (·.2) := by
  obtain ⟨p, s⟩ := a
  simp only [IsE, ends, List.mem_map, List.mem_flatMap, List.mem_cons, List.not_mem_nil, or_false]
  constructor
  · rintro ⟨h1, rfl | rfl⟩
    · exact ⟨_, ⟨p, h1, .inl rfl⟩, rfl⟩
    · exact ⟨_, ⟨p, h1, .inr rfl⟩, rfl⟩
  · rintro ⟨q, ⟨p', h1, rfl | rfl⟩, h2⟩
    · cases h2; exact ⟨h1, .inl rfl⟩
    · cases h2; exact ⟨h1, .inr rfl⟩
theorem ends_nd {b e : Int → Int} : ∀ {l : List Int}, l.Nodup → ((ends b e l).map (·.2)).Nodup
  | [], _ => .nil
  | p :: l, h => by
    obtain ⟨h1, h2⟩ := List.nodup_cons.mp h
    have ih := ends_nd (b := b) (e := e) h2
    have no : ∀ s : Int, (p, s) ∉ (ends b e l).map (·.2) := fun s hm => h1 (ends_mem.mpr hm).1
    show ((p, 0) :: (p, 1) :: (ends b e l).map (·.2)).Nodup
    refine List.nodup_cons.mpr ⟨?_, List.nodup_cons.mpr ⟨no 1, ih⟩⟩
    intro hm
    rcases List.mem_cons.mp hm with hm | hm
    · cases hm
    · exact no 0 hm
def cv (b e : Int → Int) (l : List Int) (x : Int) : Int := (l.map fun p => bj (decide (b p ≤ x)) - bj (decide (e p ≤ x))).sum
def sg (s : Sd) (e : En) : Int := if s e.1 = some e.2 then 1 else -1
theorem sgs_ends {b e : Int → Int} {s : Sd} {x : Int} : ∀ {l : List Int}, (∀ p ∈ l, s p = some 0 ∨ s p = some 1) → sgs (sg s) x (ends b e l) = cv b e (l.filter fun p => decide (s p = some 0)) x - cv b e (l.filter fun p => !decide (s p = some 0)) x
  | [], _ => rfl
  | p :: l, h => by
    have ih := sgs_ends (b := b) (e := e) (x := x) (l := l) fun q hq => h q (List.mem_cons_of_mem _ hq)
    have e1 : sgs (sg s) x (ends b e (p :: l)) = sg s (p, 0) * bj (decide (b p ≤ x)) + (sg s (p, 1) * bj (decide (e p ≤ x)) + sgs (sg s) x (ends b e l)) := by simp [sgs, ends]
    rw [e1, ih]
    rcases h p List.mem_cons_self with h | h
    · simp [sg, h, cv]; omega
    · simp [sg, h, cv]; omega
theorem psum {a b : List Int} (h : a.Perm b) : a.sum = b.sum := by
  induction h with
  | nil => rfl
  | cons x _ ih => simp [ih]
  | swap x y l => simp; omega
  | trans _ _ h1 h2 => rw [h1, h2]
theorem sgs_perm {g : En → Int} {x : Int} {L M : List (Int × En)} (h : L.Perm M) : sgs g x L = sgs g x M := by
  exact psum (h.map _)
theorem halves_even {b e : Int → Int} {l : List Int} {L : List (Int × En)} {s : Sd} {x : Int} (hl : l.Nodup) (hp : L.Perm (ends b e l)) (hs : L.Pairwise (fun a b => a.1 ≤ b.1)) (hc : Cl l (piOf L) s) (ht : ∀ p ∈ l, s p = some 0 ∨ s p = some 1) :
    -1 ≤ cv b e (l.filter fun p => decide (s p = some 0)) x - cv b e (l.filter fun p => !decide (s p = some 0)) x ∧ cv b e (l.filter fun p => decide (s p = some 0)) x - cv b e (l.filter fun p => !decide (s p = some 0)) x ≤ 1 := by
  rw [← sgs_ends ht, ← sgs_perm hp]
  have hlen : L.length = 2 * l.length := by rw [hp.length_eq, ends_len]
  have hnd : (L.map (·.2)).Nodup := ((hp.map _).nodup_iff).mpr (ends_nd hl)
  have hm : ∀ e, IsE l e ↔ e ∈ L.map (·.2) := fun e => by rw [(hp.map (·.2)).mem_iff]; exact ends_mem
  refine sgs_one hs (prd_of hlen fun a b hab => ?_)
  have ha := (prs_mem hab).1
  have e : piOf L a = b := pi_of hlen hnd hab
  have hE := (hm a).mpr ha
  have hv : ∀ v, sg s v = 1 ∨ sg s v = -1 := fun v => by unfold sg; split <;> simp
  refine ⟨?_, hv a⟩
  have hC := hc a hE
  rw [e] at hC
  have both : Ent s a ∨ Exi s a := by
    rcases ht a.1 hE.1 with h | h <;> rcases hE.2 with z | z <;> simp [Ent, Exi, h, z]
  rcases both with q | q
  · have q2 := hC.1 q
    have q3 : ¬ Ent s b := fun z => not_both z q2
    unfold Ent at q q3
    simp [sg, q, q3]
  · have q2 := hC.2 q
    have q3 : ¬ Ent s a := fun z => not_both z q
    unfold Ent at q2 q3
    simp [sg, q2, q3]
end L2.Fn
set_option maxRecDepth 100000
set_option maxHeartbeats 4000000
/-! LibP1: what the small defs compute. -/
namespace L2.Fn
open PySem PySem.Spec PyProof.Rows L2
/-! ### calls, told -/
theorem cal_of {f : Fun'} {ss : List S} {r : CR} {C : CR → Prop} (h : f ss = some r) : cal f ss C ↔ C r := ⟨fun ⟨r', h1, h2⟩ => by rw [h] at h1; cases h1; exact h2, fun q => ⟨r, h, q⟩⟩
theorem of_cal {f : Fun'} {ss : List S} {r : CR} (h : cal f ss fun c => c = r) : f ss = some r := by
  obtain ⟨r', h1, rfl⟩ := h
  exact h1
theorem ex_cal {f : Fun'} {ss : List S} {P : CR → Prop} (h : cal f ss P) : ∃ r, f ss = some r ∧ P r := h
theorem run_mono {s : MS} {ρ : Slots} {Q Q' : Out → Prop} (h : run s ρ Q) (k : ∀ o, Q o → Q' o) : run s ρ Q' := let ⟨r, h1, h2⟩ := h; ⟨r, h1, k _ h2⟩
theorem cal_mono {f : Fun'} {ss : List S} {Q Q' : CR → Prop} (h : cal f ss Q) (k : ∀ o, Q o → Q' o) : cal f ss Q' := let ⟨r, h1, h2⟩ := h; ⟨r, h1, k _ h2⟩
theorem run_seq_of {s t : MS} {ρ : Slots} {R : Out → Prop} (P : Slots → Prop) (h1 : run s ρ fun o => ∃ ρ', o = .nx ρ' ∧ P ρ') (h2 : ∀ ρ', P ρ' → run t ρ' R) : run (sSeq s t) ρ R := by
  rw [run_seq]
  obtain ⟨r, e, ρ', rfl, p⟩ := h1
  exact ⟨_, e, h2 ρ' p⟩
@[simp] theorem ar_val {ρ : Slots} {d : D} : Ar.s ρ (.val d) = .val d := rfl
@[simp] theorem ar_io {ρ : Slots} {j : Nat} : Ar.s ρ (.io j) = (ρ[j]?).getD .no := rfl
@[simp] theorem io_nil : ioOk [] = true := rfl
@[simp] theorem io_val {d : D} {as : List Ar} : ioOk (.val d :: as) = ioOk as := rfl
@[simp] theorem io_io {j : Nat} {as : List Ar} : ioOk (.io j :: as) = ((as.all fun a => match a with
    | .io i => i != j
    | _ => true) && ioOk as) := rfl
@[simp] theorem back_nil {ss : List S} {ρ : Slots} : back [] ss ρ = ρ := by cases ss <;> rfl
@[simp] theorem back_no {as : List Ar} {ρ : Slots} : back as [] ρ = ρ := by cases as with
  | nil => rfl
  | cons a as => cases a <;> rfl
@[simp] theorem back_val {d : D} {as : List Ar} {ss : List S} {ρ : Slots} : back (.val d :: as) ss ρ = back as ss.tail ρ := by
  cases ss with
  | nil => simp
  | cons s ss => rfl
@[simp] theorem back_io {j : Nat} {as : List Ar} {s : S} {ss : List S} {ρ : Slots} : back (.io j :: as) (s :: ss) ρ = (back as ss ρ).set j s := rfl
@[simp] theorem crb_ret {as : List Ar} {ρ : Slots} {s : S} {ss : List S} : CR.back as ρ (.ret s ss) = .ok s (back as ss ρ) := rfl
@[simp] theorem crb_exc {as : List Ar} {ρ : Slots} {C : Str} {fs : List (Str × D)} {ss : List S} : CR.back as ρ (.exc C fs ss) = .ex C fs (back as ss ρ) := rfl
@[simp] theorem isT_i {f : String → Bool} {i : Int} : gIsT f (.int i) = some (.val (.bl (f "int"))) := rfl
@[simp] theorem isT_b {f : String → Bool} {i : Bool} : gIsT f (.bl i) = some (.val (.bl (f "bool"))) := rfl
@[simp] theorem isT_n {f : String → Bool} : gIsT f .non = some (.val (.bl (f "NoneType"))) := rfl
@[simp] theorem isT_s {f : String → Bool} {x : Str} : gIsT f (.str x) = some (.val (.bl (f "str"))) := rfl
@[simp] theorem isT_l {f : String → Bool} {x : List D} : gIsT f (.lst x) = some (.val (.bl (f "list"))) := rfl
@[simp] theorem isT_t {f : String → Bool} {x : List D} : gIsT f (.tup x) = some (.val (.bl (f "tuple"))) := rfl
@[simp] theorem isInt_int : isInt "int" = true := by decide
@[simp] theorem isInt_bool : isInt "bool" = true := by decide
@[simp] theorem isInt_none : isInt "NoneType" = false := by decide
@[simp] theorem isLT_list : isLT "list" = true := by decide
@[simp] theorem isLT_tup : isLT "tuple" = true := by decide
@[simp] theorem isLT_none : isLT "NoneType" = false := by decide
@[simp] theorem isN_int {i : Int} : gIsN (.int i) .non = some (.val (.bl false)) := rfl
@[simp] theorem isN_tup {i : List D} : gIsN (.tup i) .non = some (.val (.bl false)) := rfl
@[simp] theorem isN_non : gIsN .non .non = some (.val (.bl true)) := rfl
@[simp] theorem notN_non : gNotN .non .non = some (.val (.bl false)) := rfl
@[simp] theorem notN_int {i : Int} : gNotN (.int i) .non = some (.val (.bl true)) := rfl
@[simp] theorem one_le_size : 1 ≤ sizeLine := by decide
@[simp] theorem two_le_size : 2 ≤ sizeLine := by decide
@[simp] theorem three_le_size : 3 ≤ sizeLine := by decide
@[simp] theorem four_le_size : 4 ≤ sizeLine := by decide
theorem le_size {n : Nat} (h : n ≤ 16777216) : n ≤ sizeLine := h
theorem lt_size {n : Nat} (h : n < 16777216) : n < sizeLine := h
theorem atI_nat {α : Type} {xs : List α} {i : Nat} {a : α} (h : xs[i]? = some a) : atI xs (i : Int) = some a := by
  have hl := (List.getElem?_eq_some_iff.mp h).1
  have h1 : ((i : Nat) : Int) < xs.length := by omega
  unfold atI ixN
  simp [h1, h]
theorem rg_of {i : Int} (h1 : -1000000 ≤ i) (h2 : i ≤ 1000000) : rg i := ⟨by omega, by omega⟩

/-! ### small defs -/
@[simp] theorem e_is_int {i : Int} : f_is_int [.val (.int i)] = some (.ret (.val (.bl true)) [.val (.int i)]) := of_cal (by
  unfold f_is_int
  rw [cal_def]
  simp [m_is_int])
@[simp] theorem e_is_int_non : f_is_int [.val .non] = some (.ret (.val (.bl false)) [.val .non]) := of_cal (by
  unfold f_is_int
  rw [cal_def]
  simp [m_is_int])
@[simp] theorem c_is_int {i : Int} {C : CR → Prop} : cal f_is_int [.val (.int i)] C ↔ C (.ret (.val (.bl true)) [.val (.int i)]) := cal_of e_is_int
@[simp] theorem c_is_int_non {C : CR → Prop} : cal f_is_int [.val .non] C ↔ C (.ret (.val (.bl false)) [.val .non]) := cal_of e_is_int_non
theorem c_check {v least : Int} {nm : Str} {C : CR → Prop} (h : least ≤ v) : cal f_check_number [.val (.int v), .val (.str nm), .val (.int least), .val .non] C ↔ C (.ret (.val (.int v)) [.no, .val (.str nm), .val (.int least), .val .non]) := by
  refine cal_of (of_cal ?_)
  unfold f_check_number
  rw [cal_def]
  have : ¬ v < least := by omega
  simp [m_check_number, this]
theorem c_check2 {v least most : Int} {nm : Str} {C : CR → Prop} (h : least ≤ v) (h2 : v ≤ most) : cal f_check_number [.val (.int v), .val (.str nm), .val (.int least), .val (.int most)] C ↔ C (.ret (.val (.int v)) [.no, .val (.str nm), .val (.int least), .val (.int most)]) := by
  refine cal_of (of_cal ?_)
  unfold f_check_number
  rw [cal_def]
  have : ¬ v < least := by omega
  have h3 : ¬ most < v := by omega
  simp [m_check_number, this, h3]
/-- a run -/
def rn (r : Int × Int) : D := .tup [.int r.1, .int r.2]
theorem c_pair_of {size : Int} {r : Int × Int} {C : CR → Prop} (h : 0 ≤ r.1 ∧ r.1 < r.2 ∧ r.2 ≤ size) : cal f_pair_of [.val (.int size), .val (rn r)] C ↔ C (.ret (.val (rn r)) [.val (.int size), .val (rn r)]) := by
  refine cal_of (of_cal ?_)
  unfold f_pair_of
  rw [cal_def]
  have h1 : ¬ r.1 < 0 := by omega
  have h2 : ¬ r.2 ≤ r.1 := by omega
  have h3 : ¬ size < r.2 := by omega
  simp [m_pair_of, rn, gLen, h1, h2, h3]
end L2.Fn
set_option maxRecDepth 100000
set_option maxHeartbeats 4000000
/-! LibP2: the draws. -/
namespace L2.Fn
open PySem PySem.Spec PyProof.Rows L2
theorem gIx_scr {ns : List Int} {i : Nat} {x : Int} (h : ns[i]? = some x) : gIx (.scr (Js ns)) (.int (i : Int)) = some (.int x) := by
  show atI (Js ns) (i : Int) = _
  exact atI_nat (by simp [Js_get, h])
theorem pow18 : gPow (.int 10) (.int 18) = some (.val (.int 1000000000000000000)) := by
  show (if CPow 10 18 then some (S.val (.int (10 ^ (18 : Int).toNat))) else none) = _
  rw [if_pos ⟨by omega, by omega, by decide⟩] <;> rfl
theorem gMul_of {i j : Int} (h1 : -18446744073709551616 < i) (h2 : i < 18446744073709551616) : gMul (.int i) (.int j) = some (.val (.int (i * j))) := gMul_int (by omega) (by omega) (.inl ⟨by omega, by omega⟩)
theorem size_small : (16777216 : Nat) = sizeLine := by decide
/-- the first kind of cell: its digits -/
theorem draws_dig (s0 s2 s5 : S) (R : Out → Prop) (acc : List Int) (ha : ∀ x ∈ acc, 0 ≤ x) (hl : acc.length ≤ 10000) (cell : Int) (s4 : S) (h : ∀ acc', (∀ x ∈ acc', 0 ≤ x) → acc'.length ≤ acc.length + 60 → ∀ s3 s4, R (.nx [s0, .lst (Js acc'), s2, s3, s4, s5])) :
    run (sLoop (gSetM 4) (sIf (mTest (mOp gGt (mVar 3) (ret (D.int 0)))) (sSeq (sDrop (mAppN 1 (mCold (mOp gMod (mCold (mB1 gInt1 (mVar 3))) (ret (D.int 24)))))) (sAsg (mOp gDiv (mVar 3) (ret (D.int 24))) (gSetM 3))) sNil) (rangeD 0 60)) [s0, .lst (Js acc), s2, .val (.int cell), s4, s5] R := by
  refine run_loop (List.range 60) (fun done ρ => ∃ acc' c s4, ρ = [s0, .lst (Js acc'), s2, .val (.int c), s4, s5] ∧ (∀ x ∈ acc', 0 ≤ x) ∧ acc'.length ≤ acc.length + done.length) ⟨acc, cell, s4, rfl, ha, by simp⟩ ?_ ?_
  · rintro done i rest ρ e ⟨acc', c, s4, rfl, h1, h2⟩
    have hd : done.length ≤ 60 := by
      have := congrArg List.length e
      simp at this; omega
    have hs : acc'.length < sizeLine := by rw [← size_small]; omega
    by_cases hc : 0 < c
    · simp [hc, gMod_int (show (0 : Int) < 24 by omega), gDiv_int (show (0 : Int) < 24 by omega) (by omega), hs]
      refine ⟨acc' ++ [c % 24], by simp, ?_, by simp; omega⟩
      intro x hx
      rcases List.mem_append.mp hx with hx | hx
      · exact h1 x hx
      · have := List.mem_singleton.mp hx
        omega
    · simp [hc]
      exact ⟨acc', rfl, h1, by omega⟩
  · rintro ρ ⟨acc', c, s4, rfl, h1, h2⟩
    exact h acc' h1 (by simpa using h2) _ _
/-- the second kind: six numbers -/
theorem draws_six (s0 s3 : S) (R : Out → Prop) (acc : List Int) (ha : ∀ x ∈ acc, 0 ≤ x) (hl : acc.length ≤ 10000) (at' num : Int) (hat : 0 ≤ at' ∧ at' ≤ 63) (hn : 0 ≤ num ∧ num < 2147483647) (s4 : S) (h : ∀ acc', (∀ x ∈ acc', 0 ≤ x) → acc'.length ≤ acc.length + 6 → ∀ s4 s5, R (.nx [s0, .lst (Js acc'), .val (.int at'), s3, s4, s5])) :
    run (sLoop (gSetM 4) (sSeq (sAsg (mOp gMod (mCold (mB1 gInt1 (mCold (mOp gAdd (mCold (mOp gAdd (mCold (mOp gAdd (mCold (mOp gMul (mVar 5) (mVar 5))) (mCold (mOp gMul (mVar 4) (ret (D.int 40692)))))) (mVar 2))) (ret (D.int 7)))))) (ret (D.int 2147483563))) (gSetM 5)) (sDrop (mAppN 1 (mVar 5)))) (rangeD 0 6)) [s0, .lst (Js acc), .val (.int at'), s3, s4, .val (.int num)] R := by
  refine run_loop (List.range 6) (fun done ρ => ∃ acc' c s4, ρ = [s0, .lst (Js acc'), .val (.int at'), s3, s4, .val (.int c)] ∧ (0 ≤ c ∧ c < 2147483647) ∧ (∀ x ∈ acc', 0 ≤ x) ∧ acc'.length ≤ acc.length + done.length) ⟨acc, num, s4, rfl, hn, ha, by simp⟩ ?_ ?_
  · rintro done i rest ρ e ⟨acc', c, s4, rfl, hc, h1, h2⟩
    have hd : done.length ≤ 6 := by
      have := congrArg List.length e
      simp at this; omega
    have hi : i < 6 := by
      have : i ∈ List.range 6 := by rw [e]; simp
      simpa using this
    have hs : acc'.length < sizeLine := by rw [← size_small]; omega
    simp [gMul_of (i := c) (j := c) (by omega) (by omega), gMul_of (i := (i : Int)) (j := 40692) (by omega) (by omega), gMod_int (show (0 : Int) < 2147483563 by omega), hs]
    refine ⟨acc' ++ [(c * c + i * 40692 + at' + 7) % 2147483563], _, ⟨by simp, rfl⟩, ?_, ?_, by simp; omega⟩
    · omega
    · intro x hx
      rcases List.mem_append.mp hx with hx | hx
      · exact h1 x hx
      · have := List.mem_singleton.mp hx
        omega
  · rintro ρ ⟨acc', c, s4, rfl, hc, h1, h2⟩
    exact h acc' h1 (by simpa using h2) _ _
theorem s_draws (ns : List Int) (hn : ns.length ≤ 63) (C : CR → Prop) (h : ∀ ds ss, (∀ x ∈ ds, 0 ≤ x) → C (.ret (.lst (Js ds)) ss)) : cal f__law_draws [.val (.scr (Js ns))] C := by
  unfold f__law_draws
  rw [cal_def]
  simp only [m__law_draws]
  have hn' : ¬ (63 < (ns.length : Int)) := by omega
  simp [gLen, hn']
  refine ⟨rg_of (by omega) (by omega), ?_⟩
  show run (sLoop _ _ ((List.range ns.length).map fun i => D.int (0 + (i : Nat)))) _ _
  refine run_loop _ (fun done ρ => ∃ acc s2 s3 s4 s5, ρ = [.val (.scr (Js ns)), .lst (Js acc), s2, s3, s4, s5] ∧ (∀ x ∈ acc, 0 ≤ x) ∧ acc.length ≤ 60 * done.length) ⟨[], .no, .no, .no, .no, rfl, by simp, by simp⟩ ?_ ?_
  · rintro done i rest ρ e ⟨acc, s2, s3, s4, s5, rfl, ha, hl⟩
    have hi : i < ns.length := by
      have : i ∈ List.range ns.length := by rw [e]; simp
      simpa using this
    have hdl : done.length < 63 := by
      have := congrArg List.length e
      simp at this; omega
    have hx : ns[i]? = some ns[i] := by simp [hi]
    simp only [gev_set]
    refine ⟨by simp, ?_⟩
    simp only [List.set_cons_succ, List.set_cons_zero]
    refine run_seq_of (P := fun ρ' => ρ' = [.val (.scr (Js ns)), .lst (Js acc), .val (.int i), .val (.int ns[i]), s4, s5]) (by simp [gIx_scr hx]) ?_
    rintro ρ' rfl
    refine run_seq_of (P := fun ρ' => ∃ cell : Int, 0 ≤ cell ∧ ρ' = [.val (.scr (Js ns)), .lst (Js acc), .val (.int i), .val (.int cell), s4, s5]) ?_ ?_
    · by_cases hc : ns[i] < 0
      · simp [hc]; omega
      · simp [hc]; omega
    rintro ρ' ⟨cell, hcell, rfl⟩
    by_cases hb : 1000000000000000000 ≤ cell
    · simp [pow18, hb]
      refine ⟨rg_of (by omega) (by omega), ?_⟩
      exact draws_dig _ _ _ _ acc ha (by omega) cell _ fun acc' h1 h2 s3 s4 => ⟨acc', ⟨_, _, _, _, rfl⟩, h1, by omega⟩
    · simp [pow18, hb, gMul_of (i := cell) (j := 48271) (by omega) (by omega), gMul_of (i := (i : Int)) (j := 69621) (by omega) (by omega), gMod_int (show (0 : Int) < 2147483647 by omega)]
      refine ⟨rg_of (by omega) (by omega), ?_⟩
      exact draws_six _ _ _ acc ha (by omega) i _ ⟨by omega, by omega⟩ ⟨by omega, by omega⟩ _ fun acc' h1 h2 s4 s5 => ⟨acc', ⟨_, _, _, _, rfl⟩, h1, by omega⟩
  · rintro ρ ⟨acc, s2, s3, s4, s5, rfl, ha, hl⟩
    simp
    exact h _ _ (by simpa using ha)
/-- the next draw -/
def dr (ds : List Int) (m : Int) : Int := match ds.getLast? with
  | none => 0
  | some x => x % m
theorem dr_range {ds : List Int} {m : Int} (h : 0 < m) : 0 ≤ dr ds m ∧ dr ds m < m := by
  unfold dr
  split
  · omega
  · exact ⟨Int.emod_nonneg _ (by omega), Int.emod_lt_of_pos _ h⟩
theorem c_take {ds : List Int} {m : Int} {C : CR → Prop} (hm : 0 < m) : cal f__law_take [.lst (Js ds), .val (.int m)] C ↔ C (.ret (.val (.int (dr ds m))) [.lst (Js ds.dropLast), .val (.int m)]) := by
  refine cal_of (of_cal ?_)
  unfold f__law_take
  rw [cal_def]
  simp only [m__law_take]
  rcases List.eq_nil_or_concat ds with rfl | ⟨l, x, rfl⟩
  · simp [dr]
  · have : ¬ ((l.length : Int) + 1 = 0) := by omega
    simp [dr, this, gMod_int hm]
end L2.Fn
set_option maxRecDepth 100000
set_option maxHeartbeats 4000000
/-! LibP3: sets. -/
namespace L2.Fn
open PySem PySem.Spec PyProof.Rows L2
/-! ### dicts of ints as sets -/
def kd (l : List Int) : List (Key × D) := l.map fun i => (Sum.inl i, D.bl true)
@[simp] theorem kd_nil : kd [] = [] := rfl
@[simp] theorem kd_length (l : List Int) : (kd l).length = l.length := by simp [kd]
theorem valD_kd (i : Int) : ∀ l : List Int, (valD (kd l) (Sum.inl i)).isSome = decide (i ∈ l)
  | [] => rfl
  | a :: l => by
    have ih := valD_kd i l
    unfold valD kd at ih ⊢
    rw [List.map_cons, List.find?_cons]
    by_cases h : a = i
    · subst h; simp
    · have h2 : ¬ (Sum.inl a : Key) = Sum.inl i := fun e => h (Sum.inl.inj e)
      have h3 : i ≠ a := fun e => h e.symm
      simp only [h2, decide_false]
      rw [ih]
      simp [h3]
theorem valD_none {i : Int} {l : List Int} (h : i ∉ l) : valD (kd l) (Sum.inl i) = none := by
  have := valD_kd i l
  simp only [h, decide_false] at this
  exact Option.isSome_eq_false_iff.mp this |> Option.isNone_iff_eq_none.mp
theorem valD_some {i : Int} {l : List Int} (h : i ∈ l) : ∃ d, valD (kd l) (Sum.inl i) = some d := by
  have := valD_kd i l
  simp only [h, decide_true] at this
  exact Option.isSome_iff_exists.mp this
theorem putD_kd (i : Int) (l : List Int) : putD (kd l) (Sum.inl i) (.bl true) = if i ∈ l then kd l else kd (l ++ [i]) := by
  have h1 : ((kd l).any fun kv => decide (kv.1 = Sum.inl i)) = decide (i ∈ l) := by
    induction l with
    | nil => rfl
    | cons a l ih =>
      show (decide ((Sum.inl a : Key) = Sum.inl i) || (kd l).any _) = _
      rw [ih]
      by_cases h : a = i
      · subst h; simp
      · have h2 : ¬ (Sum.inl a : Key) = Sum.inl i := fun e => h (Sum.inl.inj e)
        have h3 : i ≠ a := fun e => h e.symm
        simp [h2, h3]
  unfold putD
  rw [h1]
  by_cases h : i ∈ l
  · simp only [h, decide_true, if_true]
    unfold kd
    rw [List.map_map]
    apply List.map_congr_left
    intro a _
    show (if (Sum.inl a : Key) = Sum.inl i then ((Sum.inl a : Key), D.bl true) else (Sum.inl a, D.bl true)) = _
    split <;> rfl
  · simp only [h, decide_false, Bool.false_eq_true, if_false]
    simp [kd]
theorem kd_out (l : List Int) : ((kd l).map fun kv => keyOut kv.1) = Js l := by simp [kd, Js, keyOut, Function.comp_def]
@[simp] theorem run_putN {i : Nat} {mk mv : ME D} {ρ : Slots} {R : Out → Prop} : run (sPutN i mk mv) ρ R ↔ ev mv ρ (okx (fun d ρ1 => match ρ1[i]? with
    | none => False
    | some .no => False
    | some _ => ev mk ρ1 (okx (fun k ρ2 => match ρ2[i]? with
      | some s => opx (gPutS s k d) fun s' => R (.nx (ρ2.set i s'))
      | none => False) fun C fs ρ' => R (.ex C fs ρ'))) fun C fs ρ' => R (.ex C fs ρ')) := by
  unfold sPutN
  rw [run_thn]
  have key : ∀ d ρ1, run (mk.thn fun k ρ => match ρ[i]? with
    | some s => (gPutS s k d).map fun s' => Out.nx (ρ.set i s')
    | none => none) ρ1 R ↔ ev mk ρ1 (okx (fun k ρ2 => match ρ2[i]? with
      | some s => opx (gPutS s k d) fun s' => R (.nx (ρ2.set i s'))
      | none => False) fun C fs ρ' => R (.ex C fs ρ')) := fun d ρ1 => by
    rw [run_thn]
    refine ev_congr fun k ρ2 => ?_
    unfold run
    cases h : ρ2[i]? with
    | none => simp [h]
    | some s => cases q : gPutS s k d <;> simp [h, q]
  refine ev_congr fun d ρ1 => ?_
  cases h : ρ1[i]? with
  | none => unfold run; simp [h]
  | some s =>
    cases s with
    | no => unfold run; simp [h]
    | _ =>
      rw [← key d ρ1]
      unfold run
      simp only [h] <;> exact Iff.rfl
theorem gPut_kd {l : List Int} {i : Int} (hl : l.length < 16777216) : gPutS (.dK (kd l)) (.int i) (.bl true) = some (.dK (if i ∈ l then kd l else kd (l ++ [i]))) := by
  show (if (kd l).length < sizeLine then (some (Sum.inl i : Key)).map (fun k => S.dK (putD (kd l) k (.bl true))) else none) = _
  rw [if_pos (by rw [kd_length]; exact lt_size hl), Option.map_some, putD_kd]
theorem gGet_kd {l : List Int} {i : Int} : gGetS (.dK (kd l)) (.int i) = some (valD (kd l) (Sum.inl i)) := rfl
/-- the set told as a tuple -/
def tp (l : List Int) : D := .tup (Js l)
theorem sortI_of {l : List Int} (h : l.Pairwise (· ≤ ·)) : sortI l = l := (sortI_eq (List.Perm.refl l) h).symm
/-! ### loops in two parts, enumerated lists -/
theorem run_loop_app {γ : Type} {f : γ → D} {g : MG} {b : MS} {ρ : Slots} {R : Out → Prop} (xs : List γ) (ys : List D) (I : List γ → Slots → Prop) (h0 : I [] ρ)
    (hs : ∀ done x rest ρ, xs = done ++ x :: rest → I done ρ → gev g (.val (f x)) ρ fun ρ1 => run b ρ1 fun o => match o with
      | .nx ρ' => I (done ++ [x]) ρ'
      | _ => False)
    (he : ∀ ρ, I xs ρ → run (sLoop g b ys) ρ R) : run (sLoop g b (xs.map f ++ ys)) ρ R := by
  suffices H : ∀ rest done ρ, xs = done ++ rest → I done ρ → run (sLoop g b (rest.map f ++ ys)) ρ R from H xs [] ρ rfl h0
  intro rest
  induction rest with
  | nil => intro done ρ e i; rw [List.append_nil] at e; subst e; exact he ρ i
  | cons x rest ih =>
    intro done ρ e i
    obtain ⟨ρ1, h1, r, h2, h3⟩ := hs done x rest ρ e i
    unfold run
    simp only [List.map_cons, List.cons_append, sLoop, h1, h2]
    cases r with
    | nx ρ' => exact ih (done ++ [x]) ρ' (by simp [e]) h3
    | _ => exact h3.elim
theorem run_loop_one {g : MG} {b : MS} {ρ : Slots} {R : Out → Prop} {d : D} (h : gev g (.val d) ρ fun ρ1 => run b ρ1 fun o => match o with
      | .nx ρ' => R (.nx ρ')
      | .ct ρ' => R (.nx ρ')
      | .bk ρ' => R (.nx ρ')
      | r => R r) : run (sLoop g b [d]) ρ R := by
  obtain ⟨ρ1, h1, r, h2, h3⟩ := h
  unfold run
  simp only [sLoop, h1, h2]
  cases r <;> exact ⟨_, rfl, h3⟩
theorem run_loop_nil {g : MG} {b : MS} {ρ : Slots} {R : Out → Prop} (h : R (.nx ρ)) : run (sLoop g b []) ρ R := ⟨_, rfl, h⟩
/-- an item of an enumerated list -/
def en (p : Int × Nat) : D := .tup [.int (p.2 : Nat), .int p.1]
theorem enumD_Js (l : List Int) (ys : List D) : enumD (Js l ++ ys) = (l.zipIdx.map en) ++ ys.mapIdx fun i d => D.tup [.int ((l.length + i : Nat) : Int), d] := by
  unfold enumD
  rw [List.mapIdx_append, Js_length]
  congr 1
  · apply List.ext_getElem?
    intro i
    rw [List.getElem?_mapIdx, Js_get, List.getElem?_map, List.getElem?_zipIdx]
    cases h : l[i]? with
    | none => simp
    | some x => simp [en]
  · apply List.ext_getElem?
    intro i
    rw [List.getElem?_mapIdx, List.getElem?_mapIdx]
    cases h : ys[i]? with
    | none => simp
    | some x => simp [Nat.add_comm]
theorem zip_split {l : List Int} {done rest : List (Int × Nat)} {x : Int × Nat} (e : l.zipIdx = done ++ x :: rest) : l = done.map (·.1) ++ x.1 :: rest.map (·.1) ∧ x.2 = done.length := by
  have h1 : l.zipIdx.map (·.1) = l := by simp
  refine ⟨by rw [← h1, e]; simp, ?_⟩
  have h2 : l.zipIdx[done.length]? = some x := by rw [e]; simp
  rw [List.getElem?_zipIdx] at h2
  cases h : l[done.length]? with
  | none => rw [h] at h2; cases h2
  | some y => rw [h] at h2; cases h2; simp
/-! ### set_of -/
/-- the loop of set_of, over good parts -/
def bSet : MS := (sSeq (sIf (mOr (mNot (mTest (mCall f_is_int [] (aCons (mVar 4) aNil)))) (mOr (mTest (mOp gLt (mVar 4) (ret (.int 0)))) (mOr (mTest (mOp gGe (mVar 4) (mVar 0))) (mTest (mKeyN false 2 (mVar 4)))))) (sRaise1 "BadSet" "place" (mVar 3)) sNil)
      (sPutN 2 (mVar 4) (ret (.bl true))))
theorem set_loop {many : Int} {dp : D} {l : List Int} (R : Out → Prop) (hl : l.Nodup) (hr : ∀ x ∈ l, 0 ≤ x ∧ x < many) (hn : l.length ≤ 10000) (ys : List D) (s3 s4 : S)
    (h : ∀ s3 s4, run (sLoop (gTupM 2 (gConsM (gSetM 3) (gConsM (gSetM 4) gNilM))) bSet (ys.mapIdx fun i d => D.tup [.int ((l.length + i : Nat) : Int), d])) [.val (.int many), .val dp, .dK (kd l), s3, s4] R) :
    run (sLoop (gTupM 2 (gConsM (gSetM 3) (gConsM (gSetM 4) gNilM))) bSet (enumD (Js l ++ ys))) [.val (.int many), .val dp, .dK [], s3, s4] R := by
  rw [enumD_Js]
  refine run_loop_app l.zipIdx _ (fun done ρ => ∃ s3 s4, ρ = [.val (.int many), .val dp, .dK (kd (done.map (·.1))), s3, s4]) ⟨s3, s4, rfl⟩ ?_ ?_
  · rintro done x rest ρ e ⟨s3, s4, rfl⟩
    obtain ⟨e1, e2⟩ := zip_split e
    have hx : x.1 ∈ l := by rw [e1]; simp
    have hnx : x.1 ∉ done.map (·.1) := by
      intro hm
      rw [e1] at hl
      exact (List.nodup_append.mp hl).2.2 _ hm _ List.mem_cons_self rfl
    have hlen : (done.map (·.1)).length < 16777216 := by
      have := congrArg List.length e1
      simp at this ⊢; omega
    have h1 : ¬ x.1 < 0 := by have := (hr _ hx).1; omega
    have h2 : ¬ many ≤ x.1 := by have := (hr _ hx).2; omega
    simp only [en, bSet]
    simp [h1, h2, gGet_kd, valD_none hnx, gPut_kd hlen, hnx]
  · rintro ρ ⟨s3, s4, rfl⟩
    have : l.zipIdx.map (·.1) = l := by simp
    rw [this]
    exact h s3 s4
/-- good parts as a list or a tuple -/
def Parts (dp : D) (l : List Int) : Prop := dp = .lst (Js l) ∨ dp = .tup (Js l)
theorem gSorted_Js (l : List Int) : gSorted (.lst (Js l)) = some (.lst (Js (sortI l))) := by
  show (intsD (Js l)).map _ = _
  rw [intsD_Js]; rfl
theorem c_set_of {many : Int} {l : List Int} {dp : D} {C : CR → Prop} (hp : Parts dp l) (hl : l.Nodup) (hr : ∀ x ∈ l, 0 ≤ x ∧ x < many) (hn : l.length ≤ 10000) (hm : 0 ≤ many) : cal f_set_of [.val (.int many), .val dp] C ↔ C (.ret (.val (tp (sortI l))) [.val (.int many), .val dp]) := by
  refine cal_of (of_cal ?_)
  unfold f_set_of
  rw [cal_def]
  have fin : itemsD dp = some (Js l) ∧ gIsT isLT dp = some (.val (.bl true)) := by
    rcases hp with rfl | rfl
    · exact ⟨rfl, by simp⟩
    · exact ⟨rfl, by simp⟩
  simp [m_set_of, c_check hm, fin.1, fin.2]
  have := set_loop (many := many) (dp := dp) (l := l) (R := nxt (fun ρ' => run (sRet (mB1 gTuple (mCold (mB1 gSorted (mCold (mListKN 2)))))) ρ' fun o => o = .rt (.val (tp (sortI l))) ρ' ∧ ∃ s3 s4, ρ' = [.val (.int many), .val dp, .dK (kd l), s3, s4]) fun _ => False) hl hr hn [] .no .no (fun s3 s4 => run_loop_nil (by simp [kd_out, gSorted_Js, gTuple, tp]))
  rw [List.append_nil] at this
  refine run_mono this ?_
  intro o ho
  cases o with
  | nx ρ' =>
    simp only [nxt_nx] at ho ⊢
    obtain ⟨r, h1, rfl, s3, s4, rfl⟩ := ho
    simp [kd_out, gSorted_Js, gTuple, tp]
  | _ => exact ho.elim
theorem c_set_none {many : Int} {C : CR → Prop} (hm : 0 ≤ many) : cal f_set_of [.val (.int many), .val .non] C ↔ C (.exc "BadSet" [("place", .int (-1))] [.val (.int many), .val .non]) := by
  refine cal_of (of_cal ?_)
  unfold f_set_of
  rw [cal_def]
  simp [m_set_of, c_check hm]
/-- a part that is none -/
def BadP (many : Int) (d : D) : Prop := d = .non ∨ ∃ k, d = .int k ∧ (k < 0 ∨ many ≤ k)
theorem c_set_bad {many : Int} {l : List Int} {d : D} {C : CR → Prop} (hd : BadP many d) (hl : l.Nodup) (hr : ∀ x ∈ l, 0 ≤ x ∧ x < many) (hn : l.length ≤ 10000) (hm : 0 ≤ many) (h : ∀ ss, C (.exc "BadSet" [("place", .int l.length)] ss)) : cal f_set_of [.val (.int many), .val (.lst (Js l ++ [d]))] C := by
  unfold f_set_of
  rw [cal_def]
  simp [m_set_of, c_check hm, itemsD]
  refine run_mono (set_loop (many := many) (dp := .lst (Js l ++ [d])) (l := l) (R := fun o => ∃ ρ', o = .ex "BadSet" [("place", .int l.length)] ρ') hl hr hn [d] .no .no (fun s3 s4 => run_loop_one ?_)) ?_
  · rcases hd with rfl | ⟨k, rfl, hk⟩
    · simp [bSet]
    · rcases hk with hk | hk
      · simp [bSet, hk]
      · by_cases h0 : k < 0
        · simp [bSet, h0]
        · simp [bSet, h0, hk]
  · rintro o ⟨ρ', rfl⟩
    exact h _
end L2.Fn
set_option maxRecDepth 100000
set_option maxHeartbeats 4000000
/-! LibP4: both, common, minus. -/
namespace L2.Fn
open PySem PySem.Spec PyProof.Rows L2
/-- of b, what a has not; what a has -/
def nb (a b : List Int) : List Int := b.filter fun x => !decide (x ∈ a)
def cb (a b : List Int) : List Int := b.filter fun x => decide (x ∈ a)
def un (a b : List Int) : List Int := sortI (a ++ nb a b)
theorem gTuple_Js (l : List Int) : gTuple (.lst (Js l)) = some (.val (tp l)) := rfl
theorem gTuple_tp (l : List Int) : gTuple (tp l) = some (.val (tp l)) := rfl
@[simp] theorem items_tp (l : List Int) : itemsD (tp l) = some (Js l) := rfl
theorem c_both {a b : List Int} {C : CR → Prop} (ha : a.Nodup) (hb : b.Nodup) (la : a.length ≤ 10000) (lb : b.length ≤ 10000) : cal f_both [.val (tp a), .val (tp b)] C ↔ C (.ret (.val (tp (un a b))) [.val (tp a), .val (tp b)]) := by
  refine cal_of (of_cal ?_)
  unfold f_both
  rw [cal_def]
  simp only [m_both]
  refine run_seq_of (P := fun ρ => ρ = [.val (tp a), .val (tp b), .dK (kd []), .no]) (by simp) ?_
  rintro ρ rfl
  refine run_seq_of (P := fun ρ => ∃ s3, ρ = [.val (tp a), .val (tp b), .dK (kd a), s3]) ?_ ?_
  · simp
    refine run_loop a (fun done ρ => ∃ s3, ρ = [.val (tp a), .val (tp b), .dK (kd done), s3]) ⟨_, rfl⟩ ?_ ?_
    · rintro done x rest ρ e ⟨s3, rfl⟩
      have hx : x ∉ done := by
        intro hm
        rw [e] at ha
        exact (List.nodup_append.mp ha).2.2 _ hm _ List.mem_cons_self rfl
      have hlen : done.length < 16777216 := by
        have := congrArg List.length e
        simp at this; omega
      simp [gPut_kd hlen, hx]
    · rintro ρ ⟨s3, rfl⟩
      exact ⟨_, rfl, s3, rfl⟩
  rintro ρ ⟨s3, rfl⟩
  refine run_seq_of (P := fun ρ => ∃ s3, ρ = [.val (tp a), .val (tp b), .dK (kd (a ++ nb a b)), s3]) ?_ ?_
  · simp
    refine run_loop b (fun done ρ => ∃ s3, ρ = [.val (tp a), .val (tp b), .dK (kd (a ++ nb a done)), s3]) ⟨s3, by simp [nb]⟩ ?_ ?_
    · rintro done x rest ρ e ⟨s3, rfl⟩
      have hx : x ∉ done := by
        intro hm
        rw [e] at hb
        exact (List.nodup_append.mp hb).2.2 _ hm _ List.mem_cons_self rfl
      have hlen : (a ++ nb a done).length < 16777216 := by
        have := congrArg List.length e
        have h2 : (nb a done).length ≤ done.length := List.length_filter_le _ _
        simp at this ⊢; omega
      have hn : (x ∈ a ++ nb a done) ↔ x ∈ a := by
        rw [List.mem_append]
        constructor
        · rintro (h | h)
          · exact h
          · exact absurd (List.mem_filter.mp h).1 hx
        · exact .inl
      have e2 : nb a (done ++ [x]) = if x ∈ a then nb a done else nb a done ++ [x] := by
        unfold nb
        rw [List.filter_append]
        by_cases h : x ∈ a <;> simp [h]
      simp only [e2]
      by_cases h : x ∈ a
      · simp [gPut_kd hlen, hn, h]
      · simp [gPut_kd hlen, hn, h]
    · rintro ρ ⟨s3, rfl⟩
      exact ⟨_, rfl, s3, rfl⟩
  rintro ρ ⟨s3, rfl⟩
  simp [-Js_append, kd_out, gSorted_Js, gTuple_Js, un]
/-- {x: True for x in other} -/
theorem dc_keys {a b c : S} : ∀ (l acc : List Int) (s3 : S), (acc ++ l).Nodup → acc.length + l.length ≤ 20000 → ∃ s3', dcL (gSetM 3) mYes (mVar 3) (ret (.bl true)) [3] (Js l) (kd acc) [a, b, c, s3] = some (kd (acc ++ l), [a, b, c, s3'])
  | [], acc, s3, _, _ => ⟨s3, by simp [dcL]⟩
  | x :: l, acc, s3, hn, hl => by
    have hx : x ∉ acc := fun hm => (List.nodup_append.mp hn).2.2 _ hm _ List.mem_cons_self rfl
    have h2 : acc.length < sizeLine := lt_size (by simp at hl; omega)
    obtain ⟨s3', h⟩ := dc_keys (a := a) (b := b) (c := c) l (acc ++ [x]) .no (by simpa using hn) (by simp at hl ⊢; omega)
    refine ⟨s3', ?_⟩
    simp only [List.append_assoc, List.singleton_append] at h
    simp [dcL, wipeE, gSetM, mVar, keyD, h2, putD_kd, hx]
    simp only [mYes, ret, mVar, List.getElem?_cons_zero, List.getElem?_cons_succ, List.set_cons_succ, List.set_cons_zero, putD_kd, hx, if_false]
    exact h
theorem ev_dc {it : ME (List D)} {g : MG} {tt : ME Bool} {tk tv : ME D} {vs : List Nat} {ρ : Slots} {Q : Ex S → Prop} (h : ev it ρ (okx (fun ds ρ' => ∃ acc ρ'', dcL g tt tk tv vs ds [] ρ' = some (acc, ρ'') ∧ Q (.ok (.dK acc) ρ'')) fun C fs ρ' => Q (.ex C fs ρ'))) : ev (mDc it g tt tk tv vs) ρ Q := by
  obtain ⟨r, h1, h2⟩ := h
  unfold mDc ME.bnd ev
  dsimp only
  rw [h1]
  cases r with
  | ex C fs ρ' => exact ⟨_, rfl, h2⟩
  | ok ds ρ' =>
    obtain ⟨acc, ρ'', h4, h5⟩ := h2
    exact ⟨_, by simp only [h4], h5⟩
theorem c_common {a b : List Int} {C : CR → Prop} (hb : b.Nodup) (la : a.length ≤ 10000) (lb : b.length ≤ 10000) : cal f_common [.val (tp a), .val (tp b)] C ↔ C (.ret (.val (tp (cb b a))) [.val (tp a), .val (tp b)]) := by
  refine cal_of (of_cal ?_)
  unfold f_common
  rw [cal_def]
  simp only [m_common]
  refine run_seq_of (P := fun ρ => ∃ s3, ρ = [.val (tp a), .val (tp b), .dK (kd b), s3]) ?_ ?_
  · simp only [run_asg]
    refine ev_dc ?_
    obtain ⟨s3, h⟩ := dc_keys (a := .val (tp a)) (b := .val (tp b)) (c := .no) b [] .no (by simpa using hb) (by simp; omega)
    simp
    exact ⟨_, _, h, by simp⟩
  rintro ρ ⟨s3, rfl⟩
  simp only [run_ret, ev_b1, ev_cold]
  refine ev_lc ?_
  simp
  refine ⟨le_size (by omega), ?_⟩
  obtain ⟨acc, ρ'', h1, h2, s3', h3⟩ := ev_lcI (f := D.int) (g := gSetM 3) (tt := mTest (mKeyN false 2 (mVar 3))) (te := mVar 3) (vs := [3]) (ρ := [.val (tp a), .val (tp b), .dK (kd b), s3]) a (fun done acc ρ => acc = Js (cb b done) ∧ ∃ s3, ρ = [.val (tp a), .val (tp b), .dK (kd b), s3]) ⟨rfl, s3, rfl⟩ (by
    rintro done x rest acc ρ e ⟨rfl, s3, rfl⟩
    by_cases h : x ∈ b
    · obtain ⟨d, hd⟩ := valD_some h
      simp [wipeE, gGet_kd, hd, cb, h]
    · simp [wipeE, gGet_kd, valD_none h, cb, h])
  subst h2 h3
  exact ⟨_, _, h1, by simp [gTuple_Js]⟩
theorem c_minus {a b : List Int} {C : CR → Prop} (hb : b.Nodup) (la : a.length ≤ 10000) (lb : b.length ≤ 10000) : cal f_minus [.val (tp a), .val (tp b)] C ↔ C (.ret (.val (tp (nb b a))) [.val (tp a), .val (tp b)]) := by
  refine cal_of (of_cal ?_)
  unfold f_minus
  rw [cal_def]
  simp only [m_minus]
  refine run_seq_of (P := fun ρ => ∃ s3, ρ = [.val (tp a), .val (tp b), .dK (kd b), s3]) ?_ ?_
  · simp only [run_asg]
    refine ev_dc ?_
    obtain ⟨s3, h⟩ := dc_keys (a := .val (tp a)) (b := .val (tp b)) (c := .no) b [] .no (by simpa using hb) (by simp; omega)
    simp
    exact ⟨_, _, h, by simp⟩
  rintro ρ ⟨s3, rfl⟩
  simp only [run_ret, ev_b1, ev_cold]
  refine ev_lc ?_
  simp
  refine ⟨le_size (by omega), ?_⟩
  obtain ⟨acc, ρ'', h1, h2, s3', h3⟩ := ev_lcI (f := D.int) (g := gSetM 3) (tt := mTest (mKeyN true 2 (mVar 3))) (te := mVar 3) (vs := [3]) (ρ := [.val (tp a), .val (tp b), .dK (kd b), s3]) a (fun done acc ρ => acc = Js (nb b done) ∧ ∃ s3, ρ = [.val (tp a), .val (tp b), .dK (kd b), s3]) ⟨rfl, s3, rfl⟩ (by
    rintro done x rest acc ρ e ⟨rfl, s3, rfl⟩
    by_cases h : x ∈ b
    · obtain ⟨d, hd⟩ := valD_some h
      simp [wipeE, gGet_kd, hd, nb, h]
    · simp [wipeE, gGet_kd, valD_none h, nb, h])
  subst h2 h3
  exact ⟨_, _, h1, by simp [gTuple_Js]⟩
end L2.Fn
set_option maxRecDepth 100000
set_option maxHeartbeats 4000000
/-! LibP5: markets made. -/
namespace L2.Fn
open PySem PySem.Spec PyProof.Rows L2
section
variable {m : ME D} {ρ : Slots} {R : Out → Prop}
@[simp] theorem run_fldN {L : List Str} {f : Str} {i : Nat} : run (sFldN L f i m) ρ R ↔ ev m ρ (okx (fun d ρ' => match ρ'[i]? with
    | some (.ins C fs) => (C ∈ L ∧ fs.length < 1000) ∧ R (.nx (ρ'.set i (.ins C (putD' f d fs))))
    | _ => False) fun C fs ρ' => R (.ex C fs ρ')) := by
  unfold sFldN
  rw [run_thn]
  refine ev_congr fun d ρ' => ?_
  unfold run
  cases h : ρ'[i]? with
  | none => simp [h]
  | some s =>
    cases s with
    | ins C fs => by_cases q : C ∈ L ∧ fs.length < 1000 <;> simp [h, q]
    | _ => simp [h]
/-- what __init__ left of the new instance -/
def made (C : Str) (Q : Ex S → Prop) (ρ : Slots) : CR → Prop
  | .ret (.val .non) (.ins C' fs :: _) => C' = C ∧ Q (.ok (.ins C fs) ρ)
  | .exc E fs _ => Q (.ex E fs ρ)
  | _ => False
@[simp] theorem ev_make {C : Str} {f : Fun'} {n k : Nat} {ms mk : ME (List D)} {Q : Ex S → Prop} : ev (mMakeK C f n k ms mk) ρ Q ↔ ev ms ρ (okx (fun ds ρ1 => ev mk ρ1 (okx (fun ks ρ2 => (ds.length = n ∧ ks.length = k) ∧ cal f (.ins C [] :: (ds ++ ks).map .val) (made C Q ρ2)) fun C fs ρ' => Q (.ex C fs ρ'))) fun C fs ρ' => Q (.ex C fs ρ')) := by
  unfold mMakeK
  rw [ev_bnd]
  refine ev_congr fun ds ρ1 => ?_
  rw [ev_bnd]
  refine ev_congr fun ks ρ2 => ?_
  unfold ev cal mMakeR
  by_cases h : ds.length = n ∧ ks.length = k
  · simp only [h, and_self, if_true, true_and]
    cases q : f (.ins C [] :: (ds ++ ks).map .val) with
    | none => simp
    | some c =>
      cases c with
      | exc E fs ss => simp [made]
      | ret s ss =>
        cases s with
        | val d =>
          cases d with
          | non =>
            cases ss with
            | nil => simp [made]
            | cons s0 ss =>
              cases s0 with
              | ins C' fs => by_cases e : C' = C <;> simp [made, e]
              | _ => simp [made]
          | _ => simp [made]
        | _ => simp [made]
  · simp [h]
end
/-! ### lists of runs -/
def Rs (rs : List (Int × Int)) : List D := rs.map rn
@[simp] theorem Rs_length (l : List (Int × Int)) : (Rs l).length = l.length := by simp [Rs]
@[simp] theorem Rs_nil : Rs [] = [] := rfl
theorem Rs_append (a b : List (Int × Int)) : Rs (a ++ b) = Rs a ++ Rs b := by simp [Rs]
theorem Rs_get (a : List (Int × Int)) (i : Nat) : (Rs a)[i]? = (a[i]?).map rn := by simp [Rs]
theorem enumD_map {γ : Type} (f : γ → D) (xs : List γ) : enumD (xs.map f) = xs.zipIdx.map fun p => D.tup [.int (p.2 : Nat), f p.1] := by
  unfold enumD
  apply List.ext_getElem?
  intro i
  rw [List.getElem?_mapIdx, List.getElem?_map, List.getElem?_map, List.getElem?_zipIdx]
  cases h : xs[i]? with
  | none => simp
  | some x => simp
theorem zip_split' {γ : Type} {l : List γ} {done rest : List (γ × Nat)} {x : γ × Nat} (e : l.zipIdx = done ++ x :: rest) : l = done.map (·.1) ++ x.1 :: rest.map (·.1) ∧ x.2 = done.length := by
  have h1 : l.zipIdx.map (·.1) = l := by simp
  refine ⟨by rw [← h1, e]; simp, ?_⟩
  have h2 : l.zipIdx[done.length]? = some x := by rw [e]; simp
  rw [List.getElem?_zipIdx] at h2
  cases h : l[done.length]? with
  | none => rw [h] at h2; cases h2
  | some y => rw [h] at h2; cases h2; simp
/-- runs within a row -/
def InRow (size : Int) (rs : List (Int × Int)) : Prop := ∀ r ∈ rs, 0 ≤ r.1 ∧ r.1 < r.2 ∧ r.2 ≤ size
theorem c_runs_of {size : Int} {rs : List (Int × Int)} {C : CR → Prop} (h : InRow size rs) (hn : rs.length ≤ 10000) : cal f__runs_of [.val (.int size), .val (.lst (Rs rs))] C ↔ C (.ret (.val (.tup (Rs rs))) [.val (.int size), .val (.lst (Rs rs))]) := by
  refine cal_of (of_cal ?_)
  unfold f__runs_of
  rw [cal_def]
  simp [m__runs_of, itemsD]
  rw [show enumD (Rs rs) = _ from enumD_map rn rs]
  refine run_loop rs.zipIdx (fun done ρ => ∃ s3 s4 s5, ρ = [.val (.int size), .val (.lst (Rs rs)), .lst (Rs (done.map (·.1))), s3, s4, s5]) ⟨_, _, _, rfl⟩ ?_ ?_
  · rintro done x rest ρ e ⟨s3, s4, s5, rfl⟩
    obtain ⟨e1, e2⟩ := zip_split' e
    have hx : x.1 ∈ rs := by rw [e1]; simp
    have hlen : done.length < sizeLine := lt_size (by
      have := congrArg List.length e1
      simp at this; omega)
    simp [c_pair_of (h _ hx), Rs_append, hlen]
    simp [rn, Rs]
  · rintro ρ ⟨s3, s4, s5, rfl⟩
    have : rs.zipIdx.map (·.1) = rs := by simp
    simp [this, gTuple]
/-- a market -/
def mkt (K : Str) (size : Int) (rs : List (Int × Int)) (gone : List Int) : List (Str × D) := [("size", .int size), ("runs", .tup (Rs rs)), ("gone", tp gone)]
theorem c_market {K : Str} {size : Int} {rs : List (Int × Int)} {gone : List Int} {dg : D} {C : CR → Prop} (hK : K ∈ KS) (h1 : 1 ≤ size) (h2 : size ≤ 30) (h : InRow size rs) (hn : rs.length ≤ 10000) (hp : Parts dg gone) (hg : gone.Nodup) (hr : ∀ x ∈ gone, 0 ≤ x ∧ x < rs.length) (hgn : gone.length ≤ 10000) :
    cal f_Market___init__ [.ins K [], .val (.int size), .val (.lst (Rs rs)), .val dg] C ↔ C (.ret (.val .non) [.ins K (mkt K size rs (sortI gone)), .val (.int size), .val (.lst (Rs rs)), .val dg]) := by
  refine cal_of (of_cal ?_)
  unfold f_Market___init__
  rw [cal_def]
  have e1 : ¬ (("size" : Str) = "runs") := by decide
  have e3 : ¬ (("size" : Str) = "gone") := by decide
  have e4 : ¬ (("runs" : Str) = "gone") := by decide
  have e2 : List.lookup ("runs" : Str) [("size", D.int size), ("runs", D.tup (Rs rs))] = some (.tup (Rs rs)) := by
    rw [List.lookup_cons]
    have : (("runs" : Str) == "size") = false := by decide
    rw [this]
    simp
  have hs := fun C => c_set_of (C := C) hp hg hr hgn (many := rs.length) (by omega)
  simp [m_Market___init__, c_check2 h1 h2, c_runs_of h hn, hK, putD', e1, e2, e3, e4, gLen, hs, mkt]
/-- the fields of a market -/
theorem lk_size {K : Str} {size : Int} {rs : List (Int × Int)} {gone : List Int} : List.lookup ("size" : Str) (mkt K size rs gone) = some (.int size) := by simp [mkt]
theorem lk_runs {K : Str} {size : Int} {rs : List (Int × Int)} {gone : List Int} : List.lookup ("runs" : Str) (mkt K size rs gone) = some (.tup (Rs rs)) := by
  unfold mkt
  rw [List.lookup_cons, show (("runs" : Str) == "size") = false by decide]
  simp
theorem lk_gone {K : Str} {size : Int} {rs : List (Int × Int)} {gone : List Int} : List.lookup ("gone" : Str) (mkt K size rs gone) = some (tp gone) := by
  unfold mkt
  rw [List.lookup_cons, show (("gone" : Str) == "size") = false by decide]
  rw [List.lookup_cons, show (("gone" : Str) == "runs") = false by decide]
  simp
theorem c_sup {K : Str} {f : Fun'} {ss ss' : List S} {fs : List (Str × D)} {C : CR → Prop} (h : f (.ins K fs :: ss) = some (.ret (.val .non) ss')) : cal (fnSup K f) (.ins K fs :: ss) C ↔ C (.ret (.val .non) ss') := by
  refine cal_of ?_
  unfold fnSup
  simp [h]
def kinds : List Str := ["join", "lap"]
/-- the class of a kind -/
def clsOf (k : Str) : Str := if k = "join" then "Join" else "Lap"
theorem c_built {k : Str} {size : Int} {rs : List (Int × Int)} {gone : List Int} {dg : D} {C : CR → Prop} (hk : k ∈ kinds) (h1 : 1 ≤ size) (h2 : size ≤ 30) (h : InRow size rs) (hn : rs.length ≤ 10000) (hp : Parts dg gone) (hg : gone.Nodup) (hr : ∀ x ∈ gone, 0 ≤ x ∧ x < rs.length) (hgn : gone.length ≤ 10000) :
    cal f__law_built [.val (.str k), .val (.int size), .val (.lst (Rs rs)), .val dg] C ↔ C (.ret (.ins (clsOf k) (mkt (clsOf k) size rs (sortI gone))) [.val (.str k), .val (.int size), .val (.lst (Rs rs)), .val dg]) := by
  refine cal_of (of_cal ?_)
  unfold f__law_built
  rw [cal_def]
  have ej : ∀ C : CR → Prop, cal f_Join___init__ [.ins "Join" [], .val (.int size), .val (.lst (Rs rs)), .val dg] C ↔ C (.ret (.val .non) [.ins "Join" (mkt "Join" size rs (sortI gone)), .val (.int size), .val (.lst (Rs rs)), .val dg]) := fun C => by
    refine c_sup (of_cal ?_)
    rw [c_market (K := "Join") (by decide) h1 h2 h hn hp hg hr hgn]
  have el : ∀ C : CR → Prop, cal f_Lap___init__ [.ins "Lap" [], .val (.int size), .val (.lst (Rs rs)), .val dg] C ↔ C (.ret (.val .non) [.ins "Lap" (mkt "Lap" size rs (sortI gone)), .val (.int size), .val (.lst (Rs rs)), .val dg]) := fun C => by
    refine c_sup (of_cal ?_)
    rw [c_market (K := "Lap") (by decide) h1 h2 h hn hp hg hr hgn]
  have e1 : gEq (.str "join") (.str "join") = some (.val (.bl true)) := by kernel_rfl
  have e2 : gEq (.str "lap") (.str "join") = some (.val (.bl false)) := by kernel_rfl
  rcases List.mem_cons.mp hk with rfl | hk
  · simp [m__law_built, e1, ej, made, clsOf]
  · rcases List.mem_cons.mp hk with rfl | hk
    · have : ¬ (("lap" : Str) = "join") := by decide
      simp [m__law_built, e2, el, made, clsOf, this]
    · cases hk
end L2.Fn
set_option maxRecDepth 100000
set_option maxHeartbeats 4000000
/-! LibP6: what is drawn. -/
namespace L2.Fn
open PySem PySem.Spec PyProof.Rows L2
theorem run_loop' {γ : Type} {f : γ → D} {g : MG} {b : MS} {ρ : Slots} {R : Out → Prop} (xs : List γ) (I : List γ → Slots → Prop) (h0 : I [] ρ)
    (hs : ∀ done x rest ρ, xs = done ++ x :: rest → I done ρ → ∃ ρ', (gev g (.val (f x)) ρ fun ρ1 => run b ρ1 fun o => o = .nx ρ') ∧ I (done ++ [x]) ρ')
    (he : ∀ ρ, I xs ρ → R (.nx ρ)) : run (sLoop g b (xs.map f)) ρ R :=
  run_loop xs I h0 (fun done x rest ρ e i => by
    obtain ⟨ρ', ⟨ρ1, h1, r, h2, rfl⟩, h3⟩ := hs done x rest ρ e i
    exact ⟨ρ1, h1, _, h2, h3⟩) he
theorem x_kind {ds : List Int} {C : CR → Prop} (h : ∀ k ds', k ∈ kinds → C (.ret (.val (.str k)) [.lst (Js ds')])) : cal f__law_kind [.lst (Js ds)] C := by
  unfold f__law_kind
  rw [cal_def]
  simp [m__law_kind, c_take (show (0 : Int) < 3 by omega)]
  split
  · exact h _ _ (by decide)
  · exact h _ _ (by decide)
theorem x_run {ds : List Int} {size : Int} {C : CR → Prop} (hs : 0 < size) (h : ∀ r ds', (0 ≤ r.1 ∧ r.1 < r.2 ∧ r.2 ≤ size) → C (.ret (.val (rn r)) [.lst (Js ds'), .val (.int size)])) : cal f__law_run [.lst (Js ds), .val (.int size)] C := by
  unfold f__law_run
  rw [cal_def]
  have h1 := dr_range (ds := ds) hs
  have h2 := dr_range (ds := ds.dropLast) (m := size - dr ds size) (by omega)
  simp [m__law_run, c_take hs, c_take (show 0 < size - dr ds size by omega)]
  exact h (dr ds size, dr ds size + 1 + dr ds.dropLast (size - dr ds size)) _ ⟨h1.1, by simp; omega, by simp; omega⟩
theorem x_parts {ds : List Int} {many : Int} {C : CR → Prop} (hm : 0 ≤ many) (hb : many ≤ 10000) (h : ∀ l ds', l.Pairwise (· < ·) → (∀ x ∈ l, 0 ≤ x ∧ x < many) → C (.ret (.lst (Js l)) [.lst (Js ds'), .val (.int many)])) : cal f__law_parts [.lst (Js ds), .val (.int many)] C := by
  unfold f__law_parts
  rw [cal_def]
  simp only [m__law_parts, run_ret]
  refine ev_lc ?_
  simp
  refine ⟨rg_of (by omega) (by omega), le_size (by simp [rangeD]; omega), ?_⟩
  obtain ⟨acc, ρ'', h1, l, ds', s2, h2, h3, h4, h5⟩ := ev_lcI (f := fun i : Nat => D.int (0 + (i : Nat))) (g := gSetM 2) (tt := mTest (mOp gEq (mCold (mCall f__law_take [] (mIo 0 (aCons (ret (.int 2)) aNil)))) (ret (.int 1)))) (te := mVar 2) (vs := [2]) (ρ := [.lst (Js ds), .val (.int many), .no]) (List.range many.toNat)
    (fun done acc ρ => ∃ l ds' s2, acc = Js l ∧ ρ = [.lst (Js ds'), .val (.int many), s2] ∧ l.Pairwise (· < ·) ∧ (∀ x ∈ l, 0 ≤ x ∧ x < (done.length : Int))) ⟨[], ds, .no, rfl, rfl, .nil, by simp⟩ (by
    rintro done x rest acc ρ e ⟨l, ds', s2, rfl, rfl, hp, hl⟩
    have hx : x = done.length := by
      have := congrArg (fun l => l[done.length]?) e
      simp at this
      obtain ⟨_, h⟩ := List.getElem?_eq_some_iff.mp this
      simpa using h.symm
    simp [wipeE, c_take (show (0 : Int) < 2 by omega)]
    split
    · refine ⟨l ++ [(x : Int)], by simp, ⟨_, rfl⟩, ?_, ?_⟩
      · rw [List.pairwise_append]
        refine ⟨hp, .cons (by simp) .nil, fun a ha b hb => ?_⟩
        have := hl a ha
        simp at hb; omega
      · intro y hy
        rcases List.mem_append.mp hy with hy | hy
        · have := hl y hy; omega
        · simp at hy; omega
    · refine ⟨l, rfl, ⟨_, rfl⟩, hp, fun y hy => ?_⟩
      have := hl y hy; omega)
  subst h2 h3
  refine ⟨_, _, h1, ?_⟩
  simp
  exact h l ds' h4 (fun x hx => by have := h5 x hx; simp at this; omega)
theorem gMin_of {i j : Int} : gMin2 (.int i) (.int j) = some (.val (.int (min i j))) := by
  show some (S.val (.int (if j < i then j else i))) = _
  congr 3
  split <;> omega
theorem rn_tup {a b : Int} : D.tup [.int a, .int b] = rn (a, b) := rfl
/-- one chain's loop: it stands at the start, the runs so far are within the row -/
theorem x_chain {ds : List Int} {size first last : Int} {C : CR → Prop} (hs : 0 < size) (hs2 : size ≤ 30) (h0 : 0 ≤ first) (h1 : first ≤ last) (h2 : last ≤ size)
    (h : ∀ rs ds', InRow size rs → (rs.length : Int) ≤ last - first → (∀ x : Int, ((rs.filter fun r => decide (r.1 ≤ x) && decide (x < r.2)).length : Int) = if first ≤ x ∧ x < last then 1 else 0) →
      C (.ret (.lst (Rs rs)) [.lst (Js ds'), .val (.int size), .val (.int first), .val (.int last)])) : cal f__law_chain [.lst (Js ds), .val (.int size), .val (.int first), .val (.int last)] C := by
  unfold f__law_chain
  rw [cal_def]
  simp only [m__law_chain]
  simp
  refine ⟨rg_of (by omega) (by omega), ?_⟩
  show run (sLoop _ _ ((List.range size.toNat).map fun i => D.int (0 + (i : Nat)))) _ _
  refine run_loop' _ (fun done ρ => ∃ rs ds' start s6 s7, ρ = [.lst (Js ds'), .val (.int size), .val (.int first), .val (.int last), .lst (Rs rs), .val (.int start), s6, s7] ∧ InRow size rs ∧ (rs.length : Int) ≤ start - first ∧ (start = last ∨ (done.length : Int) ≤ start - first) ∧ first ≤ start ∧ start ≤ last ∧
      (∀ x : Int, ((rs.filter fun r => decide (r.1 ≤ x) && decide (x < r.2)).length : Int) = if first ≤ x ∧ x < start then 1 else 0)) ⟨[], ds, first, .no, .no, rfl, (fun r hr => by cases hr), by simp, .inr (by simp), by omega, h1, fun x => (if_neg (show ¬ (first ≤ x ∧ x < first) by omega)).symm⟩ ?_ ?_
  · rintro done i rest ρ e ⟨rs, ds', start, s6, s7, rfl, a1, a2, a3, a4, a5, a6⟩
    by_cases hc : start < last
    · have hd := dr_range (ds := ds') hs
      have hlen : rs.length < sizeLine := lt_size (by omega)
      obtain ⟨stop, hst⟩ : ∃ stop, (if start + 1 + dr ds' size < last then start + 1 + dr ds' size else last) = stop := ⟨_, rfl⟩
      have hb : start < stop ∧ stop ≤ last := by
        rw [← hst]; split <;> omega
      refine ⟨[.lst (Js ds'.dropLast), .val (.int size), .val (.int first), .val (.int last), .lst (Rs (rs ++ [(start, stop)])), .val (.int stop), .val (.int (0 + (i : Nat))), .val (.int stop)], by simp [hc, c_take hs, hst, hlen, Rs, rn], rs ++ [(start, stop)], ds'.dropLast, stop, _, _, rfl, ?_, by simp; omega, by simp; omega, by omega, by omega, fun x => ?_⟩
      · intro r hr
        rcases List.mem_append.mp hr with hr | hr
        · exact a1 r hr
        · simp at hr; subst hr
          exact ⟨by simp; omega, by simp; omega, by simp; omega⟩
      · have := a6 x
        rw [List.filter_append, List.length_append]
        by_cases q : start ≤ x ∧ x < stop
        · have q2 : ¬ (first ≤ x ∧ x < start) := by omega
          have q3 : first ≤ x ∧ x < stop := by omega
          rw [if_neg q2] at this
          rw [if_pos q3]
          have q5 : ([(start, stop)].filter fun r : Int × Int => decide (r.1 ≤ x) && decide (x < r.2)).length = 1 := by simp [q]
          rw [q5]
          omega
        · have q3 : (first ≤ x ∧ x < stop) ↔ (first ≤ x ∧ x < start) := by omega
          simp only [q3]
          rw [← this]
          have q4 : (decide (start ≤ x) && decide (x < stop)) = false := by
            simp; omega
          simp [q4]
    · exact ⟨[.lst (Js ds'), .val (.int size), .val (.int first), .val (.int last), .lst (Rs rs), .val (.int start), .val (.int (0 + (i : Nat))), s7], by simp [hc], rs, ds', start, _, _, rfl, a1, a2, by omega, a4, a5, a6⟩
  · rintro ρ ⟨rs, ds', start, s6, s7, rfl, a1, a2, a3, a4, a5, a6⟩
    have e : start = last := by
      rcases a3 with a3 | a3
      · exact a3
      · simp at a3; omega
    subst e
    simp
    exact h rs ds' a1 a2 a6
end L2.Fn
set_option maxRecDepth 100000
set_option maxHeartbeats 4000000
/-! LibP7: the market drawn. -/
namespace L2.Fn
open PySem PySem.Spec PyProof.Rows L2
theorem InRow.append {size : Int} {a b : List (Int × Int)} (h : InRow size a) (g : InRow size b) : InRow size (a ++ b) := fun r hr => (List.mem_append.mp hr).elim (h r) (g r)
theorem InRow.sub {size : Int} {a b : List (Int × Int)} (h : InRow size a) (g : ∀ x ∈ b, x ∈ a) : InRow size b := fun r hr => h r (g r hr)
theorem InRow.nil {size : Int} : InRow size [] := fun r hr => by cases hr
/-- the inner loop of _law_chains: one chain -/
def bChains : MS := (sIf (mTest (mOp gLt (mVar 4) (mVar 1))) (sSeq (sAsg (mOp gMin2 (mVar 1) (mCold (mOp gAdd (mCold (mOp gAdd (mVar 4) (ret (.int 1)))) (mCold (mCall f__law_take [] (mIo 0 (aCons (mVar 1) aNil))))))) (gSetM 6))
  (sSeq (sDrop (mAppN 2 (mTup (mCons (mVar 4) (mCons (mVar 6) mNil)))))
  (sAsg (mWarm (mVar 6)) (gSetM 4)))) sNil)
theorem chains_in {ds : List Int} {size start : Int} {rs : List (Int × Int)} {s3 s5 s6 : S} {R : Out → Prop} (hs : 0 < size) (hs2 : size ≤ 30) (h0 : 0 ≤ start) (h1 : start ≤ size) (hr : InRow size rs) (hl : rs.length ≤ 1000)
    (h : ∀ rs' ds' st s5 s6, InRow size rs' → rs'.length ≤ rs.length + 30 → R (.nx [.lst (Js ds'), .val (.int size), .lst (Rs rs'), s3, st, s5, s6])) :
    run (sLoop (gSetM 5) bChains (rangeD 0 size.toNat)) [.lst (Js ds), .val (.int size), .lst (Rs rs), s3, .val (.int start), s5, s6] R := by
  show run (sLoop _ _ ((List.range size.toNat).map fun i => D.int (0 + (i : Nat)))) _ _
  refine run_loop' _ (fun done ρ => ∃ rs' ds' st s5 s6, ρ = [.lst (Js ds'), .val (.int size), .lst (Rs rs'), s3, .val (.int st), s5, s6] ∧ InRow size rs' ∧ rs'.length ≤ rs.length + done.length ∧ 0 ≤ st ∧ st ≤ size) ⟨rs, ds, start, s5, s6, rfl, hr, by simp, h0, h1⟩ ?_ ?_
  · rintro done i rest ρ e ⟨rs', ds', st, s5, s6, rfl, a1, a2, a3, a4⟩
    have hdl : done.length ≤ 30 := by
      have := congrArg List.length e
      simp at this; omega
    by_cases hc : st < size
    · have hd := dr_range (ds := ds') hs
      have hlen : rs'.length < sizeLine := lt_size (by omega)
      obtain ⟨stop, hst⟩ : ∃ stop, (if st + 1 + dr ds' size < size then st + 1 + dr ds' size else size) = stop := ⟨_, rfl⟩
      have hb : st < stop ∧ stop ≤ size := by
        rw [← hst]; split <;> omega
      refine ⟨[.lst (Js ds'.dropLast), .val (.int size), .lst (Rs (rs' ++ [(st, stop)])), s3, .val (.int stop), .val (.int (0 + (i : Nat))), .val (.int stop)], by simp [bChains, hc, c_take hs, hst, hlen, Rs, rn], rs' ++ [(st, stop)], ds'.dropLast, stop, _, _, rfl, ?_, by simp; omega, by omega, by omega⟩
      refine a1.append fun r hr => ?_
      simp at hr; subst hr
      exact ⟨by simp; omega, by simp; omega, by simp; omega⟩
    · exact ⟨[.lst (Js ds'), .val (.int size), .lst (Rs rs'), s3, .val (.int st), .val (.int (0 + (i : Nat))), s6], by simp [bChains, hc], rs', ds', st, _, _, rfl, a1, by simp; omega, a3, a4⟩
  · rintro ρ ⟨rs', ds', st, s5, s6, rfl, a1, a2, a3, a4⟩
    exact h rs' ds' _ _ _ a1 (by simp at a2; omega)
theorem x_chains {ds : List Int} {size : Int} {C : CR → Prop} (hs : 0 < size) (hs2 : size ≤ 30) (h : ∀ rs ds', InRow size rs → rs.length ≤ 1000 → C (.ret (.lst (Rs rs)) [.lst (Js ds'), .val (.int size)])) : cal f__law_chains [.lst (Js ds), .val (.int size)] C := by
  unfold f__law_chains
  rw [cal_def]
  simp only [m__law_chains]
  refine run_seq_of (P := fun ρ => ρ = [.lst (Js ds), .val (.int size), .lst (Rs []), .no, .no, .no, .no]) (by simp) ?_
  rintro ρ rfl
  refine run_seq_of (P := fun ρ => ∃ rs ds' s3 s4 s5 s6, ρ = [.lst (Js ds'), .val (.int size), .lst (Rs rs), s3, s4, s5, s6] ∧ InRow size rs ∧ rs.length ≤ 90) ?_ ?_
  · have hd := dr_range (ds := ds) (show (0 : Int) < 3 by omega)
    simp only [run_for]
    simp [c_take (show (0 : Int) < 3 by omega)]
    refine ⟨rg_of (by omega) (by omega), ?_⟩
    show run (sLoop _ _ ((List.range (1 + dr ds 3).toNat).map fun i => D.int (0 + (i : Nat)))) _ _
    refine run_loop' _ (fun done ρ => ∃ rs ds' s3 s4 s5 s6, ρ = [.lst (Js ds'), .val (.int size), .lst (Rs rs), s3, s4, s5, s6] ∧ InRow size rs ∧ rs.length ≤ 30 * done.length) ⟨[], _, _, _, _, _, rfl, InRow.nil, by simp⟩ ?_ ?_
    · rintro done i rest ρ e ⟨rs, ds', s3, s4, s5, s6, rfl, a1, a2⟩
      have hdl : done.length ≤ 3 := by
        have := congrArg List.length e
        simp at this; omega
      have key := chains_in (ds := ds') (size := size) (start := 0) (rs := rs) (s3 := .val (.int (i : Nat))) (s5 := s5) (s6 := s6) (R := fun o => ∃ ρ', o = .nx ρ' ∧ ∃ rs' ds' s4 s5 s6, ρ' = [.lst (Js ds'), .val (.int size), .lst (Rs rs'), .val (.int (i : Nat)), s4, s5, s6] ∧ InRow size rs' ∧ rs'.length ≤ rs.length + 30) hs hs2 (by omega) (by omega) a1 (by omega) (fun rs' ds' st s5 s6 b1 b2 => ⟨_, rfl, rs', ds', st, s5, s6, rfl, b1, b2⟩)
      obtain ⟨r, k1, ρ', rfl, rs', ds'', s4', s5', s6', rfl, b1, b2⟩ := key
      refine ⟨[.lst (Js ds''), .val (.int size), .lst (Rs rs'), .val (.int (i : Nat)), s4', s5', s6'], ?_, rs', ds'', _, s4', s5', s6', rfl, b1, by simp; omega⟩
      simp
      refine ⟨rg_of (by omega) (by omega), ?_⟩
      exact ⟨_, k1, rfl⟩
    · rintro ρ ⟨rs, ds', s3, s4, s5, s6, rfl, a1, a2⟩
      exact ⟨_, rfl, rs, ⟨ds', s3, s4, s5, s6, rfl⟩, a1, by simp at a2; omega⟩
  rintro ρ ⟨rs, ds', s3, s4, s5, s6, rfl, a1, a2⟩
  refine run_seq_of (P := fun ρ => ∃ rs ds' s3 s4 s5 s6, ρ = [.lst (Js ds'), .val (.int size), .lst (Rs rs), s3, s4, s5, s6] ∧ InRow size rs ∧ rs.length ≤ 1000) ?_ ?_
  · have hd := dr_range (ds := ds') (show (0 : Int) < 4 by omega)
    simp only [run_for]
    simp [c_take (show (0 : Int) < 4 by omega)]
    refine ⟨rg_of (by omega) (by omega), ?_⟩
    show run (sLoop _ _ ((List.range (dr ds' 4).toNat).map fun i => D.int (0 + (i : Nat)))) _ _
    refine run_loop' _ (fun done ρ => ∃ rs ds' s3 s4 s5 s6, ρ = [.lst (Js ds'), .val (.int size), .lst (Rs rs), s3, s4, s5, s6] ∧ InRow size rs ∧ rs.length ≤ 90 + done.length) ⟨rs, _, _, _, _, _, rfl, a1, by omega⟩ ?_ ?_
    · rintro done i rest ρ e ⟨rs, ds', s3, s4, s5, s6, rfl, a1, a2⟩
      have hdl : done.length ≤ 4 := by
        have := congrArg List.length e
        simp at this; omega
      have h1 := dr_range (ds := ds') hs
      have hp : 0 < size - dr ds' size := by omega
      have h2 := dr_range (ds := ds'.dropLast) hp
      have hlen : rs.length < sizeLine := lt_size (by omega)
      refine ⟨[.lst (Js ds'.dropLast.dropLast), .val (.int size), .lst (Rs (rs ++ [(dr ds' size, dr ds' size + 1 + dr ds'.dropLast (size - dr ds' size))])), s3, .val (.int (dr ds' size)), .val (.int (0 + (i : Nat))), s6], by simp [c_take hs, c_take hp, hlen, Rs, rn], _, _, _, _, _, _, rfl, ?_, by simp; omega⟩
      refine a1.append fun r hr => ?_
      simp at hr; subst hr
      exact ⟨by simp; omega, by simp; omega, by simp; omega⟩
    · rintro ρ ⟨rs, ds', s3, s4, s5, s6, rfl, a1, a2⟩
      exact ⟨_, rfl, rs, ⟨ds', s3, s4, s5, s6, rfl⟩, a1, by simp at a2; omega⟩
  rintro ρ ⟨rs, ds', s3, s4, s5, s6, rfl, a1, a2⟩
  simp
  exact h rs ds' a1 a2
end L2.Fn
set_option maxRecDepth 100000
set_option maxHeartbeats 4000000
/-! LibP8: the market drawn. -/
namespace L2.Fn
open PySem PySem.Spec PyProof.Rows L2
theorem special_lc {ds : List Int} {word size : D} {menu : List (Int × Int)} {s4 s5 : S} : ∃ rs ds' s5', lcL (gSetM 5) (mTest (mOp gLt (mCold (mCall f__law_take [] (mIo 0 (aCons (ret (.int 8)) aNil)))) (ret (.int 7)))) (mVar 5) [5] (Rs menu) [] [.lst (Js ds), .val word, .val size, .val (.lst (Rs menu)), s4, s5] = some (Rs rs, [.lst (Js ds'), .val word, .val size, .val (.lst (Rs menu)), s4, s5']) ∧ (∀ r ∈ rs, r ∈ menu) ∧ rs.length ≤ menu.length := by
  obtain ⟨acc, ρ'', h1, rs, ds', s5', h2, h3, h4, h5⟩ := ev_lcI (f := rn) (g := gSetM 5) (tt := mTest (mOp gLt (mCold (mCall f__law_take [] (mIo 0 (aCons (ret (.int 8)) aNil)))) (ret (.int 7)))) (te := mVar 5) (vs := [5]) (ρ := [.lst (Js ds), .val word, .val size, .val (.lst (Rs menu)), s4, s5]) menu
    (fun done acc ρ => ∃ rs ds' s5, acc = Rs rs ∧ ρ = [.lst (Js ds'), .val word, .val size, .val (.lst (Rs menu)), s4, s5] ∧ (∀ r ∈ rs, r ∈ menu) ∧ rs.length ≤ done.length) ⟨[], ds, s5, rfl, rfl, (fun r hr => by cases hr), by simp⟩ (by
    rintro done x rest acc ρ e ⟨rs, ds', s5, rfl, rfl, hm, hl⟩
    have hx : x ∈ menu := by rw [e]; simp
    simp [wipeE, c_take (show (0 : Int) < 8 by omega)]
    split
    · refine ⟨rs ++ [x], by simp [Rs], ⟨_, rfl⟩, fun a b hr => ?_, by simp; omega⟩
      rcases List.mem_append.mp hr with hr | hr
      · exact hm _ hr
      · simp at hr; rw [hr]; exact hx
    · exact ⟨rs, rfl, ⟨_, rfl⟩, fun a b hr => hm _ hr, by omega⟩)
  subst h2 h3
  exact ⟨rs, ds', s5', h1, h4, h5⟩
theorem InRow.all {size : Int} {l : List (Int × Int)} (h : (l.all fun r => decide (0 ≤ r.1) && (decide (r.1 < r.2) && decide (r.2 ≤ size))) = true) : InRow size l := fun r hr => by
  have := List.all_eq_true.mp h r hr
  simp at this
  exact this
theorem x_special {ds : List Int} {C : CR → Prop} (h : ∀ size rs ds', 3 ≤ size → size ≤ 5 → InRow size rs → rs.length ≤ 9 → C (.ret (.lst [.int size, .lst (Rs rs)]) [.lst (Js ds')])) : cal f__law_special [.lst (Js ds)] C := by
  unfold f__law_special
  rw [cal_def]
  simp only [m__law_special]
  refine run_seq_of (P := fun ρ => ∃ ds' word, ρ = [.lst (Js ds'), .val (.int word), .no, .no, .no, .no]) (by simp [c_take (show (0 : Int) < 3 by omega)]; exact ⟨_, rfl⟩) ?_
  rintro ρ ⟨ds, word, rfl⟩
  refine run_seq_of (P := fun ρ => ∃ ds' size menu, ρ = [.lst (Js ds'), .val (.int word), .val (.int size), .lst (Rs menu), .no, .no] ∧ 3 ≤ size ∧ size ≤ 5 ∧ InRow size menu ∧ menu.length ≤ 9) ?_ ?_
  · by_cases h0 : word = 0
    · simp [h0, lt_size, le_size]
      exact ⟨ds, 3, [(0, 1), (0, 2), (1, 2), (1, 3), (2, 3), (0, 3), (1, 2)], ⟨rfl, rfl, rfl⟩, by omega, by omega, InRow.all (by decide), by decide⟩
    · by_cases h1 : word = 1
      · simp [h0, h1, lt_size, le_size]
        exact ⟨ds, 5, [(0, 1), (1, 2), (1, 3), (2, 3), (2, 4), (3, 4), (4, 5), (0, 1), (4, 5)], ⟨rfl, rfl, rfl⟩, by omega, by omega, InRow.all (by decide), by decide⟩
      · simp [h0, h1, lt_size, le_size]
        exact ⟨ds, 4, [(0, 4), (0, 2), (2, 4), (0, 1), (1, 2), (2, 3), (3, 4), (1, 2), (0, 4)], ⟨rfl, rfl, rfl⟩, by omega, by omega, InRow.all (by decide), by decide⟩
  rintro ρ ⟨ds, size, menu, rfl, a1, a2, a3, a4⟩
  refine run_seq_of (P := fun ρ => ∃ ds' rs s5 s3, ρ = [.lst (Js ds'), .val (.int word), .val (.int size), s3, .lst (Rs rs), s5] ∧ InRow size rs ∧ rs.length ≤ 9) ?_ ?_
  · simp only [run_asg]
    refine ev_lc ?_
    obtain ⟨rs, ds', s5', h1, h2, h3⟩ := special_lc (ds := ds) (word := .int word) (size := .int size) (menu := menu) (s4 := .no) (s5 := .no)
    simp [itemsD]
    refine ⟨le_size (by omega), _, _, h1, by simp, ⟨ds', rs, ⟨s5', _, rfl⟩, a3.sub h2, by omega⟩⟩
  rintro ρ ⟨ds', rs, s5, s3, rfl, b1, b2⟩
  simp
  exact h size rs ds' a1 a2 b1 b2
end L2.Fn
set_option maxRecDepth 100000
set_option maxHeartbeats 4000000
/-! LibP9: the market drawn. -/
namespace L2.Fn
open PySem PySem.Spec PyProof.Rows L2
def cutL {α : Type} (xs : List α) (lo hi : Option Int) : List α := (xs.drop (HT.sIx xs.length 0 lo)).take (HT.sIx xs.length xs.length hi - HT.sIx xs.length 0 lo)
theorem cut_Rs (rs : List (Int × Int)) (lo hi : Option Int) : cutD (Rs rs) lo hi = Rs (cutL rs lo hi) := by
  unfold cutD cutL
  rw [Rs_length]
  simp [Rs, List.map_drop, List.map_take]
theorem cut_mem {α : Type} {xs : List α} {lo hi : Option Int} {x : α} (h : x ∈ cutL xs lo hi) : x ∈ xs := List.mem_of_mem_drop (List.mem_of_mem_take h)
theorem cut_le {α : Type} {xs : List α} {lo hi : Option Int} : (cutL xs lo hi).length ≤ xs.length := by
  unfold cutL
  rw [List.length_take, List.length_drop]; omega
theorem cut_9 {α : Type} {xs : List α} {n : Nat} : (cutL xs none (some (n : Int))).length ≤ n := by
  unfold cutL
  rw [HT.sIx_nat, HT.sIx_none, List.length_take]; omega
@[simp] theorem ev_noPart {ρ : Slots} {Q : Ex (Option Int) → Prop} : ev mNoPart ρ Q ↔ Q (.ok none ρ) := ev_ret
@[simp] theorem ev_part {m : ME D} {ρ : Slots} {Q : Ex (Option Int) → Prop} : ev (mPart m) ρ Q ↔ ev m ρ (okx (fun d ρ' => match d with
    | .int i => Q (.ok (some i) ρ')
    | _ => False) fun C fs ρ' => Q (.ex C fs ρ')) := by
  unfold mPart
  rw [ev_bnd]
  refine ev_congr fun d ρ' => ?_
  cases d <;> simp
@[simp] theorem ev_sl {m : ME D} {ml mh : ME (Option Int)} {ρ : Slots} {Q : Ex S → Prop} : ev (mSlL m ml mh) ρ Q ↔ ev m ρ (okx (fun d ρ1 => ev ml ρ1 (okx (fun lo ρ2 => ev mh ρ2 (okx (fun hi ρ3 => match d with
    | .lst xs => Q (.ok (.lst (cutD xs lo hi)) ρ3)
    | _ => False) fun C fs ρ' => Q (.ex C fs ρ'))) fun C fs ρ' => Q (.ex C fs ρ'))) fun C fs ρ' => Q (.ex C fs ρ')) := by
  unfold mSlL
  rw [ev_bnd]
  refine ev_congr fun d ρ1 => ?_
  rw [ev_bnd]
  refine ev_congr fun lo ρ2 => ?_
  rw [ev_bnd]
  refine ev_congr fun hi ρ3 => ?_
  cases d <;> simp
end L2.Fn
set_option maxRecDepth 100000
set_option maxHeartbeats 4000000
/-! LibP10: the market drawn. -/
namespace L2.Fn
open PySem PySem.Spec PyProof.Rows L2
/-- a list in a slot, one's own or not -/
def LsS (s : S) (l : List D) : Prop := s = .lst l ∨ s = .val (.lst l)
theorem size_ix {k : Int} (h0 : 0 ≤ k) (h1 : k < 10) : ∃ v : Int, gIx (.lst [.int 3, .int 1, .int 2, .int 4, .int 5, .int 3, .int 4, .int 3, .int 6, .int 2]) (.int k) = some (.int v) ∧ 1 ≤ v ∧ v ≤ 6 := by
  have : k = 0 ∨ k = 1 ∨ k = 2 ∨ k = 3 ∨ k = 4 ∨ k = 5 ∨ k = 6 ∨ k = 7 ∨ k = 8 ∨ k = 9 := by omega
  rcases this with rfl | rfl | rfl | rfl | rfl | rfl | rfl | rfl | rfl | rfl
  · exact ⟨3, rfl, by omega, by omega⟩
  · exact ⟨1, rfl, by omega, by omega⟩
  · exact ⟨2, rfl, by omega, by omega⟩
  · exact ⟨4, rfl, by omega, by omega⟩
  · exact ⟨5, rfl, by omega, by omega⟩
  · exact ⟨3, rfl, by omega, by omega⟩
  · exact ⟨4, rfl, by omega, by omega⟩
  · exact ⟨3, rfl, by omega, by omega⟩
  · exact ⟨6, rfl, by omega, by omega⟩
  · exact ⟨2, rfl, by omega, by omega⟩
theorem x_market {ds : List Int} {most : Nat} {C : CR → Prop} (hm : most ≤ 1000)
    (h : ∀ size rs gone ds', 1 ≤ size → size ≤ 8 → InRow size rs → rs.length ≤ most → gone.Nodup → (∀ x ∈ gone, 0 ≤ x ∧ x < (rs.length : Int)) → gone.length ≤ 1 →
      C (.ret (.lst [.int size, .lst (Rs rs), .lst (Js gone)]) [.lst (Js ds'), .val (.int (most : Nat))])) : cal f__law_market [.lst (Js ds), .val (.int (most : Nat))] C := by
  unfold f__law_market
  rw [cal_def]
  simp only [m__law_market]
  refine run_seq_of (P := fun ρ => ∃ ds' word, ρ = [.lst (Js ds'), .val (.int (most : Nat)), .val (.int word), .no, .no, .no, .no, .no]) (by simp [c_take (show (0 : Int) < 5 by omega)]; exact ⟨_, rfl⟩) ?_
  rintro ρ ⟨ds, word, rfl⟩
  refine run_seq_of (P := fun ρ => ∃ ds' s3 size rs s5, ρ = [.lst (Js ds'), .val (.int (most : Nat)), .val (.int word), s3, .val (.int size), s5, .no, .no] ∧ LsS s5 (Rs rs) ∧ 1 ≤ size ∧ size ≤ 8 ∧ InRow size rs ∧ rs.length ≤ 1000) ?_ ?_
  · by_cases hw : 3 ≤ word
    · simp only [run_if]
      simp [hw]
      refine x_special fun size rs ds' a1 a2 a3 a4 => ?_
      have g0 : gIx (.lst [.int size, .lst (Rs rs)]) (.int 0) = some (.int size) := rfl
      have g1 : gIx (.lst [.int size, .lst (Rs rs)]) (.int 1) = some (.lst (Rs rs)) := rfl
      simp [g0, g1]
      exact ⟨_, _, size, rs, _, ⟨rfl, rfl, rfl, rfl⟩, .inr rfl, by omega, by omega, a3, by omega⟩
    · simp only [run_if]
      simp only [ev_test, ev_op, ev_var, List.getElem?_cons_zero, List.getElem?_cons_succ, okx_ok, ev_ret, gGe_int, opx_some, hw, decide_false, Bool.false_eq_true, if_false]
      have hd := dr_range (ds := ds) (show (0 : Int) < 10 by omega)
      obtain ⟨v, hv, v1, v2⟩ := size_ix hd.1 hd.2
      refine run_seq_of (P := fun ρ => ∃ ds' size, ρ = [.lst (Js ds'), .val (.int (most : Nat)), .val (.int word), .no, .val (.int size), .no, .no, .no] ∧ 1 ≤ size ∧ size ≤ 8) ?_ ?_
      · simp [c_take (show (0 : Int) < 10 by omega), hv, le_size]
        exact ⟨_, v, ⟨rfl, rfl⟩, v1, by omega⟩
      rintro ρ ⟨ds', size, rfl, b1, b2⟩
      refine run_seq_of (P := fun ρ => ∃ ds' size, ρ = [.lst (Js ds'), .val (.int (most : Nat)), .val (.int word), .no, .val (.int size), .no, .no, .no] ∧ 1 ≤ size ∧ size ≤ 8) ?_ ?_
      · simp [c_take (show (0 : Int) < 12 by omega)]
        split
        · exact ⟨_, 8, ⟨rfl, rfl⟩, by omega, by omega⟩
        · exact ⟨_, size, ⟨rfl, rfl⟩, by omega, by omega⟩
      rintro ρ ⟨ds', size, rfl, b1, b2⟩
      simp
      refine x_chains (by omega) (by omega) fun rs ds'' c1 c2 => ?_
      simp
      exact ⟨_, _, size, rs, _, ⟨rfl, rfl, rfl, rfl⟩, .inl rfl, by omega, by omega, c1, by omega⟩
  rintro ρ ⟨ds, s3, size, rs, s5, rfl, a1, a2, a3, a4, a5⟩
  refine run_seq_of (P := fun ρ => ∃ ds' turn, ρ = [.lst (Js ds'), .val (.int (most : Nat)), .val (.int word), s3, .val (.int size), s5, .val (.int (turn : Nat)), .no]) ?_ ?_
  · simp [c_take (show (0 : Int) < 9 by omega)]
    have hd := dr_range (ds := ds) (show (0 : Int) < 9 by omega)
    exact ⟨⟨_, rfl⟩, (dr ds 9).toNat, by omega⟩
  rintro ρ ⟨ds', turn, rfl⟩
  refine run_seq_of (P := fun ρ => ∃ rs s5, ρ = [.lst (Js ds'), .val (.int (most : Nat)), .val (.int word), s3, .val (.int size), s5, .val (.int (turn : Nat)), .no] ∧ LsS s5 (Rs rs) ∧ InRow size rs ∧ rs.length ≤ 2000) ?_ ?_
  · have hl := cut_le (xs := rs) (lo := some (turn : Int)) (hi := none)
    have hl2 := cut_le (xs := rs) (lo := none) (hi := some (turn : Int))
    have hsz : (cutL rs (some (turn : Int)) none).length + (cutL rs none (some (turn : Int))).length ≤ sizeLine := le_size (by omega)
    have hin : InRow size (cutL rs (some (turn : Int)) none ++ cutL rs none (some (turn : Int))) := (a4.sub fun x hx => cut_mem hx).append (a4.sub fun x hx => cut_mem hx)
    have ga : gAdd (.lst (Rs (cutL rs (some (turn : Int)) none))) (.lst (Rs (cutL rs none (some (turn : Int))))) = some (.lst (Rs (cutL rs (some (turn : Int)) none ++ cutL rs none (some (turn : Int))))) := by
      show (if _ then _ else _) = _
      rw [if_pos (by rw [Rs_length, Rs_length]; exact hsz), Rs_append]
    by_cases ht : turn < rs.length
    · rcases a1 with rfl | rfl
      · simp [ht, cut_Rs, ga]
        exact ⟨_, .inl rfl, hin, by simp; omega⟩
      · simp [ht, cut_Rs, ga, gLen]
        exact ⟨_, .inl rfl, hin, by simp; omega⟩
    · rcases a1 with rfl | rfl
      · simp [ht]
        exact ⟨rs, .inl rfl, a4, by omega⟩
      · simp [ht, gLen]
        exact ⟨rs, .inr rfl, a4, by omega⟩
  rintro ρ ⟨rs, s5, rfl, b1, b2, b3⟩
  refine run_seq_of (P := fun ρ => ∃ rs s6, ρ = [.lst (Js ds'), .val (.int (most : Nat)), .val (.int word), s3, .val (.int size), .lst (Rs rs), s6, .no] ∧ InRow size rs ∧ rs.length ≤ most) ?_ ?_
  · have hin : InRow size (cutL rs none (some (most : Int))) := b2.sub fun x hx => cut_mem hx
    rcases b1 with rfl | rfl
    · simp [cut_Rs]
      exact ⟨_, rfl, hin, cut_9⟩
    · simp [cut_Rs]
      exact ⟨_, rfl, hin, cut_9⟩
  rintro ρ ⟨rs, s6, rfl, c1, c2⟩
  refine run_seq_of (P := fun ρ => ρ = [.lst (Js ds'), .val (.int (most : Nat)), .val (.int word), s3, .val (.int size), .lst (Rs rs), s6, .lst (Js [])]) (by simp) ?_
  rintro ρ rfl
  refine run_seq_of (P := fun ρ => ∃ ds' gone, ρ = [.lst (Js ds'), .val (.int (most : Nat)), .val (.int word), s3, .val (.int size), .lst (Rs rs), s6, .lst (Js gone)] ∧ gone.Nodup ∧ (∀ x ∈ gone, 0 ≤ x ∧ x < (rs.length : Int)) ∧ gone.length ≤ 1) ?_ ?_
  · simp [c_take (show (0 : Int) < 10 by omega)]
    split
    · split
      · rename_i h1 h2
        have hp : (0 : Int) < rs.length := by omega
        have hd := dr_range (ds := ds'.dropLast) hp
        simp [c_take hp]
        exact ⟨_, [dr ds'.dropLast rs.length], ⟨rfl, rfl⟩, by simp, by simpa using hd, by simp⟩
      · exact ⟨_, [], ⟨rfl, rfl⟩, by simp, by simp, by simp⟩
    · exact ⟨_, [], ⟨rfl, rfl⟩, by simp, by simp, by simp⟩
  rintro ρ ⟨ds'', gone, rfl, d1, d2, d3⟩
  simp
  exact h size rs gone ds'' a2 a3 c1 c2 d1 d2 d3
end L2.Fn
set_option maxRecDepth 100000
set_option maxHeartbeats 4000000
/-! LibP11: covers. -/
namespace L2.Fn
open PySem PySem.Spec PyProof.Rows L2
theorem Js_set (xs : List Int) (k : Nat) (v : Int) : (Js xs).set k (.int v) = Js (xs.set k v) := by simp [Js, List.map_set]
theorem ixN_nat {n k : Nat} (h : k < n) : ixN n (k : Int) = some k := by
  unfold ixN
  rw [if_pos (by omega), if_pos (by omega)]
  simp
theorem run_augN {i k : Nat} {g : D → D → Option D} {op : Int → Int → Int} (hg : ∀ a b, g (.int a) (.int b) = some (.int (op a b))) {mi me : ME D} {ρ : Slots} {xs : List Int} {v c : Int} {R : Out → Prop} (h0 : ρ[i]? = some (.lst (Js xs))) (h1 : mi ρ = some (.ok (.int (k : Nat)) ρ)) (hk : xs[k]? = some v) (h2 : me ρ = some (.ok (.int c) ρ))
    (h : R (.nx (ρ.set i (.lst (Js (xs.set k (op v c))))))) : run (sAugN i g mi me) ρ R := by
  have hl := (List.getElem?_eq_some_iff.mp hk).1
  have ha : atI (Js xs) (k : Int) = some (.int v) := atI_nat (by rw [Js_get, hk]; rfl)
  have hx : ixN (Js xs).length (k : Int) = some k := ixN_nat (by rw [Js_length]; exact hl)
  refine ⟨_, ?_, h⟩
  unfold sAugN ME.thn
  simp only [h0, h1, ha, h2, hg, hx, Option.map_some, Js_set]
end L2.Fn
set_option maxRecDepth 100000
set_option maxHeartbeats 4000000
/-! LibP12: covers. -/
namespace L2.Fn
open PySem PySem.Spec PyProof.Rows L2
def rb (rs : List (Int × Int)) (p : Int) : Int := (rs.getD p.toNat (0, 0)).1
def re (rs : List (Int × Int)) (p : Int) : Int := (rs.getD p.toNat (0, 0)).2
def bi (c : Bool) : Int := if c then 1 else 0
/-- the cover of the parts l at x -/
def cvS (rs : List (Int × Int)) (l : List Int) (x : Int) : Int := (l.map fun p => bi (decide (rb rs p ≤ x)) - bi (decide (re rs p ≤ x))).sum
/-- .. what begins at k, less what ends there -/
def dlt (rs : List (Int × Int)) (l : List Int) (k : Int) : Int := (l.map fun p => bi (decide (rb rs p = k)) - bi (decide (re rs p = k))).sum
theorem bi_succ (a x : Int) : bi (decide (a ≤ x + 1)) = bi (decide (a ≤ x)) + bi (decide (a = x + 1)) := by
  unfold bi
  by_cases h1 : a ≤ x
  · have h2 : a ≤ x + 1 := by omega
    have h3 : ¬ a = x + 1 := by omega
    simp [h1, h2, h3]
  · by_cases h3 : a = x + 1
    · have h2 : a ≤ x + 1 := by omega
      rw [decide_eq_false h1, decide_eq_true h3, decide_eq_true h2] <;> rfl
    · have h2 : ¬ a ≤ x + 1 := by omega
      simp [h1, h2, h3]
theorem cvS_succ (rs : List (Int × Int)) (l : List Int) (x : Int) : cvS rs l (x + 1) = cvS rs l x + dlt rs l (x + 1) := by
  induction l with
  | nil => rfl
  | cons p l ih =>
    unfold cvS dlt at ih ⊢
    simp only [List.map_cons, List.sum_cons]
    rw [ih, bi_succ, bi_succ]
    omega
theorem cvS_neg {rs : List (Int × Int)} {l : List Int} (h : ∀ p ∈ l, 0 ≤ rb rs p ∧ 0 ≤ re rs p) : cvS rs l (-1) = 0 := by
  induction l with
  | nil => rfl
  | cons p l ih =>
    have h1 := h p List.mem_cons_self
    have ih := ih fun q hq => h q (List.mem_cons_of_mem _ hq)
    unfold cvS at ih ⊢
    simp only [List.map_cons, List.sum_cons, ih]
    have a : ¬ rb rs p ≤ -1 := by omega
    have b : ¬ re rs p ≤ -1 := by omega
    simp [bi, a, b]
theorem dlt_snoc (rs : List (Int × Int)) (l : List Int) (p k : Int) : dlt rs (l ++ [p]) k = dlt rs l k + bi (decide (rb rs p = k)) - bi (decide (re rs p = k)) := by
  unfold dlt
  simp
  omega
/-- the loop over the parts: what rises where -/
theorem cover_rises {K : Str} {size : Int} {rs : List (Int × Int)} {gone l : List Int} {s3 : S} {R : Out → Prop} (hK : K ∈ KS) (hs : 1 ≤ size) (hin : InRow size rs) (hl : ∀ p ∈ l, 0 ≤ p ∧ p < (rs.length : Int))
    (h : ∀ xs s4 s5 s6, xs.length = (size + 1).toNat → (∀ k : Nat, k < (size + 1).toNat → xs[k]? = some (dlt rs l k)) → R (.nx [.val (.obj K (mkt K size rs gone)), .val (tp l), .lst (Js xs), s3, s4, s5, s6, .no, .no, .no])) :
    run (sLoop (gSetM 4) (sSeq (sAsg (mWarm (mIx (mFldN KS "runs" 0) (mVar 4))) (gTupM 2 (gConsM (gSetM 5) (gConsM (gSetM 6) gNilM))))
      (sSeq (sAugN 2 gAddI (mVar 5) (ret (.int 1))) (sAugN 2 gSubI (mVar 6) (ret (.int 1))))) (Js l)) [.val (.obj K (mkt K size rs gone)), .val (tp l), .lst (Js (List.replicate (size + 1).toNat 0)), s3, .no, .no, .no, .no, .no, .no] R := by
  refine run_loop' l (fun done ρ => ∃ xs s4 s5 s6, ρ = [.val (.obj K (mkt K size rs gone)), .val (tp l), .lst (Js xs), s3, s4, s5, s6, .no, .no, .no] ∧ xs.length = (size + 1).toNat ∧ (∀ k : Nat, k < (size + 1).toNat → xs[k]? = some (dlt rs done k))) ⟨_, .no, .no, .no, rfl, by simp, fun k hk => by simp [List.getElem?_replicate, hk, dlt]⟩ ?_ ?_
  · rintro done p rest ρ e ⟨xs, s4, s5, s6, rfl, a1, a2⟩
    have hp := hl p (by rw [e]; simp)
    obtain ⟨n, rfl⟩ : ∃ n : Nat, p = n := ⟨p.toNat, by omega⟩
    have hn : n < rs.length := by omega
    obtain ⟨r, hr⟩ : ∃ r, rs[n]? = some r := ⟨rs[n], by simp [hn]⟩
    have hrm : r ∈ rs := List.mem_of_getElem? hr
    obtain ⟨r1, r2, r3⟩ := hin r hrm
    have eb : rb rs n = r.1 := by simp [rb, List.getD, hr]
    have ee : re rs n = r.2 := by simp [re, List.getD, hr]
    have g1 : gFld KS "runs" (.obj K (mkt K size rs gone)) = some (.tup (Rs rs)) := by
      unfold gFld
      simp only [hK, if_true, lk_runs]
    have g2 : gIx (.tup (Rs rs)) (.int (n : Int)) = some (rn r) := atI_nat (by rw [Rs_get, hr]; rfl)
    obtain ⟨b, hb⟩ : ∃ b : Nat, r.1 = b := ⟨r.1.toNat, by omega⟩
    obtain ⟨c, hc⟩ : ∃ c : Nat, r.2 = c := ⟨r.2.toNat, by omega⟩
    have k1 := a2 b (by omega)
    refine ⟨[.val (.obj K (mkt K size rs gone)), .val (tp l), .lst (Js ((xs.set b (dlt rs done b + 1)).set c ((xs.set b (dlt rs done b + 1)).getD c 0 - 1))), s3, .val (.int n), .val (.int b), .val (.int c), .no, .no, .no], ?_, _, _, _, _, rfl, by simp [a1], fun k hk => ?_⟩
    · simp only [gev_set]
      refine ⟨by simp, ?_⟩
      refine run_seq_of (P := fun ρ' => ρ' = [.val (.obj K (mkt K size rs gone)), .val (tp l), .lst (Js xs), s3, .val (.int n), .val (.int b), .val (.int c), .no, .no, .no]) (by simp [g1, g2, rn, hb, hc]) ?_
      rintro ρ' rfl
      rw [run_seq]
      refine run_augN (op := (· + ·)) (k := b) (v := dlt rs done b) (c := 1) (xs := xs) (fun _ _ => rfl) rfl rfl k1 rfl ?_
      simp only [nxt_nx]
      have hc2 : c < (xs.set b (dlt rs done b + 1)).length := by simp [a1]; omega
      refine run_augN (op := (· - ·)) (k := c) (v := (xs.set b (dlt rs done b + 1)).getD c 0) (c := 1) (xs := xs.set b (dlt rs done b + 1)) (fun _ _ => rfl) rfl rfl (by rw [List.getD, List.getElem?_eq_getElem hc2]; rfl) rfl ?_
      simp
    · rw [dlt_snoc, eb, ee, hb, hc]
      have hcb : c ≠ b := by omega
      have kc := a2 c (by omega)
      have kk := a2 k hk
      have hx : (xs.set b (dlt rs done b + 1)).getD c 0 = dlt rs done c := by
        unfold List.getD
        rw [List.getElem?_set_ne (Ne.symm hcb), kc]; rfl
      rw [hx]
      by_cases e1 : k = c
      · subst e1
        rw [List.getElem?_set_self (by simp [a1]; omega)]
        have q1 : ¬ (b : Int) = k := by omega
        simp [bi, q1]
      · rw [List.getElem?_set_ne (Ne.symm e1)]
        have q2 : ¬ (c : Int) = k := by omega
        by_cases e2 : k = b
        · subst e2
          rw [List.getElem?_set_self (by omega)]
          simp [bi, q2]
        · rw [List.getElem?_set_ne (Ne.symm e2), kk]
          have q1 : ¬ (b : Int) = k := by omega
          simp [bi, q1, q2]
  · rintro ρ ⟨xs, s4, s5, s6, rfl, a1, a2⟩
    exact h xs s4 s5 s6 a1 a2
end L2.Fn
set_option maxRecDepth 100000
set_option maxHeartbeats 4000000
/-! LibP13: covers told. -/
namespace L2.Fn
open PySem PySem.Spec PyProof.Rows L2
theorem gFld_size {K : Str} {size : Int} {rs : List (Int × Int)} {gone : List Int} (hK : K ∈ KS) : gFld KS "size" (.obj K (mkt K size rs gone)) = some (.int size) := by
  unfold gFld; simp only [hK, if_true, lk_size]
theorem gFld_runs {K : Str} {size : Int} {rs : List (Int × Int)} {gone : List Int} (hK : K ∈ KS) : gFld KS "runs" (.obj K (mkt K size rs gone)) = some (.tup (Rs rs)) := by
  unfold gFld; simp only [hK, if_true, lk_runs]
theorem gFld_gone {K : Str} {size : Int} {rs : List (Int × Int)} {gone : List Int} (hK : K ∈ KS) : gFld KS "gone" (.obj K (mkt K size rs gone)) = some (tp gone) := by
  unfold gFld; simp only [hK, if_true, lk_gone]
/-- all covers -/
def covs (size : Int) (rs : List (Int × Int)) (l : List Int) : List Int := (List.range size.toNat).map fun x => cvS rs l (x : Nat)
theorem zeros {n : Nat} {ρ : Slots} {i : Nat} (hi : i < ρ.length) (hn : n ≤ 10000) : ∃ ρ', lcL (gSetM i) mYes (ret (.int 0)) [i] (rangeD 0 n) [] ρ = some (Js (List.replicate n 0), ρ') ∧ ∃ s, ρ' = ρ.set i s := by
  obtain ⟨acc, ρ', h1, h2, h3⟩ := ev_lcI (f := fun j : Nat => D.int (0 + (j : Nat))) (g := gSetM i) (tt := mYes) (te := ret (.int 0)) (vs := [i]) (ρ := ρ) (List.range n) (fun done acc ρ' => acc = Js (List.replicate done.length 0) ∧ ∃ s, ρ' = ρ.set i s) ⟨rfl, ρ[i], by simp⟩ (by
    rintro done x rest acc ρ' e ⟨rfl, s, rfl⟩
    simp [wipeE, mYes, hi]
    refine ⟨?_, _, rfl⟩
    rw [List.replicate_succ']
    simp)
  subst h2
  simp only [List.length_range] at h1
  exact ⟨ρ', h1, h3⟩
theorem rb_nn {size : Int} {rs : List (Int × Int)} (hin : InRow size rs) (p : Int) : 0 ≤ rb rs p ∧ 0 ≤ re rs p := by
  unfold rb re List.getD
  cases h : rs[p.toNat]? with
  | none => exact ⟨Int.le_refl _, Int.le_refl _⟩
  | some r =>
    have := hin r (List.mem_of_getElem? h)
    exact ⟨this.1, by simp; omega⟩
theorem c_cover {K : Str} {size : Int} {rs : List (Int × Int)} {gone l : List Int} {C : CR → Prop} (hK : K ∈ KS) (hs : 1 ≤ size) (hs2 : size ≤ 30) (hin : InRow size rs) (hl : ∀ p ∈ l, 0 ≤ p ∧ p < (rs.length : Int)) :
    cal f__cover [.val (.obj K (mkt K size rs gone)), .val (tp l)] C ↔ C (.ret (.val (tp (covs size rs l))) [.val (.obj K (mkt K size rs gone)), .val (tp l)]) := by
  refine cal_of (of_cal ?_)
  unfold f__cover
  rw [cal_def]
  simp only [m__cover]
  refine run_seq_of (P := fun ρ => ∃ s3, ρ = [.val (.obj K (mkt K size rs gone)), .val (tp l), .lst (Js (List.replicate (size + 1).toNat 0)), s3, .no, .no, .no, .no, .no, .no]) ?_ ?_
  · simp only [run_asg]
    refine ev_lc ?_
    simp [gFld_size hK]
    refine ⟨rg_of (by omega) (by omega), le_size (by simp [rangeD]; omega), ?_⟩
    obtain ⟨ρ', h1, s, rfl⟩ := zeros (n := (size + 1).toNat) (i := 3) (ρ := [.val (.obj K (mkt K size rs gone)), .val (tp l), .no, .no, .no, .no, .no, .no, .no, .no]) (by simp) (by omega)
    exact ⟨_, _, h1, by simp, s, by simp⟩
  rintro ρ ⟨s3, rfl⟩
  refine run_seq_of (P := fun ρ => ∃ xs s4 s5 s6, ρ = [.val (.obj K (mkt K size rs gone)), .val (tp l), .lst (Js xs), s3, s4, s5, s6, .no, .no, .no] ∧ ∀ k : Nat, k < (size + 1).toNat → xs[k]? = some (dlt rs l k)) ?_ ?_
  · simp only [run_for]
    simp
    exact cover_rises hK hs hin hl fun xs s4 s5 s6 _ h => ⟨_, rfl, xs, ⟨_, _, _, rfl⟩, fun k hk => h k (by omega)⟩
  rintro ρ ⟨xs, s4, s5, s6, rfl, hx'⟩
  refine run_seq_of (P := fun ρ => ρ = [.val (.obj K (mkt K size rs gone)), .val (tp l), .lst (Js xs), s3, s4, s5, s6, .lst (Js []), .no, .no]) (by simp) ?_
  rintro ρ rfl
  refine run_seq_of (P := fun ρ => ρ = [.val (.obj K (mkt K size rs gone)), .val (tp l), .lst (Js xs), s3, s4, s5, s6, .lst (Js []), .val (.int (cvS rs l (-1))), .no]) ?_ ?_
  · have e0 : cvS rs l (-1) = 0 := cvS_neg fun p _ => rb_nn hin p
    simp [e0]
  rintro ρ rfl
  refine run_seq_of (P := fun ρ => ∃ s8 s9, ρ = [.val (.obj K (mkt K size rs gone)), .val (tp l), .lst (Js xs), s3, s4, s5, s6, .lst (Js (covs size rs l)), s8, s9]) ?_ ?_
  · simp only [run_for]
    simp [gFld_size hK]
    refine ⟨rg_of (by omega) (by omega), ?_⟩
    show run (sLoop _ _ ((List.range size.toNat).map fun i => D.int (0 + (i : Nat)))) _ _
    refine run_loop' _ (fun done ρ => ∃ s9, ρ = [.val (.obj K (mkt K size rs gone)), .val (tp l), .lst (Js xs), s3, s4, s5, s6, .lst (Js ((List.range done.length).map fun x => cvS rs l (x : Nat))), .val (.int (cvS rs l ((done.length : Int) - 1))), s9]) ⟨.no, rfl⟩ ?_ ?_
    · rintro done x rest ρ e ⟨s9, rfl⟩
      have hx : x = done.length := by
        have := congrArg (fun l => l[done.length]?) e
        simp at this
        obtain ⟨_, h⟩ := List.getElem?_eq_some_iff.mp this
        simpa using h.symm
      have hlt : x < size.toNat := by
        have : x ∈ List.range size.toNat := by rw [e]; simp
        simpa using this
      have hk := hx' x (by omega)
      have g : gIx (.lst (Js xs)) (.int (x : Int)) = some (.int (dlt rs l x)) := atI_nat (by rw [Js_get, hk]; rfl)
      have e1 : cvS rs l ((done.length : Int) - 1) + dlt rs l x = cvS rs l x := by
        have := cvS_succ rs l ((x : Int) - 1)
        rw [show (x : Int) - 1 + 1 = x by omega] at this
        rw [this, ← hx]
      have hlen : done.length < sizeLine := lt_size (by omega)
      refine ⟨[.val (.obj K (mkt K size rs gone)), .val (tp l), .lst (Js xs), s3, s4, s5, s6, .lst (Js ((List.range (done ++ [x]).length).map fun x => cvS rs l (x : Nat))), .val (.int (cvS rs l (x : Int))), .val (.int x)], ?_, .val (.int x), by simp [← hx]⟩
      simp [g, e1, hlen]
      rw [List.range_succ, List.map_append, Js_append, ← hx] <;> rfl
    · rintro ρ ⟨s9, rfl⟩
      exact ⟨_, rfl, _, _, by simp only [List.length_range]; rfl⟩
  rintro ρ ⟨s8, s9, rfl⟩
  simp [gTuple_Js]
end L2.Fn
set_option maxRecDepth 100000
set_option maxHeartbeats 4000000
/-! LibP14: demands. -/
namespace L2.Fn
open PySem PySem.Spec PyProof.Rows L2
theorem copies {n : Nat} {ρ : Slots} {i j : Nat} {v : Int} (hi : i < ρ.length) (hij : i ≠ j) (hj : ρ[j]? = some (.val (.int v))) (hn : n ≤ 10000) : ∃ ρ', lcL (gSetM i) mYes (mVar j) [i] (rangeD 0 n) [] ρ = some (Js (List.replicate n v), ρ') ∧ ∃ s, ρ' = ρ.set i s := by
  obtain ⟨acc, ρ', h1, h2, h3⟩ := ev_lcI (f := fun j : Nat => D.int (0 + (j : Nat))) (g := gSetM i) (tt := mYes) (te := mVar j) (vs := [i]) (ρ := ρ) (List.range n) (fun done acc ρ' => acc = Js (List.replicate done.length v) ∧ ∃ s, ρ' = ρ.set i s) ⟨rfl, ρ[i], by simp⟩ (by
    rintro done x rest acc ρ' e ⟨rfl, s, rfl⟩
    simp [wipeE, mYes, hi, List.getElem?_set_ne hij, hj]
    refine ⟨?_, _, rfl⟩
    rw [List.replicate_succ']
    simp)
  subst h2
  simp only [List.length_range] at h1
  exact ⟨ρ', h1, h3⟩
theorem c_demand_int {K : Str} {size v : Int} {rs : List (Int × Int)} {gone : List Int} {C : CR → Prop} (hK : K ∈ KS) (hs : 1 ≤ size) (hs2 : size ≤ 30) :
    cal f_demand_of [.val (.obj K (mkt K size rs gone)), .val (.int v)] C ↔ C (.ret (.val (tp (List.replicate size.toNat v))) [.val (.obj K (mkt K size rs gone)), .val (.int v)]) := by
  refine cal_of (of_cal ?_)
  unfold f_demand_of
  rw [cal_def]
  simp only [m_demand_of, run_seq, run_if, ev_test]
  simp
  refine ev_lc ?_
  simp [gFld_size hK]
  refine ⟨rg_of (by omega) (by omega), le_size (by simp [rangeD]; omega), ?_⟩
  obtain ⟨ρ', h1, s, rfl⟩ := copies (n := size.toNat) (i := 2) (j := 1) (v := v) (ρ := [.val (.obj K (mkt K size rs gone)), .val (.int v), .no, .no, .no]) (by simp) (by omega) rfl (by omega)
  exact ⟨_, _, h1, by simp [gTuple_Js]⟩
theorem c_demand_tp {K : Str} {size : Int} {rs : List (Int × Int)} {gone d : List Int} {C : CR → Prop} (hK : K ∈ KS) (hs : 1 ≤ size) (hd : (d.length : Int) = size) :
    cal f_demand_of [.val (.obj K (mkt K size rs gone)), .val (tp d)] C ↔ C (.ret (.val (tp d)) [.val (.obj K (mkt K size rs gone)), .val (tp d)]) := by
  refine cal_of (of_cal ?_)
  have h0 : f_is_int [.val (tp d)] = some (.ret (.val (.bl false)) [.val (tp d)]) := of_cal (by
    unfold f_is_int
    rw [cal_def]
    have : isInt "tuple" = false := by decide
    simp [m_is_int, tp, this])
  have h1 : ∀ C : CR → Prop, cal f_is_int [.val (tp d)] C ↔ C (.ret (.val (.bl false)) [.val (tp d)]) := fun C => cal_of h0
  have h2 : gIsT isLT (tp d) = some (.val (.bl true)) := by simp [tp]
  have h3 : gLen (tp d) = some d.length := by simp [tp, gLen]
  unfold f_demand_of
  rw [cal_def]
  simp only [m_demand_of]
  refine run_seq_of (P := fun ρ => ρ = [.val (.obj K (mkt K size rs gone)), .val (tp d), .no, .no, .no]) (by simp [h1]) ?_
  rintro ρ rfl
  refine run_seq_of (P := fun ρ => ρ = [.val (.obj K (mkt K size rs gone)), .val (tp d), .no, .no, .no]) (by simp [h2, h3, gFld_size hK, hd]) ?_
  rintro ρ rfl
  refine run_seq_of (P := fun ρ => ∃ s3 s4, ρ = [.val (.obj K (mkt K size rs gone)), .val (tp d), .no, s3, s4]) ?_ ?_
  · simp only [run_for]
    simp
    rw [show enumD (Js d) = _ from enumD_map D.int d]
    refine run_loop' d.zipIdx (fun _ ρ => ∃ s3 s4, ρ = [.val (.obj K (mkt K size rs gone)), .val (tp d), .no, s3, s4]) ⟨_, _, rfl⟩ ?_ ?_
    · rintro done x rest ρ e ⟨s3, s4, rfl⟩
      exact ⟨[.val (.obj K (mkt K size rs gone)), .val (tp d), .no, .val (.int (x.2 : Nat)), .val (.int x.1)], by simp, _, _, rfl⟩
    · rintro ρ ⟨s3, s4, rfl⟩
      exact ⟨_, rfl, _, _, rfl⟩
  rintro ρ ⟨s3, s4, rfl⟩
  simp [gTuple_tp]
end L2.Fn
set_option maxRecDepth 100000
set_option maxHeartbeats 4000000
/-! LibP15: changed demands. -/
namespace L2.Fn
open PySem PySem.Spec PyProof.Rows L2
theorem c_check_run {K : Str} {size : Int} {rs : List (Int × Int)} {gone : List Int} {r : Int × Int} {C : CR → Prop} (hK : K ∈ KS) (h : 0 ≤ r.1 ∧ r.1 < r.2 ∧ r.2 ≤ size) :
    cal f_check_run [.val (.obj K (mkt K size rs gone)), .val (rn r)] C ↔ C (.ret (.val (rn r)) [.val (.obj K (mkt K size rs gone)), .val (rn r)]) := by
  refine cal_of (of_cal ?_)
  unfold f_check_run
  rw [cal_def]
  have h2 : gIsN (rn r) .non = some (.val (.bl false)) := rfl
  simp [m_check_run, gFld_size hK, c_pair_of h, h2]
/-- what a stock of the demand d covers -/
def Fits (k : Str) (d cs : List Int) : Prop := ∀ (i : Nat) (c e : Int), cs[i]? = some c → d[i]? = some e → e ≤ c ∧ (k = "join" → c = e)
theorem gCon_mkt {k : Str} {size : Int} {rs : List (Int × Int)} {gone : List Int} (hk : k ∈ kinds) : gCon CN_KIND "KIND" (.obj (clsOf k) (mkt (clsOf k) size rs gone)) = some (.str k) := by
  have h0 : List.lookup ("KIND" : Str) (mkt (clsOf k) size rs gone) = none := by
    unfold mkt
    rw [List.lookup_cons, show (("KIND" : Str) == "size") = false by decide, List.lookup_cons, show (("KIND" : Str) == "runs") = false by decide, List.lookup_cons, show (("KIND" : Str) == "gone") = false by decide] <;> rfl
  unfold gCon
  simp only [h0]
  rcases List.mem_cons.mp hk with rfl | hk
  · kernel_rfl
  · rcases List.mem_cons.mp hk with rfl | hk
    · kernel_rfl
    · cases hk
end L2.Fn
set_option maxRecDepth 100000
set_option maxHeartbeats 4000000
/-! LibP16: misfits. -/
namespace L2.Fn
open PySem PySem.Spec PyProof.Rows L2
theorem covs_len {size : Int} {rs : List (Int × Int)} {l : List Int} : (covs size rs l).length = size.toNat := by simp [covs]
theorem gEq_kind {k : Str} (hk : k ∈ kinds) : gEq (.str k) (.str "join") = some (.val (.bl (decide (k = "join")))) := by
  rcases List.mem_cons.mp hk with rfl | hk
  · kernel_rfl
  · rcases List.mem_cons.mp hk with rfl | hk
    · kernel_rfl
    · cases hk
theorem c_misfit_ok {k : Str} {size : Int} {rs : List (Int × Int)} {gone l d : List Int} {C : CR → Prop} (hk : k ∈ kinds) (hK : clsOf k ∈ KS) (hs : 1 ≤ size) (hs2 : size ≤ 30) (hin : InRow size rs) (hl : ∀ p ∈ l, 0 ≤ p ∧ p < (rs.length : Int)) (hd : (d.length : Int) = size) (hf : Fits k d (covs size rs l)) :
    cal f__misfit [.val (.obj (clsOf k) (mkt (clsOf k) size rs gone)), .val (tp d), .val (tp l)] C ↔ C (.ret (.val .non) [.val (.obj (clsOf k) (mkt (clsOf k) size rs gone)), .val (tp d), .val (tp l)]) := by
  refine cal_of (of_cal ?_)
  unfold f__misfit
  rw [cal_def]
  simp only [m__misfit]
  refine run_seq_of (P := fun ρ => ρ = [.val (.obj (clsOf k) (mkt (clsOf k) size rs gone)), .val (tp d), .val (tp l), .val (.bl (decide (k = "join"))), .no, .no]) (by simp [gCon_mkt hk, gEq_kind hk]) ?_
  rintro ρ rfl
  refine run_seq_of (P := fun ρ => ∃ s4 s5, ρ = [.val (.obj (clsOf k) (mkt (clsOf k) size rs gone)), .val (tp d), .val (tp l), .val (.bl (decide (k = "join"))), s4, s5]) ?_ ?_
  · simp only [run_for]
    simp [c_cover hK hs hs2 hin hl]
    rw [show enumD (Js (covs size rs l)) = _ from enumD_map D.int (covs size rs l)]
    refine run_loop' (covs size rs l).zipIdx (fun _ ρ => ∃ s4 s5, ρ = [.val (.obj (clsOf k) (mkt (clsOf k) size rs gone)), .val (tp d), .val (tp l), .val (.bl (decide (k = "join"))), s4, s5]) ⟨_, _, rfl⟩ ?_ ?_
    · rintro done x rest ρ e ⟨s4, s5, rfl⟩
      obtain ⟨e1, e2⟩ := zip_split' e
      have hc : (covs size rs l)[x.2]? = some x.1 := by rw [e1, e2]; simp
      have hlt := (List.getElem?_eq_some_iff.mp hc).1
      rw [covs_len] at hlt
      have hd2 : x.2 < d.length := by omega
      have hdx : d[x.2]? = some d[x.2] := by simp [hd2]
      obtain ⟨f1, f2⟩ := hf x.2 x.1 d[x.2] hc hdx
      have g : gIx (tp d) (.int (x.2 : Nat)) = some (.int d[x.2]) := atI_nat (by rw [Js_get, hdx]; rfl)
      have n1 : ¬ x.1 < d[x.2] := by omega
      refine ⟨[.val (.obj (clsOf k) (mkt (clsOf k) size rs gone)), .val (tp d), .val (tp l), .val (.bl (decide (k = "join"))), .val (.int (x.2 : Nat)), .val (.int x.1)], ?_, _, _, rfl⟩
      by_cases hj : k = "join"
      · have n2 : ¬ d[x.2] < x.1 := by have := f2 hj; omega
        simp [g, n1, n2, hj]
      · simp [g, n1, hj]
    · rintro ρ ⟨s4, s5, rfl⟩
      exact ⟨_, rfl, _, _, rfl⟩
  rintro ρ ⟨s4, s5, rfl⟩
  simp
end L2.Fn
set_option maxRecDepth 100000
set_option maxHeartbeats 4000000
/-! LibP17: is_stock. -/
namespace L2.Fn
open PySem PySem.Spec PyProof.Rows L2
/-- a demand: an int for all places, or a row -/
def Dem (size : Int) (dm : D) (d : List Int) : Prop := (∃ v, dm = .int v ∧ d = List.replicate size.toNat v) ∨ (dm = tp d ∧ (d.length : Int) = size)
theorem c_demand {K : Str} {size : Int} {rs : List (Int × Int)} {gone d : List Int} {dm : D} {C : CR → Prop} (hK : K ∈ KS) (hs : 1 ≤ size) (hs2 : size ≤ 30) (hd : Dem size dm d) :
    cal f_demand_of [.val (.obj K (mkt K size rs gone)), .val dm] C ↔ C (.ret (.val (tp d)) [.val (.obj K (mkt K size rs gone)), .val dm]) := by
  rcases hd with ⟨v, rfl, rfl⟩ | ⟨rfl, hl⟩
  · exact c_demand_int hK hs hs2
  · exact c_demand_tp hK hs hl
theorem Dem.len {size : Int} {dm : D} {d : List Int} (h : Dem size dm d) (hs : 1 ≤ size) : (d.length : Int) = size := by
  rcases h with ⟨v, rfl, rfl⟩ | ⟨rfl, hl⟩
  · simp; omega
  · exact hl
theorem c_is_stock {k : Str} {size : Int} {rs : List (Int × Int)} {gone l d : List Int} {dm dp : D} {C : CR → Prop} (hk : k ∈ kinds) (hK : clsOf k ∈ KS) (hs : 1 ≤ size) (hs2 : size ≤ 30) (hin : InRow size rs) (hn : rs.length ≤ 10000) (hd : Dem size dm d) (hp : Parts dp l) (hnd : l.Nodup) (hl : ∀ p ∈ l, 0 ≤ p ∧ p < (rs.length : Int)) (hll : l.length ≤ 10000) (hg : gone = []) (hf : Fits k d (covs size rs (sortI l))) :
    cal f_is_stock [.val (.obj (clsOf k) (mkt (clsOf k) size rs gone)), .val dm, .val dp] C ↔ C (.ret (.val (.bl true)) [.val (.obj (clsOf k) (mkt (clsOf k) size rs gone)), .val dm, .val dp]) := by
  subst hg
  refine cal_of (of_cal ?_)
  unfold f_is_stock
  rw [cal_def]
  have hl' : ∀ p ∈ sortI l, 0 ≤ p ∧ p < (rs.length : Int) := fun p h => hl p ((sortI_perm l).subset h)
  have hlen : (sortI l).length ≤ 10000 := by rw [(sortI_perm l).length_eq]; exact hll
  have h3 : gLen (tp (cb [] (sortI l))) = some 0 := by simp [tp, gLen, cb]
  have hc := fun C => c_common (a := sortI l) (b := []) (C := C) (by simp) hlen (by simp)
  have hset := fun C => c_set_of (C := C) (many := rs.length) hp hnd hl hll (by omega)
  have hm := fun C => c_misfit_ok (C := C) (gone := []) hk hK hs hs2 hin hl' (hd.len hs) hf
  simp [m_is_stock, c_demand hK hs hs2 hd, gFld_runs hK, gFld_gone hK, show gLen (.tup (Rs rs)) = some rs.length by simp [gLen], hset, hc, h3, hm]
end L2.Fn
set_option maxRecDepth 100000
set_option maxHeartbeats 4000000
/-! LibP18: changed. -/
namespace L2.Fn
open PySem PySem.Spec PyProof.Rows L2
theorem gList_tp (l : List Int) : gList (tp l) = some (.lst (Js l)) := rfl
theorem x_changed {k : Str} {size by_ : Int} {rs : List (Int × Int)} {gone d : List Int} {dm : D} {r : Int × Int} {C : CR → Prop} (hK : k ∈ KS) (hs : 1 ≤ size) (hs2 : size ≤ 30) (hd : Dem size dm d) (hr : 0 ≤ r.1 ∧ r.1 < r.2 ∧ r.2 ≤ size)
    (h : ∀ xs : List Int, (xs.length : Int) = size → (∀ i : Nat, xs[i]? = (d[i]?).map fun x => if r.1 ≤ i ∧ (i : Int) < r.2 then x + by_ else x) → ∀ ss, C (.ret (.val (tp xs)) ss)) :
    cal f_changed [.val (.obj k (mkt k size rs gone)), .val dm, .val (rn r), .val (.int by_)] C := by
  unfold f_changed
  rw [cal_def]
  simp only [m_changed]
  have hl := hd.len hs
  refine run_seq_of (P := fun ρ => ρ = [.val (.obj k (mkt k size rs gone)), .val dm, .val (rn r), .val (.int by_), .lst (Js d), .no, .no, .no]) (by simp [c_demand hK hs hs2 hd, gList_tp]) ?_
  rintro ρ rfl
  refine run_seq_of (P := fun ρ => ρ = [.val (.obj k (mkt k size rs gone)), .val dm, .val (rn r), .val (.int by_), .lst (Js d), .val (.int r.1), .val (.int r.2), .no]) ?_ ?_
  · simp [c_check_run hK hr]
    simp [rn]
  rintro ρ rfl
  refine run_seq_of (P := fun ρ => ρ = [.val (.obj k (mkt k size rs gone)), .val dm, .val (rn r), .val (.int by_), .lst (Js d), .val (.int r.1), .val (.int r.2), .no]) (by simp) ?_
  rintro ρ rfl
  refine run_seq_of (P := fun ρ => ∃ xs s7, ρ = [.val (.obj k (mkt k size rs gone)), .val dm, .val (rn r), .val (.int by_), .lst (Js xs), .val (.int r.1), .val (.int r.2), s7] ∧ (xs.length : Int) = size ∧ ∀ i : Nat, xs[i]? = (d[i]?).map fun x => if r.1 ≤ i ∧ (i : Int) < r.2 then x + by_ else x) ?_ ?_
  · simp only [run_for]
    simp
    refine ⟨⟨rg_of (by omega) (by omega), rg_of (by omega) (by omega)⟩, ?_⟩
    show run (sLoop _ _ ((List.range (r.2 - r.1).toNat).map fun i => D.int (r.1 + (i : Nat)))) _ _
    refine run_loop' _ (fun done ρ => ∃ xs s7, ρ = [.val (.obj k (mkt k size rs gone)), .val dm, .val (rn r), .val (.int by_), .lst (Js xs), .val (.int r.1), .val (.int r.2), s7] ∧ (xs.length : Int) = size ∧ ∀ i : Nat, xs[i]? = (d[i]?).map fun x => if r.1 ≤ i ∧ (i : Int) < r.1 + done.length then x + by_ else x) ⟨d, .no, rfl, hl, fun i => by
        have : ¬ (r.1 ≤ (i : Int) ∧ (i : Int) < r.1) := by omega
        simp [this]⟩ ?_ ?_
    · rintro done i rest ρ e ⟨xs, s7, rfl, a1, a2⟩
      have hx : i = done.length := by
        have := congrArg (fun l => l[done.length]?) e
        simp at this
        obtain ⟨_, h⟩ := List.getElem?_eq_some_iff.mp this
        simpa using h.symm
      have hlt : i < (r.2 - r.1).toNat := by
        have : i ∈ List.range (r.2 - r.1).toNat := by rw [e]; simp
        simpa using this
      obtain ⟨b, hb⟩ : ∃ b : Nat, r.1 = b := ⟨r.1.toNat, by omega⟩
      have hbl : b + i < xs.length := by omega
      have hk : xs[b + i]? = some xs[b + i] := by simp [hbl]
      refine ⟨[.val (.obj k (mkt k size rs gone)), .val dm, .val (rn r), .val (.int by_), .lst (Js (xs.set (b + i) (xs[b + i] + by_))), .val (.int r.1), .val (.int r.2), .val (.int (r.1 + (i : Nat)))], ?_, _, _, rfl, by simpa using a1, fun j => ?_⟩
      · simp only [gev_set]
        refine ⟨by simp, ?_⟩
        refine run_augN (op := (· + ·)) (k := b + i) (v := xs[b + i]) (c := by_) (xs := xs) (fun _ _ => rfl) rfl ?_ hk rfl ?_
        · simp [mVar, hb]
        · simp
      · rw [List.getElem?_set]
        have hj := a2 j
        have hbi := a2 (b + i)
        rw [hk] at hbi
        split
        · rename_i q
          subst q
          cases hd2 : d[b + i]? with
          | none => rw [hd2] at hbi; cases hbi
          | some v =>
            rw [hd2] at hbi
            have n1 : ¬ (r.1 ≤ ((b + i : Nat) : Int) ∧ ((b + i : Nat) : Int) < r.1 + done.length) := by omega
            have n2 : r.1 ≤ ((b + i : Nat) : Int) ∧ ((b + i : Nat) : Int) < r.1 + (done ++ [i]).length := by simp; omega
            simp only [Option.map_some, if_neg n1, Option.some.injEq] at hbi
            simp only [Option.map_some, if_pos n2, hbi]
        · rename_i q
          rw [hj]
          have : (r.1 ≤ (j : Int) ∧ (j : Int) < r.1 + done.length) ↔ (r.1 ≤ (j : Int) ∧ (j : Int) < r.1 + (done ++ [i]).length) := by simp; omega
          simp only [this]
    · rintro ρ ⟨xs, s7, rfl, a1, a2⟩
      refine ⟨_, rfl, xs, ⟨s7, rfl⟩, a1, fun i => ?_⟩
      have e : r.1 + ((List.range (r.2 - r.1).toNat).length : Int) = r.2 := by simp; omega
      rw [a2 i, e]
  rintro ρ ⟨xs, s7, rfl, h1, h2⟩
  simp [gTuple_Js]
  exact h xs h1 h2 _
end L2.Fn
set_option maxRecDepth 100000
set_option maxHeartbeats 4000000
/-! LibP19: the ends in order. -/
namespace L2.Fn
open PySem PySem.Spec PyProof.Rows L2
/-- an end as a triple -/
def tri (a : Int × En) : List Int := [a.1, a.2.1, a.2.2]
def triD (a : Int × En) : D := .tup (Js (tri a))
def untri (ns : List Int) : Int × En := (ns.getD 0 0, ns.getD 1 0, ns.getD 2 0)
theorem untri_tri (a : Int × En) : untri (tri a) = a := rfl
theorem tupsD_map : ∀ nss : List (List Int), tupsD (nss.map fun ns => D.tup (Js ns)) = some nss
  | [] => rfl
  | ns :: nss => by
    have h : intsD (Js ns) = some ns := intsD_Js ns
    simp [tupsD, h, tupsD_map nss]
theorem code3 (a : Int × En) : TS.code 1000 (tri a) = a.1 * 1000 ^ 2 + (a.2.1 * 1000 ^ 1 + (a.2.2 * 1000 ^ 0 + 0)) := rfl
theorem sort_ends {M : List (Int × En)} (hb : ∀ a ∈ M, (0 ≤ a.1 ∧ a.1 < 1000) ∧ (0 ≤ a.2.1 ∧ a.2.1 < 1000) ∧ (0 ≤ a.2.2 ∧ a.2.2 < 1000)) (hl : M.length < 64) :
    ∃ L : List (Int × En), L.Perm M ∧ L.Pairwise (fun a b => a.1 ≤ b.1) ∧ gSortT 3 1000 (.lst (M.map triD)) = some (.lst (L.map triD)) := by
  have e0 : M.map triD = (M.map tri).map fun ns => D.tup (Js ns) := by rw [List.map_map]; rfl
  have hall : (M.map tri).all (bdT 3 1000) = true := by
    rw [List.all_eq_true]
    intro ns hns
    obtain ⟨a, ha, rfl⟩ := List.mem_map.mp hns
    have := hb a ha
    simp [bdT, tri]
    omega
  have hp := sortT_perm 1000 (M.map tri)
  have hs := sortT_sorted 1000 (M.map tri)
  have e1 : (sortT 1000 (M.map tri)).map (tri ∘ untri) = sortT 1000 (M.map tri) := by
    refine (List.map_congr_left fun ns hns => ?_).trans (List.map_id _)
    obtain ⟨a, _, rfl⟩ := List.mem_map.mp (hp.subset hns)
    rfl
  have hp2 : ((sortT 1000 (M.map tri)).map untri).Perm M := by
    have := hp.map untri
    rw [List.map_map] at this
    rwa [show (untri ∘ tri : Int × En → Int × En) = id from rfl, List.map_id] at this
  refine ⟨(sortT 1000 (M.map tri)).map untri, hp2, ?_, ?_⟩
  · have h2 : ((sortT 1000 (M.map tri)).map untri).Pairwise fun a b => TS.code 1000 (tri a) ≤ TS.code 1000 (tri b) := by
      have hs' : ((sortT 1000 (M.map tri)).map (tri ∘ untri)).Pairwise fun a b => TS.code 1000 a ≤ TS.code 1000 b := by rw [e1]; exact hs
      exact List.pairwise_map.mpr ((List.pairwise_map.mp hs').imp fun h => h)
    refine h2.imp_of_mem fun {a b} ha hb' h => ?_
    have h3 := hb a (hp2.subset ha)
    have h4 := hb b (hp2.subset hb')
    rw [code3, code3] at h
    omega
  · unfold gSortT
    rw [e0]
    simp only [tupsD_map, Option.bind_some]
    rw [if_pos ⟨by simpa using hl, hall⟩, List.map_map]
    congr 2
    conv => lhs; rw [← e1, List.map_map]
    rfl
/-! ### a comprehension of two clauses: all ends -/
def mTe : ME D := mTup (mCons (mIx (mIx (mFldN KS "runs" 0) (mVar 3)) (mVar 4)) (mCons (mVar 3) (mCons (mVar 4) mNil)))
theorem lc2_ends {K : Str} {size : Int} {rs : List (Int × Int)} {gone : List Int} {dl : D} (hK : K ∈ KS) : ∀ (l : List Int) (acc : List D) (s3 s4 : S), (∀ p ∈ l, 0 ≤ p ∧ p < (rs.length : Int)) → acc.length + 2 * l.length ≤ 10000 →
    ∃ s3' s4', lc2O (gSetM 3) mYes (mItems (mTup (mCons (ret (.int 0)) (mCons (ret (.int 1)) mNil)))) (lc2I (gSetM 4) mYes mTe [4]) [3, 4] (Js l) acc [.val (.obj K (mkt K size rs gone)), .val dl, .no, s3, s4, .no, .no, .no, .no] = some (acc ++ (ends (rb rs) (re rs) l).map triD, [.val (.obj K (mkt K size rs gone)), .val dl, .no, s3', s4', .no, .no, .no, .no])
  | [], acc, s3, s4, _, _ => ⟨s3, s4, by simp [lc2O, ends]⟩
  | p :: l, acc, s3, s4, hl, hn => by
    have hp := hl p List.mem_cons_self
    obtain ⟨n, rfl⟩ : ∃ n : Nat, p = n := ⟨p.toNat, by omega⟩
    have hnl : n < rs.length := by omega
    obtain ⟨r, hr⟩ : ∃ r, rs[n]? = some r := ⟨rs[n], by simp [hnl]⟩
    have eb : rb rs n = r.1 := by simp [rb, List.getD, hr]
    have ee : re rs n = r.2 := by simp [re, List.getD, hr]
    have g2 : gIx (.tup (Rs rs)) (.int (n : Int)) = some (rn r) := atI_nat (by rw [Rs_get, hr]; rfl)
    have g3 : gIx (rn r) (.int 0) = some (.int r.1) := rfl
    have g4 : gIx (rn r) (.int 1) = some (.int r.2) := rfl
    have hsz : acc.length < sizeLine := lt_size (by omega)
    have hsz2 : acc.length + 1 < sizeLine := lt_size (by simp at hn; omega)
    obtain ⟨s3', s4', ih⟩ := lc2_ends (K := K) (size := size) (rs := rs) (gone := gone) (dl := dl) hK l (acc ++ [triD (r.1, ((n : Int), 0)), triD (r.2, ((n : Int), 1))]) .no .no (fun q hq => hl q (List.mem_cons_of_mem _ hq)) (by simp at hn ⊢; omega)
    refine ⟨s3', s4', ?_⟩
    have t0 : mTe [.val (.obj K (mkt K size rs gone)), .val dl, .no, .val (.int n), .val (.int 0), .no, .no, .no, .no] = some (.ok (triD (r.1, ((n : Int), 0))) [.val (.obj K (mkt K size rs gone)), .val dl, .no, .val (.int n), .val (.int 0), .no, .no, .no, .no]) := by
      obtain ⟨x, h1, h2⟩ : ev mTe [.val (.obj K (mkt K size rs gone)), .val dl, .no, .val (.int n), .val (.int 0), .no, .no, .no, .no] (fun x => x = .ok (triD (r.1, ((n : Int), 0))) [.val (.obj K (mkt K size rs gone)), .val dl, .no, .val (.int n), .val (.int 0), .no, .no, .no, .no]) := by
        simp [mTe, gFld_runs hK, g2, g3, triD, tri]
      rw [h1, h2]
    have t1 : mTe [.val (.obj K (mkt K size rs gone)), .val dl, .no, .val (.int n), .val (.int 1), .no, .no, .no, .no] = some (.ok (triD (r.2, ((n : Int), 1))) [.val (.obj K (mkt K size rs gone)), .val dl, .no, .val (.int n), .val (.int 1), .no, .no, .no, .no]) := by
      obtain ⟨x, h1, h2⟩ : ev mTe [.val (.obj K (mkt K size rs gone)), .val dl, .no, .val (.int n), .val (.int 1), .no, .no, .no, .no] (fun x => x = .ok (triD (r.2, ((n : Int), 1))) [.val (.obj K (mkt K size rs gone)), .val dl, .no, .val (.int n), .val (.int 1), .no, .no, .no, .no]) := by
        simp [mTe, gFld_runs hK, g2, g4, triD, tri]
      rw [h1, h2]
    have tm : ∀ ρ : Slots, mItems (mTup (mCons (ret (.int 0)) (mCons (ret (.int 1)) mNil))) ρ = some (.ok [.int 0, .int 1] ρ) := fun ρ => by
      obtain ⟨x, h1, h2⟩ : ev (mItems (mTup (mCons (ret (.int 0)) (mCons (ret (.int 1)) mNil)))) ρ (fun x => x = .ok [.int 0, .int 1] ρ) := by
        simp [itemsD]
      rw [h1, h2]
    have eI : lc2I (gSetM 4) mYes mTe [4] [.int 0, .int 1] acc [.val (.obj K (mkt K size rs gone)), .val dl, .no, .val (.int n), .no, .no, .no, .no, .no] = some (acc ++ [triD (r.1, ((n : Int), 0)), triD (r.2, ((n : Int), 1))], [.val (.obj K (mkt K size rs gone)), .val dl, .no, .val (.int n), .no, .no, .no, .no, .no]) := by
      simp [lc2I, wipeE, gSetM, mYes, ret, t0, t1, hsz, hsz2]
    have eE : (ends (rb rs) (re rs) ((n : Int) :: l)).map triD = [triD (r.1, ((n : Int), 0)), triD (r.2, ((n : Int), 1))] ++ (ends (rb rs) (re rs) l).map triD := by
      simp [ends, eb, ee]
    rw [eE, ← List.append_assoc, ← ih]
    show lc2O _ _ _ _ _ (D.int n :: Js l) _ _ = _
    conv => lhs; unfold lc2O
    simp [wipeE, gSetM, mYes, ret, tm]
    rw [show lc2I (gSetM 4) (ret true) mTe [4] = lc2I (gSetM 4) mYes mTe [4] from rfl, eI] <;> rfl
/-! ### the partners -/
def kt (ps : List (En × En)) : List (List Key × D) := ps.map fun q => ([.inl q.1.1, .inl q.1.2], .tup [.int q.2.1, .int q.2.2])
def endD (e : En) : D := .tup [.int e.1, .int e.2]
theorem tkey_end (e : En) : tkeyD (endD e) = some [.inl e.1, .inl e.2] := rfl
theorem putD_kt {ps : List (En × En)} {a b : En} (h : a ∉ ps.map (·.1)) : putD (kt ps) [.inl a.1, .inl a.2] (endD b) = kt (ps ++ [(a, b)]) := by
  unfold putD
  have h1 : ((kt ps).any fun kv => decide (kv.1 = [.inl a.1, .inl a.2])) = false := by
    rw [List.any_eq_false]
    intro kv hkv
    obtain ⟨q, hq, rfl⟩ := List.mem_map.mp hkv
    simp
    intro e1 e2
    exact h (List.mem_map.mpr ⟨q, hq, Prod.ext e1 e2⟩)
  rw [h1]
  simp [kt, endD]
theorem rg2 {n : Nat} (h : n ≤ 31) : gRange3 (.int 0) (.int ((2 * n : Nat) : Int)) (.int 2) = some (rangeD3 0 2 n) := by
  have key : ∀ n : Nat, n < 32 → (decide (RgC 0 ((2 * n : Nat) : Int) 2 n) && decide ((Builtin.Range.rangeSize 0 ((2 * n : Nat) : Int) 2).toNat = n)) = true := by decide
  have := key n (by omega)
  simp only [Bool.and_eq_true, decide_eq_true_eq] at this
  show (if RgC 0 ((2 * n : Nat) : Int) 2 (Builtin.Range.rangeSize 0 ((2 * n : Nat) : Int) 2).toNat then some (rangeD3 0 2 (Builtin.Range.rangeSize 0 ((2 * n : Nat) : Int) 2).toNat) else none) = _
  rw [this.2, if_pos this.1]
end L2.Fn
set_option maxRecDepth 100000
set_option maxHeartbeats 4000000
/-! LibP20: the partners. -/
namespace L2.Fn
open PySem PySem.Spec PyProof.Rows L2
theorem ev_range3_of {ma mb mc : ME D} {ρ : Slots} {QL : Ex (List D) → Prop} {x y z : D} {ds : List D} (h1 : ma ρ = some (.ok x ρ)) (h2 : mb ρ = some (.ok y ρ)) (h3 : mc ρ = some (.ok z ρ)) (hg : gRange3 x y z = some ds) (h : QL (.ok ds ρ)) : ev (mRange3 ma mb mc) ρ QL := ⟨_, by simp only [mRange3, ME.bnd, h1, h2, h3, opt, hg], h⟩
theorem ev_lc2 {it it1 : ME (List D)} {g g1 : MG} {tt tt1 : ME Bool} {te : ME D} {vs vs1 : List Nat} {ρ : Slots} {Q : Ex S → Prop} (h : ev it ρ (okx (fun ds ρ' => ∃ acc ρ'', lc2O g tt it1 (lc2I g1 tt1 te vs1) vs ds [] ρ' = some (acc, ρ'') ∧ Q (.ok (.lst acc) ρ'')) fun C fs ρ' => Q (.ex C fs ρ'))) : ev (mLc2 it g tt it1 g1 tt1 te vs vs1) ρ Q := by
  obtain ⟨r, h1, h2⟩ := h
  unfold mLc2 ME.bnd ev
  dsimp only
  rw [h1]
  cases r with
  | ex C fs ρ' => exact ⟨_, rfl, h2⟩
  | ok ds ρ' =>
    obtain ⟨acc, ρ'', h4, h5⟩ := h2
    exact ⟨_, by simp only [h4], h5⟩
theorem prs_take {L : List (Int × En)} {n i : Nat} {a b : Int × En} (hL : L.length = 2 * n) (hi : i < n) (h1 : L[2 * i]? = some a) (h2 : L[2 * i + 1]? = some b) : prs (L.take (2 * (i + 1))) = prs (L.take (2 * i)) ++ [(a.2, b.2), (b.2, a.2)] := by
  have e : L.take (2 * (i + 1)) = L.take (2 * i) ++ [a, b] := by
    rw [show 2 * (i + 1) = 2 * i + 1 + 1 by omega, List.take_add_one, List.take_add_one, h1, h2]
    simp
  rw [e, prs_app (n := i) (by rw [List.length_take]; omega)] <;> rfl
theorem c_partners {K : Str} {size : Int} {rs : List (Int × Int)} {gone l : List Int} (hK : K ∈ KS) (hs2 : size ≤ 30) (hin : InRow size rs) (hn : rs.length ≤ 900) (hl : ∀ p ∈ l, 0 ≤ p ∧ p < (rs.length : Int)) (hll : l.length ≤ 31) (hnd : l.Nodup) :
    ∃ L : List (Int × En), L.Perm (ends (rb rs) (re rs) l) ∧ L.Pairwise (fun a b => a.1 ≤ b.1) ∧ ∀ C : CR → Prop, cal f__partners [.val (.obj K (mkt K size rs gone)), .val (tp l)] C ↔ C (.ret (.dT (kt (prs L))) [.val (.obj K (mkt K size rs gone)), .val (tp l)]) := by
  have hre : ∀ p, re rs p ≤ 30 := fun p => by
    unfold re List.getD
    cases h : rs[p.toNat]? with
    | none => show (0 : Int) ≤ 30; omega
    | some r => have := hin r (List.mem_of_getElem? h); show r.2 ≤ 30; omega
  have hrb : ∀ p, rb rs p ≤ 30 := fun p => by
    unfold rb List.getD
    cases h : rs[p.toNat]? with
    | none => show (0 : Int) ≤ 30; omega
    | some r => have := hin r (List.mem_of_getElem? h); show r.1 ≤ 30; omega
  have hlen : (ends (rb rs) (re rs) l).length = 2 * l.length := ends_len
  obtain ⟨L, p1, p2, p3⟩ := sort_ends (M := ends (rb rs) (re rs) l) (fun a ha => by
    obtain ⟨p, hp, ha⟩ := List.mem_flatMap.mp ha
    have h1 := hl p hp
    have h2 := rb_nn hin p
    have h3 := hre p
    have h4 := hrb p
    rcases List.mem_cons.mp ha with rfl | ha
    · simp; omega
    · rw [List.mem_singleton] at ha
      subst ha
      simp; omega) (by omega)
  have hL : L.length = 2 * l.length := by rw [p1.length_eq, hlen]
  have hN : (L.map (·.2)).Nodup := ((p1.map _).nodup_iff).mpr (ends_nd hnd)
  refine ⟨L, p1, p2, fun C => cal_of (of_cal ?_)⟩
  unfold f__partners
  rw [cal_def]
  simp only [m__partners]
  refine run_seq_of (P := fun ρ => ∃ s3 s4, ρ = [.val (.obj K (mkt K size rs gone)), .val (tp l), .lst (L.map triD), s3, s4, .no, .no, .no, .no]) ?_ ?_
  · simp only [run_asg, ev_b1, ev_cold]
    refine ev_lc2 ?_
    obtain ⟨s3, s4, h⟩ := lc2_ends (K := K) (size := size) (rs := rs) (gone := gone) (dl := tp l) hK l [] .no .no hl (by simp; omega)
    simp
    exact ⟨_, _, h, by simp [p3]⟩
  rintro ρ ⟨s3, s4, rfl⟩
  refine run_seq_of (P := fun ρ => ρ = [.val (.obj K (mkt K size rs gone)), .val (tp l), .lst (L.map triD), s3, s4, .dT (kt (prs (L.take 0))), .no, .no, .no]) (by simp [kt, prs]) ?_
  rintro ρ rfl
  refine run_seq_of (P := fun ρ => ∃ s6 s7 s8, ρ = [.val (.obj K (mkt K size rs gone)), .val (tp l), .lst (L.map triD), s3, s4, .dT (kt (prs L)), s6, s7, s8]) ?_ ?_
  · simp only [run_for]
    refine ev_range3_of (x := .int 0) (y := .int ((2 * l.length : Nat) : Int)) (z := .int 2) rfl ?_ rfl (rg2 hll) ?_
    · simp [mLenN, hL]
    rw [okx_ok]
    show run (sLoop _ _ ((List.range l.length).map fun i => D.int (0 + (i : Nat) * 2))) _ _
    refine run_loop' _ (fun done ρ => ∃ s6 s7 s8, ρ = [.val (.obj K (mkt K size rs gone)), .val (tp l), .lst (L.map triD), s3, s4, .dT (kt (prs (L.take (2 * done.length)))), s6, s7, s8]) ⟨_, _, _, rfl⟩ ?_ ?_
    · rintro done i rest ρ e ⟨s6, s7, s8, rfl⟩
      have hx : i = done.length := by
        have := congrArg (fun l => l[done.length]?) e
        simp at this
        obtain ⟨_, h⟩ := List.getElem?_eq_some_iff.mp this
        simpa using h.symm
      have hlt : i < l.length := by
        have : i ∈ List.range l.length := by rw [e]; simp
        simpa using this
      obtain ⟨a, ha⟩ : ∃ a, L[2 * i]? = some a := ⟨_, List.getElem?_eq_getElem (by omega)⟩
      obtain ⟨b, hb⟩ : ∃ b, L[2 * i + 1]? = some b := ⟨_, List.getElem?_eq_getElem (by omega)⟩
      have ga : gIx (.lst (L.map triD)) (.int ((i : Int) * 2)) = some (triD a) := by
        have := atI_nat (xs := L.map triD) (i := 2 * i) (a := triD a) (by rw [List.getElem?_map, ha]; rfl)
        rw [show ((2 * i : Nat) : Int) = (i : Int) * 2 by omega] at this
        exact this
      have gb : gIx (.lst (L.map triD)) (.int ((i : Int) * 2 + 1)) = some (triD b) := by
        have := atI_nat (xs := L.map triD) (i := 2 * i + 1) (a := triD b) (by rw [List.getElem?_map, hb]; rfl)
        rw [show ((2 * i + 1 : Nat) : Int) = (i : Int) * 2 + 1 by omega] at this
        exact this
      have t1 : ∀ a : Int × En, gIx (triD a) (.int 1) = some (.int a.2.1) := fun _ => rfl
      have t2 : ∀ a : Int × En, gIx (triD a) (.int 2) = some (.int a.2.2) := fun _ => rfl
      have hpt := prs_take hL hlt ha hb
      have kn := prs_keys (L := L.take (2 * (i + 1))) (n := i + 1) (by rw [List.length_take]; omega)
      have nd2 : ((prs (L.take (2 * (i + 1)))).map (·.1)).Nodup := by
        rw [kn, List.map_take]
        exact hN.sublist (List.take_sublist _ _)
      rw [hpt, List.map_append] at nd2
      have na : a.2 ∉ (prs (L.take (2 * i))).map (·.1) := fun h => (List.nodup_append.mp nd2).2.2 _ h a.2 (by simp) rfl
      have nb' : b.2 ∉ (prs (L.take (2 * i))).map (·.1) := fun h => (List.nodup_append.mp nd2).2.2 _ h b.2 (by simp) rfl
      have nab : a.2 ≠ b.2 := by
        have := (List.nodup_append.mp nd2).2.1
        simpa using this
      have sz : (kt (prs (L.take (2 * i)))).length < sizeLine := lt_size (by
        have := congrArg List.length (prs_keys (L := L.take (2 * i)) (n := i) (by rw [List.length_take]; omega))
        simp [kt] at this ⊢
        omega)
      have sz2 : (kt (prs (L.take (2 * i)) ++ [(a.2, b.2)])).length < sizeLine := lt_size (by
        have := congrArg List.length (prs_keys (L := L.take (2 * i)) (n := i) (by rw [List.length_take]; omega))
        simp [kt] at this ⊢
        omega)
      have q1 : gPutS (.dT (kt (prs (L.take (2 * i))))) (endD a.2) (endD b.2) = some (.dT (kt (prs (L.take (2 * i)) ++ [(a.2, b.2)]))) := by
        simp only [gPutS, if_pos sz, tkey_end, Option.map_some, putD_kt na]
      have q2 : gPutS (.dT (kt (prs (L.take (2 * i)) ++ [(a.2, b.2)]))) (endD b.2) (endD a.2) = some (.dT (kt (prs (L.take (2 * (i + 1)))))) := by
        have : b.2 ∉ (prs (L.take (2 * i)) ++ [(a.2, b.2)]).map (·.1) := by
          rw [List.map_append, List.mem_append]
          rintro (h | h)
          · exact nb' h
          · simp at h; exact nab h.symm
        simp only [gPutS, if_pos sz2, tkey_end, Option.map_some, putD_kt this, hpt]
        simp
      refine ⟨[.val (.obj K (mkt K size rs gone)), .val (tp l), .lst (L.map triD), s3, s4, .dT (kt (prs (L.take (2 * (i + 1))))), .val (.int (0 + (i : Nat) * 2)), .val (endD a.2), .val (endD b.2)], ?_, .val (.int (0 + (i : Nat) * 2)), .val (endD a.2), .val (endD b.2), by simp [← hx]⟩
      rw [← hx]
      simp only [gev_set]
      refine ⟨by simp, ?_⟩
      refine run_seq_of (P := fun ρ' => ρ' = [.val (.obj K (mkt K size rs gone)), .val (tp l), .lst (L.map triD), s3, s4, .dT (kt (prs (L.take (2 * i)))), .val (.int (0 + (i : Nat) * 2)), .val (endD a.2), s8]) (by simp [ga, t1, t2, endD]) ?_
      rintro ρ' rfl
      refine run_seq_of (P := fun ρ' => ρ' = [.val (.obj K (mkt K size rs gone)), .val (tp l), .lst (L.map triD), s3, s4, .dT (kt (prs (L.take (2 * i)))), .val (.int (0 + (i : Nat) * 2)), .val (endD a.2), .val (endD b.2)]) (by simp [gb, t1, t2, endD]) ?_
      rintro ρ' rfl
      simp [q1, q2]
    · rintro ρ ⟨s6, s7, s8, rfl⟩
      refine ⟨_, rfl, s6, s7, s8, ?_⟩
      rw [List.length_range, ← hL, List.take_length]
  rintro ρ ⟨s6, s7, s8, rfl⟩
  simp
end L2.Fn
set_option maxRecDepth 100000
set_option maxHeartbeats 4000000
/-! LibP21: the halves. -/
namespace L2.Fn
open PySem PySem.Spec PyProof.Rows L2
theorem nd_sub : ∀ {a b : List Int}, a.Nodup → (∀ x ∈ a, x ∈ b) → a.length ≤ b.length
  | [], _, _, _ => Nat.zero_le _
  | x :: a, b, hn, h => by
    obtain ⟨h1, h2⟩ := List.nodup_cons.mp hn
    have hx := h x List.mem_cons_self
    have := nd_sub (b := b.erase x) h2 fun y hy => (List.mem_erase_of_ne fun e => h1 (by rw [← e]; exact hy)).mpr (h y (List.mem_cons_of_mem _ hy))
    rw [List.length_erase_of_mem hx] at this
    have : 0 < b.length := List.length_pos_of_mem hx
    simp; omega
/-- sides, as a dict -/
def ks (sd : List (Int × Int)) : List (Key × D) := sd.map fun q => (.inl q.1, .int q.2)
def sdF (sd : List (Int × Int)) : Sd := fun p => (sd.find? fun q => decide (q.1 = p)).map (·.2)
theorem valD_ks (p : Int) : ∀ sd : List (Int × Int), valD (ks sd) (.inl p) = (sdF sd p).map D.int
  | [] => rfl
  | q :: sd => by
    have ih := valD_ks p sd
    unfold valD ks sdF at ih ⊢
    rw [List.map_cons, List.find?_cons, List.find?_cons]
    by_cases h : q.1 = p
    · simp [h]
    · have h2 : ¬ (Sum.inl q.1 : Key) = Sum.inl p := fun e => h (Sum.inl.inj e)
      simp only [h, h2, decide_false]
      exact ih
theorem sdF_none {p : Int} : ∀ {sd : List (Int × Int)}, sdF sd p = none ↔ p ∉ sd.map (·.1)
  | [] => by simp [sdF]
  | q :: sd => by
    have ih := sdF_none (p := p) (sd := sd)
    unfold sdF at ih ⊢
    rw [List.find?_cons]
    by_cases h : q.1 = p
    · simp [h]
    · have h2 : p ≠ q.1 := fun e => h e.symm
      simp only [h, decide_false]
      rw [ih]
      simp [h2]
theorem sdF_app {p v : Int} {sd : List (Int × Int)} (h : sdF sd p = none) : sdF (sd ++ [(p, v)]) = upd1 (sdF sd) p v := by
  funext x
  unfold upd1
  by_cases e : x = p
  · subst e
    unfold sdF at h ⊢
    rw [Option.map_eq_none_iff] at h
    rw [List.find?_append, h]
    simp
  · have e2 : ¬ p = x := fun z => e z.symm
    unfold sdF
    rw [if_neg e, List.find?_append]
    simp [e2]
theorem putD_ks {p v : Int} {sd : List (Int × Int)} (h : sdF sd p = none) : putD (ks sd) (.inl p) (.int v) = ks (sd ++ [(p, v)]) := by
  have h' := sdF_none.mp h
  unfold putD
  have h1 : ((ks sd).any fun kv => decide (kv.1 = .inl p)) = false := by
    rw [List.any_eq_false]
    intro kv hkv
    obtain ⟨q, hq, rfl⟩ := List.mem_map.mp hkv
    simp
    intro e1
    exact h' (List.mem_map.mpr ⟨q, hq, e1⟩)
  rw [h1]
  simp [ks]
/-- [key] of a name: what is there -/
theorem ev_getN {i : Nat} {m : ME D} {ρ : Slots} {s : S} {y d : D} {QD : Ex D → Prop} (h0 : ρ[i]? = some s) (hs : s ≠ .no) (h1 : m ρ = some (.ok y ρ)) (h2 : gGetS s y = some (some d)) (h : QD (.ok d ρ)) : ev (mGetN i m) ρ QD := by
  refine ⟨_, ?_, h⟩
  unfold mGetN
  rw [h0]
  cases s with
  | no => exact absurd rfl hs
  | _ => simp only [ME.bnd, h1, h0, h2, ret]
def wBody : MS := (sSeq (sPutN 3 (mVar 5) (mVar 6))
  (sAsg (mWarm (mGetN 2 (mTup (mCons (mVar 5) (mCons (mCold (mOp gSub (ret (.int 1)) (mVar 6))) mNil))))) (gTupM 2 (gConsM (gSetM 5) (gConsM (gSetM 6) gNilM)))))
theorem find_kt {L : List (Int × En)} {n : Nat} {e : En} (hL : L.length = 2 * n) (hN : (L.map (·.2)).Nodup) (h : e ∈ L.map (·.2)) : valD (kt (prs L)) [.inl e.1, .inl e.2] = some (endD (piOf L e)) := by
  have hm := pi_mem hL hN h
  have hf := find_of (by rw [prs_keys hL]; exact hN) hm
  have key : ∀ ps : List (En × En), valD (kt ps) [.inl e.1, .inl e.2] = (ps.find? fun q => decide (q.1 = e)).map fun q => endD q.2 := by
    intro ps
    induction ps with
    | nil => rfl
    | cons q ps ih =>
      unfold valD kt at ih ⊢
      rw [List.map_cons, List.find?_cons, List.find?_cons]
      by_cases h : q.1 = e
      · subst h; simp [endD]
      · have h2 : ¬ ([.inl q.1.1, .inl q.1.2] : List Key) = [.inl e.1, .inl e.2] := fun z => h (by
          injection z with z1 z2
          injection z2 with z2 z3
          exact Prod.ext (Sum.inl.inj z1) (Sum.inl.inj z2))
        simp only [h, h2, decide_false]
        exact ih
  rw [key, hf] <;> rfl
theorem while_walk {l : List Int} {L : List (Int × En)} {n : Nat} {f : Int} {s0 s1 s4 s7 : S} {R : Out → Prop} (hL : L.length = 2 * n) (hN : (L.map (·.2)).Nodup) (hE : ∀ e, IsE l e ↔ e ∈ L.map (·.2)) (hll : l.length ≤ 31)
    (V : List Int) (h : ∀ (sd : List (Int × Int)) (c : En), (sd.map (·.1)).Nodup → Cl l (piOf L) (sdF sd) → Sok l (sdF sd) → sdF sd f = some 0 → (∀ p ∈ V, sdF sd p ≠ none) → R (.nx [s0, s1, .dT (kt (prs L)), .dK (ks sd), s4, .val (.int c.1), .val (.int c.2), s7])) :
    ∀ (k : Nat) (sd : List (Int × Int)) (c : En), (sd.map (·.1)).Nodup → Wlk l (piOf L) f (sdF sd) c → (∀ p ∈ V, sdF sd p ≠ none) → l.length < k + sd.length →
      run (sWhile (mTest (mKeyN true 3 (mVar 5))) wBody k) [s0, s1, .dT (kt (prs L)), .dK (ks sd), s4, .val (.int c.1), .val (.int c.2), s7] R
  | 0, sd, c, hnd, hw, hV, hk => by
    have : sd.length ≤ l.length := by
      have := nd_sub hnd (b := l) fun x hx => by
        cases q : sdF sd x with
        | none => exact absurd hx (sdF_none.mp q)
        | some v => exact (hw.ok x v q).1
      simpa using this
    omega
  | k + 1, sd, c, hnd, hw, hV, hk => by
    have hpi := pi_ok hL hN hE
    have hsub : ∀ x ∈ sd.map (·.1), x ∈ l := fun x hx => by
      cases q : sdF sd x with
      | none => exact absurd hx (sdF_none.mp q)
      | some v => exact (hw.ok x v q).1
    have hg : gGetS (.dK (ks sd)) (.int c.1) = some ((sdF sd c.1).map D.int) := by
      show (some (Sum.inl c.1 : Key)).map (valD (ks sd)) = _
      rw [Option.map_some, valD_ks]
    have hstep : ∀ b : Bool, (if b = true then run wBody [s0, s1, .dT (kt (prs L)), .dK (ks sd), s4, .val (.int c.1), .val (.int c.2), s7] (fun o => match o with
        | .nx ρ' => run (sWhile (mTest (mKeyN true 3 (mVar 5))) wBody k) ρ' R
        | .ct ρ' => run (sWhile (mTest (mKeyN true 3 (mVar 5))) wBody k) ρ' R
        | .bk ρ' => R (.nx ρ')
        | r => R r) else R (.nx [s0, s1, .dT (kt (prs L)), .dK (ks sd), s4, .val (.int c.1), .val (.int c.2), s7])) →
        ev (mTest (mKeyN true 3 (mVar 5))) [s0, s1, .dT (kt (prs L)), .dK (ks sd), s4, .val (.int c.1), .val (.int c.2), s7] (fun x => x = .ok b [s0, s1, .dT (kt (prs L)), .dK (ks sd), s4, .val (.int c.1), .val (.int c.2), s7]) →
        run (sWhile (mTest (mKeyN true 3 (mVar 5))) wBody (k + 1)) [s0, s1, .dT (kt (prs L)), .dK (ks sd), s4, .val (.int c.1), .val (.int c.2), s7] R := by
      intro b h1 ⟨x, h2, h3⟩
      subst h3
      unfold run sWhile ME.thn
      rw [h2]
      cases b with
      | false => exact ⟨_, rfl, h1⟩
      | true =>
        simp only [if_true] at h1 ⊢
        obtain ⟨r, h4, h5⟩ := h1
        rw [h4]
        cases r with
        | nx ρ' => exact h5
        | ct ρ' => exact h5
        | bk ρ' => exact ⟨_, rfl, h5⟩
        | rt s ρ' => exact ⟨_, rfl, h5⟩
        | ex C fs ρ' => exact ⟨_, rfl, h5⟩
    cases q : sdF sd c.1 with
    | some v =>
      have hst := wk_stop hpi hw (by rw [q]; simp)
      refine hstep false ?_ (by simp [hg, q])
      simp only [Bool.false_eq_true, if_false]
      exact h sd c hnd hst.1 hw.ok hst.2 hV
    | none =>
      refine hstep true ?_ (by simp [hg, q])
      simp only [if_true]
      have hc : c.1 ∉ sd.map (·.1) := sdF_none.mp q
      have hnd' : ((sd ++ [(c.1, c.2)]).map (·.1)).Nodup := by
        rw [List.map_append, List.nodup_append]
        refine ⟨hnd, by simp, fun a ha b hb => ?_⟩
        simp at hb
        subst hb
        intro e; exact hc (e ▸ ha)
      have hlen : (sd ++ [(c.1, c.2)]).length ≤ l.length := by
        have := nd_sub hnd' (b := l) fun x hx => by
          rw [List.map_append, List.mem_append] at hx
          rcases hx with hx | hx
          · exact hsub x hx
          · simp at hx; rw [hx]; exact hw.cE.1
        simpa using this
      have hw' := wk_step hpi hw q
      rw [← sdF_app q] at hw'
      have hsz : (ks sd).length < sizeLine := lt_size (by simp [ks] at hlen ⊢; omega)
      have hput : gPutS (.dK (ks sd)) (.int c.1) (.int c.2) = some (.dK (ks (sd ++ [(c.1, c.2)]))) := by
        show (if (ks sd).length < sizeLine then (some (Sum.inl c.1 : Key)).map (fun k => S.dK (putD (ks sd) k (.int c.2))) else none) = _
        rw [if_pos hsz, Option.map_some, putD_ks q]
      have hfe := (hE _).mp (fl_E hw.cE)
      have hget : gGetS (.dT (kt (prs L))) (endD (fl c)) = some (some (endD (piOf L (fl c)))) := by
        show (tkeyD (endD (fl c))).map (valD (kt (prs L))) = _
        rw [tkey_end, Option.map_some, find_kt hL hN hfe]
      have hrest := while_walk hL hN hE hll V h k (sd ++ [(c.1, c.2)]) (piOf L (fl c)) hnd' hw' (fun p hp => by
        rw [sdF_app q]
        unfold upd1
        split
        · simp
        · exact hV p hp) (by simp at hlen ⊢; omega)
      unfold wBody
      refine run_seq_of (P := fun ρ => ρ = [s0, s1, .dT (kt (prs L)), .dK (ks (sd ++ [(c.1, c.2)])), s4, .val (.int c.1), .val (.int c.2), s7]) (by simp [hput]) ?_
      rintro ρ rfl
      simp only [run_asg, ev_warm]
      refine ev_getN rfl (by simp) (y := endD (fl c)) (d := endD (piOf L (fl c))) ?_ hget ?_
      · obtain ⟨x, h1, h2⟩ : ev (mTup (mCons (mVar 5) (mCons (mCold (mOp gSub (ret (.int 1)) (mVar 6))) mNil))) [s0, s1, .dT (kt (prs L)), .dK (ks (sd ++ [(c.1, c.2)])), s4, .val (.int c.1), .val (.int c.2), s7] (fun x => x = .ok (endD (fl c)) [s0, s1, .dT (kt (prs L)), .dK (ks (sd ++ [(c.1, c.2)])), s4, .val (.int c.1), .val (.int c.2), s7]) := by
          simp [endD, fl]
        rw [h1, h2]
      · simp [endD]
        exact hrest
end L2.Fn
set_option maxRecDepth 100000
set_option maxHeartbeats 4000000
/-! LibP22: the halves. -/
namespace L2.Fn
open PySem PySem.Spec PyProof.Rows L2
@[simp] theorem ev_getN' {i : Nat} {m : ME D} {ρ : Slots} {QD : Ex D → Prop} : ev (mGetN i m) ρ QD ↔ (match ρ[i]? with
    | none => False
    | some .no => False
    | some _ => ev m ρ (okx (fun y ρ' => match ρ'[i]? with
      | none => False
      | some .no => False
      | some s => opx (gGetS s y) fun o => opx o fun d => QD (.ok d ρ')) fun C fs ρ' => QD (.ex C fs ρ'))) := by
  have key : ev (m.bnd fun y ρ => match ρ[i]? with
    | none => none
    | some .no => none
    | some s => match gGetS s y with
      | some (some d) => ret d ρ
      | _ => none) ρ QD ↔ ev m ρ (okx (fun y ρ' => match ρ'[i]? with
      | none => False
      | some .no => False
      | some s => opx (gGetS s y) fun o => opx o fun d => QD (.ok d ρ')) fun C fs ρ' => QD (.ex C fs ρ')) := by
    rw [ev_bnd]
    have : ∀ y ρ', ev (fun ρ => match ρ[i]? with
      | none => none
      | some .no => none
      | some s => match gGetS s y with
        | some (some d) => ret d ρ
        | _ => none : ME D) ρ' QD ↔ (match ρ'[i]? with
      | none => False
      | some .no => False
      | some s => opx (gGetS s y) fun o => opx o fun d => QD (.ok d ρ')) := fun y ρ' => by
      unfold ev
      cases h : ρ'[i]? with
      | none => simp [h]
      | some s =>
        cases s with
        | no => simp [h]
        | _ =>
          simp only [h]
          split
          · rename_i d e; simp [e, ret]
          · rename_i e
            cases q : gGetS _ y with
            | none => simp
            | some o =>
              cases o with
              | none => simp
              | some d => exact absurd q (e d)
    exact ev_congr this
  cases h : ρ[i]? with
  | none => exact ev_none (by unfold mGetN; rw [h])
  | some s =>
    cases s with
    | no => exact ev_none (by unfold mGetN; rw [h])
    | _ =>
      rw [← key]
      have e : mGetN i m ρ = (m.bnd fun y ρ => match ρ[i]? with
        | none => none
        | some .no => none
        | some s => match gGetS s y with
          | some (some d) => ret d ρ
          | _ => none) ρ := by
        show (match ρ[i]? with
          | none => none
          | some .no => none
          | some _ => _) = _
        rw [h] <;> rfl
      unfold ev
      rw [e]
theorem while_exit {c : ME Bool} {b : MS} {k : Nat} {ρ : Slots} {R : Out → Prop} (h1 : c ρ = some (.ok false ρ)) (h : R (.nx ρ)) : run (sWhile c b (k + 1)) ρ R := by
  refine ⟨_, ?_, h⟩
  unfold sWhile ME.thn
  rw [h1] <;> rfl
theorem gGet_ks {sd : List (Int × Int)} {p : Int} : gGetS (.dK (ks sd)) (.int p) = some ((sdF sd p).map D.int) := by
  show (some (Sum.inl p : Key)).map (valD (ks sd)) = _
  rw [Option.map_some, valD_ks]
theorem c_halves {K : Str} {size : Int} {rs : List (Int × Int)} {gone l : List Int} (hK : K ∈ KS) (hs2 : size ≤ 30) (hin : InRow size rs) (hn : rs.length ≤ 900) (hl : ∀ p ∈ l, 0 ≤ p ∧ p < (rs.length : Int)) (hll : l.length ≤ 31) (hnd : l.Nodup) :
    ∃ s : Sd, (∀ x, -1 ≤ cvS rs (l.filter fun p => decide (s p = some 0)) x - cvS rs (l.filter fun p => !decide (s p = some 0)) x ∧ cvS rs (l.filter fun p => decide (s p = some 0)) x - cvS rs (l.filter fun p => !decide (s p = some 0)) x ≤ 1) ∧
      ∀ C : CR → Prop, cal f__halves [.val (.obj K (mkt K size rs gone)), .val (tp l)] C ↔ C (.ret (.val (.tup [tp (l.filter fun p => decide (s p = some 0)), tp (l.filter fun p => !decide (s p = some 0))])) [.val (.obj K (mkt K size rs gone)), .val (tp l)]) := by
  obtain ⟨L, p1, p2, p3⟩ := c_partners (size := size) (gone := gone) hK hs2 hin hn hl hll hnd
  have hL : L.length = 2 * l.length := by rw [p1.length_eq, ends_len]
  have hN : (L.map (·.2)).Nodup := ((p1.map _).nodup_iff).mpr (ends_nd hnd)
  have hE : ∀ e, IsE l e ↔ e ∈ L.map (·.2) := fun e => by rw [(p1.map (·.2)).mem_iff]; exact ends_mem
  have hpi := pi_ok hL hN hE
  have main : ∃ sd : List (Int × Int), Cl l (piOf L) (sdF sd) ∧ Sok l (sdF sd) ∧ (∀ p ∈ l, sdF sd p ≠ none) ∧ ∃ s4 s5 s6, ∃ r, (sSeq (sAsg (mCall f__partners [] (aCons (mVar 0) (aCons (mVar 1) aNil))) (gSetM 2)) (sSeq (sAsg (ret (.dK [])) (gSetM 3)) (sFor (mItems (mVar 1)) (gSetM 4) (sSeq (sPar 5 6 (mCons (mVar 4) (mCons (ret (.int 0)) mNil)))
      (sWhile (mTest (mKeyN true 3 (mVar 5))) wBody 100))))) [.val (.obj K (mkt K size rs gone)), .val (tp l), .no, .no, .no, .no, .no, .no] = some r ∧ r = .nx [.val (.obj K (mkt K size rs gone)), .val (tp l), .dT (kt (prs L)), .dK (ks sd), s4, s5, s6, .no] := by
    have : run (sSeq (sAsg (mCall f__partners [] (aCons (mVar 0) (aCons (mVar 1) aNil))) (gSetM 2)) (sSeq (sAsg (ret (.dK [])) (gSetM 3)) (sFor (mItems (mVar 1)) (gSetM 4) (sSeq (sPar 5 6 (mCons (mVar 4) (mCons (ret (.int 0)) mNil)))
      (sWhile (mTest (mKeyN true 3 (mVar 5))) wBody 100))))) [.val (.obj K (mkt K size rs gone)), .val (tp l), .no, .no, .no, .no, .no, .no] (fun o => ∃ sd : List (Int × Int), Cl l (piOf L) (sdF sd) ∧ Sok l (sdF sd) ∧ (∀ p ∈ l, sdF sd p ≠ none) ∧ ∃ s4 s5 s6, o = .nx [.val (.obj K (mkt K size rs gone)), .val (tp l), .dT (kt (prs L)), .dK (ks sd), s4, s5, s6, .no]) := by
      refine run_seq_of (P := fun ρ => ρ = [.val (.obj K (mkt K size rs gone)), .val (tp l), .dT (kt (prs L)), .no, .no, .no, .no, .no]) (by simp [p3]) ?_
      rintro ρ rfl
      refine run_seq_of (P := fun ρ => ρ = [.val (.obj K (mkt K size rs gone)), .val (tp l), .dT (kt (prs L)), .dK (ks []), .no, .no, .no, .no]) (by simp [ks]) ?_
      rintro ρ rfl
      simp only [run_for]
      simp
      refine run_loop l (fun done ρ => ∃ sd s4 s5 s6, ρ = [.val (.obj K (mkt K size rs gone)), .val (tp l), .dT (kt (prs L)), .dK (ks sd), s4, s5, s6, .no] ∧ (sd.map (·.1)).Nodup ∧ Cl l (piOf L) (sdF sd) ∧ Sok l (sdF sd) ∧ ∀ p ∈ done, sdF sd p ≠ none) ⟨[], _, _, _, rfl, .nil, fun e he => ⟨fun h => (by cases h), fun h => (by cases h)⟩, fun q v h => (by cases h), fun p hp => (by cases hp)⟩ ?_ ?_
      · rintro done f rest ρ e ⟨sd, s4, s5, s6, rfl, a1, a2, a3, a4⟩
        have hf : f ∈ l := by rw [e]; simp
        simp only [gev_set]
        refine ⟨by simp, ?_⟩
        refine run_seq_of (P := fun ρ => ρ = [.val (.obj K (mkt K size rs gone)), .val (tp l), .dT (kt (prs L)), .dK (ks sd), .val (.int f), .val (.int f), .val (.int 0), .no]) (by simp) ?_
        rintro ρ rfl
        cases q : sdF sd f with
        | some v =>
          refine while_exit ?_ ?_
          · obtain ⟨x, h1, h2⟩ : ev (mTest (mKeyN true 3 (mVar 5))) [.val (.obj K (mkt K size rs gone)), .val (tp l), .dT (kt (prs L)), .dK (ks sd), .val (.int f), .val (.int f), .val (.int 0), .no] (fun x => x = .ok false [.val (.obj K (mkt K size rs gone)), .val (tp l), .dT (kt (prs L)), .dK (ks sd), .val (.int f), .val (.int f), .val (.int 0), .no]) := by
              simp [gGet_ks, q]
            rw [h1, h2]
          · refine ⟨sd, _, _, _, rfl, a1, a2, a3, fun p hp => ?_⟩
            rcases List.mem_append.mp hp with hp | hp
            · exact a4 p hp
            · simp at hp; rw [hp, q]; simp
        | none =>
          refine while_walk hL hN hE hll done (fun sd' c b1 b2 b3 b4 b5 => ?_) 100 sd (f, 0) a1 (wk_start a3 a2 hf q) a4 (by omega)
          refine ⟨sd', _, _, _, rfl, b1, b2, b3, fun p hp => ?_⟩
          rcases List.mem_append.mp hp with hp | hp
          · exact b5 p hp
          · simp at hp; rw [hp, b4]; simp
      · rintro ρ ⟨sd, s4, s5, s6, rfl, a1, a2, a3, a4⟩
        exact ⟨sd, a2, a3, a4, s4, s5, s6, rfl⟩
    obtain ⟨r, h1, sd, h2, h3, h4, s4, s5, s6, h5⟩ := this
    exact ⟨sd, h2, h3, h4, s4, s5, s6, r, h1, h5⟩
  obtain ⟨sd, h1, h2, h3, s4, s5, s6, r, h4, rfl⟩ := main
  have ht : ∀ p ∈ l, sdF sd p = some 0 ∨ sdF sd p = some 1 := fun p hp => by
    cases q : sdF sd p with
    | none => exact absurd q (h3 p hp)
    | some v => rcases (h2 p v q).2 with rfl | rfl <;> simp
  refine ⟨sdF sd, fun x => halves_even (b := rb rs) (e := re rs) hnd p1 p2 h1 ht, fun C => cal_of (of_cal ?_)⟩
  unfold f__halves
  rw [cal_def]
  have hsplit : ∀ (R : Out → Prop) (a b c d : MS) (ρ : Slots), run (sSeq (sSeq a (sSeq b c)) d) ρ R → run (sSeq a (sSeq b (sSeq c d))) ρ R := by
    intro R a b c d ρ ⟨r, e1, e2⟩
    refine ⟨r, ?_, e2⟩
    rw [← e1]
    unfold sSeq
    cases q : a ρ with
    | none => rfl
    | some o =>
      cases o with
      | nx ρ1 =>
        simp only
        cases q2 : b ρ1 with
        | none => rfl
        | some o2 => cases o2 <;> rfl
      | _ => rfl
  simp only [m__halves]
  refine hsplit _ _ _ _ _ _ ?_
  rw [run_seq]
  refine ⟨_, h4, ?_⟩
  rw [nxt_nx]
  refine run_seq_of (P := fun ρ => ∃ s5, ρ = [.val (.obj K (mkt K size rs gone)), .val (tp l), .dT (kt (prs L)), .dK (ks sd), s4, s5, s6, .val (tp (l.filter fun p => decide (sdF sd p = some 0)))]) ?_ ?_
  · simp only [run_asg, ev_b1, ev_cold]
    refine ev_lc ?_
    simp
    refine ⟨le_size (by omega), ?_⟩
    obtain ⟨acc, ρ'', h1, h2, s5', h3⟩ := ev_lcI (f := D.int) (g := gSetM 5) (tt := mTest (mOp gEq (mGetN 3 (mVar 5)) (ret (.int 0)))) (te := mVar 5) (vs := [5]) (ρ := [.val (.obj K (mkt K size rs gone)), .val (tp l), .dT (kt (prs L)), .dK (ks sd), s4, s5, s6, .no]) l (fun done acc ρ => acc = Js (done.filter fun p => decide (sdF sd p = some 0)) ∧ ∃ s5, ρ = [.val (.obj K (mkt K size rs gone)), .val (tp l), .dT (kt (prs L)), .dK (ks sd), s4, s5, s6, .no]) ⟨rfl, s5, rfl⟩ (by
      rintro done x rest acc ρ e ⟨rfl, s5, rfl⟩
      have hx : x ∈ l := by rw [e]; simp
      rcases ht x hx with h | h
      · simp [wipeE, gGet_ks, h]
      · simp [wipeE, gGet_ks, h])
    subst h2 h3
    refine ⟨_, _, h1, ?_⟩
    simp [gTuple_Js]
  rintro ρ ⟨s5', rfl⟩
  have hm := fun C => c_minus (a := l) (b := l.filter fun p => decide (sdF sd p = some 0)) (C := C) (hnd.sublist List.filter_sublist) (by omega) (by have := List.length_filter_le (fun p => decide (sdF sd p = some 0)) l; omega)
  have e : nb (l.filter fun p => decide (sdF sd p = some 0)) l = l.filter fun p => !decide (sdF sd p = some 0) := by
    unfold nb
    refine List.filter_congr fun x hx => ?_
    simp [hx]
  rw [e] at hm
  simp [hm]
end L2.Fn
set_option maxRecDepth 100000
set_option maxHeartbeats 4000000
/-! LibP23: remade. -/
namespace L2.Fn
open PySem PySem.Spec PyProof.Rows L2
theorem cvS_app (rs : List (Int × Int)) (a b : List Int) (x : Int) : cvS rs (a ++ b) x = cvS rs a x + cvS rs b x := by
  unfold cvS
  rw [List.map_append, List.sum_append]
theorem cvS_perm {rs : List (Int × Int)} {a b : List Int} (h : a.Perm b) (x : Int) : cvS rs a x = cvS rs b x := psum (h.map _)
theorem perm_two {A B l m : List Int} (hA : A.Nodup) (hB : B.Nodup) (hl : l.Nodup) (hm : m.Nodup) (h : ∀ p, bi (decide (p ∈ A)) + bi (decide (p ∈ B)) = bi (decide (p ∈ l)) + bi (decide (p ∈ m))) : (A ++ B).Perm (l ++ m) := by
  rw [List.perm_iff_count]
  intro a
  rw [List.count_append, List.count_append, hA.count, hB.count, hl.count, hm.count]
  have := h a
  unfold bi at this
  simp only [decide_eq_true_eq] at this
  split at this <;> split at this <;> split at this <;> split at this <;> simp_all
/-- strictly ascending -/
abbrev Asc (l : List Int) : Prop := l.Pairwise (· < ·)
theorem Asc.nd {l : List Int} (h : Asc l) : l.Nodup := h.imp fun h => by omega
theorem asc_sort {l : List Int} (h : l.Nodup) : Asc (sortI l) := by
  have h1 := sortI_sorted l
  have h2 : (sortI l).Nodup := ((sortI_perm l).nodup_iff).mpr h
  exact (h1.and h2).imp fun ⟨a, b⟩ => by omega
theorem asc_ext {a b : List Int} (ha : Asc a) (hb : Asc b) (h : ∀ p, p ∈ a ↔ p ∈ b) : a = b :=
  sorted_unique ((List.perm_ext_iff_of_nodup ha.nd hb.nd).mpr h) (ha.imp fun h => by omega) (hb.imp fun h => by omega)
theorem mem_sort {l : List Int} {p : Int} : p ∈ sortI l ↔ p ∈ l := (sortI_perm l).mem_iff
theorem mem_un {a b : List Int} {p : Int} : p ∈ un a b ↔ p ∈ a ∨ p ∈ b := by
  unfold un nb
  rw [mem_sort, List.mem_append, List.mem_filter]
  by_cases h : p ∈ a <;> simp [h]
theorem mem_nb {a b : List Int} {p : Int} : p ∈ nb a b ↔ p ∈ b ∧ p ∉ a := by unfold nb; simp
theorem mem_cb {a b : List Int} {p : Int} : p ∈ cb a b ↔ p ∈ b ∧ p ∈ a := by unfold cb; simp
theorem un_nd {a b : List Int} (ha : a.Nodup) (hb : b.Nodup) : (un a b).Nodup := by
  refine ((sortI_perm _).nodup_iff).mpr (List.nodup_append.mpr ⟨ha, hb.sublist List.filter_sublist, fun x hx y hy e => ?_⟩)
  subst e
  exact (mem_nb.mp hy).2 hx
theorem range_len {l : List Int} {n : Nat} (hn : l.Nodup) (h : ∀ p ∈ l, 0 ≤ p ∧ p < (n : Int)) : l.length ≤ n := by
  have := nd_sub hn (b := (List.range n).map fun i : Nat => (i : Int)) fun x hx => by
    have := h x hx
    exact List.mem_map.mpr ⟨x.toNat, List.mem_range.mpr (by omega), by omega⟩
  simpa using this
/-- parts of many -/
def In (n : Nat) (l : List Int) : Prop := ∀ p ∈ l, 0 ≤ p ∧ p < (n : Int)
/-- what remade makes of two sets -/
structure Rem (rs : List (Int × Int)) (one other A B : List Int) : Prop where
  aA : Asc A
  aB : Asc B
  iA : In rs.length A
  iB : In rs.length B
  cnt : ∀ p, bi (decide (p ∈ A)) + bi (decide (p ∈ B)) = bi (decide (p ∈ one)) + bi (decide (p ∈ other))
  near : ∀ x, -1 ≤ cvS rs A x - cvS rs B x ∧ cvS rs A x - cvS rs B x ≤ 1
theorem Rem.sum {rs : List (Int × Int)} {one other A B : List Int} (h : Rem rs one other A B) (h1 : one.Nodup) (h2 : other.Nodup) (x : Int) : cvS rs A x + cvS rs B x = cvS rs one x + cvS rs other x := by
  rw [← cvS_app, ← cvS_app]
  exact cvS_perm (perm_two h.aA.nd h.aB.nd h1 h2 h.cnt) x
theorem Rem.same {rs : List (Int × Int)} {one A B : List Int} (h : Rem rs one one A B) (h1 : Asc one) : A = one ∧ B = one := by
  have key : ∀ p, (p ∈ A ↔ p ∈ one) ∧ (p ∈ B ↔ p ∈ one) := fun p => by
    have := h.cnt p
    unfold bi at this
    simp only [decide_eq_true_eq] at this
    by_cases a : p ∈ A <;> by_cases b : p ∈ B <;> by_cases c : p ∈ one <;> simp_all
  exact ⟨asc_ext h.aA h1 fun p => (key p).1, asc_ext h.aB h1 fun p => (key p).2⟩
theorem Rem.swap {rs : List (Int × Int)} {one other A B : List Int} (h : Rem rs one other A B) : Rem rs other one A B := { h with cnt := fun p => by rw [h.cnt p]; omega }
theorem Rem.congr {rs : List (Int × Int)} {one other one' other' A B : List Int} (h : Rem rs one other A B) (h1 : ∀ p, p ∈ one ↔ p ∈ one') (h2 : ∀ p, p ∈ other ↔ p ∈ other') : Rem rs one' other' A B := { h with cnt := fun p => by rw [h.cnt p]; simp only [h1, h2] }
theorem c_remade {K : Str} {size : Int} {rs : List (Int × Int)} {gone l1 l2 : List Int} {d1 d2 : D} (hK : K ∈ KS) (hs2 : size ≤ 30) (hin : InRow size rs) (hn : rs.length ≤ 31) (p1 : Parts d1 l1) (p2 : Parts d2 l2) (n1 : l1.Nodup) (n2 : l2.Nodup) (i1 : In rs.length l1) (i2 : In rs.length l2) :
    ∃ A B, Rem rs l1 l2 A B ∧ ∀ C : CR → Prop, cal f_remade [.val (.obj K (mkt K size rs gone)), .val d1, .val d2] C ↔ C (.ret (.val (.tup [tp A, tp B])) [.val (.obj K (mkt K size rs gone)), .val d1, .val d2]) := by
  obtain ⟨first, ef⟩ : ∃ f, f = sortI l1 := ⟨_, rfl⟩
  obtain ⟨second, es⟩ : ∃ f, f = sortI l2 := ⟨_, rfl⟩
  have nf : first.Nodup := by rw [ef]; exact (asc_sort n1).nd
  have ns : second.Nodup := by rw [es]; exact (asc_sort n2).nd
  have mf : ∀ p, p ∈ first ↔ p ∈ l1 := fun p => by rw [ef]; exact mem_sort
  have ms : ∀ p, p ∈ second ↔ p ∈ l2 := fun p => by rw [es]; exact mem_sort
  have if_ : In rs.length first := fun p h => i1 p ((mf p).mp h)
  have is_ : In rs.length second := fun p h => i2 p ((ms p).mp h)
  obtain ⟨sh, esh⟩ : ∃ s, s = cb second first := ⟨_, rfl⟩
  have nsh : sh.Nodup := by rw [esh]; exact nf.sublist List.filter_sublist
  have msh : ∀ p, p ∈ sh ↔ p ∈ first ∧ p ∈ second := fun p => by rw [esh]; exact mem_cb
  obtain ⟨m, em⟩ : ∃ m, m = nb sh (un first second) := ⟨_, rfl⟩
  have nm : m.Nodup := by rw [em]; exact (un_nd nf ns).sublist List.filter_sublist
  have mm : ∀ p, p ∈ m ↔ (p ∈ first ∨ p ∈ second) ∧ p ∉ sh := fun p => by rw [em, mem_nb, mem_un]
  have im : In rs.length m := fun p h => by
    rcases ((mm p).mp h).1 with h | h
    · exact if_ p h
    · exact is_ p h
  obtain ⟨s, e1, e2⟩ := c_halves (size := size) (gone := gone) hK hs2 hin (by omega) im (Nat.le_trans (range_len nm im) (by omega)) nm
  obtain ⟨lft, el⟩ : ∃ f, f = m.filter fun p => decide (s p = some 0) := ⟨_, rfl⟩
  obtain ⟨rgt, er⟩ : ∃ f, f = m.filter fun p => !decide (s p = some 0) := ⟨_, rfl⟩
  rw [← el, ← er] at e1 e2
  have nl : lft.Nodup := by rw [el]; exact nm.sublist List.filter_sublist
  have nr : rgt.Nodup := by rw [er]; exact nm.sublist List.filter_sublist
  have ml : ∀ p, p ∈ lft ↔ p ∈ m ∧ s p = some 0 := fun p => by rw [el]; simp
  have mr : ∀ p, p ∈ rgt ↔ p ∈ m ∧ ¬ s p = some 0 := fun p => by rw [er]; simp
  have ish : In rs.length sh := fun p h => if_ p ((msh p).mp h).1
  have il : In rs.length lft := fun p h => im p ((ml p).mp h).1
  have ir : In rs.length rgt := fun p h => im p ((mr p).mp h).1
  have b1 := range_len nf if_
  have b2 := range_len ns is_
  have b3 := range_len nsh ish
  have b4 := range_len nl il
  have b5 := range_len nr ir
  have b6 := range_len (un_nd nf ns) (fun p h => by
    rcases mem_un.mp h with h | h
    · exact if_ p h
    · exact is_ p h)
  have dl : ∀ p, p ∈ lft → p ∉ sh := fun p h => ((mm p).mp ((ml p).mp h).1).2
  have dr' : ∀ p, p ∈ rgt → p ∉ sh := fun p h => ((mm p).mp ((mr p).mp h).1).2
  have pl : (un sh lft).Perm (sh ++ lft) := by
    have : nb sh lft = lft := by
      unfold nb
      exact List.filter_eq_self.mpr fun p h => by simpa using dl p h
    unfold un
    rw [this]
    exact sortI_perm _
  have pr : (un sh rgt).Perm (sh ++ rgt) := by
    have : nb sh rgt = rgt := by
      unfold nb
      exact List.filter_eq_self.mpr fun p h => by simpa using dr' p h
    unfold un
    rw [this]
    exact sortI_perm _
  have au : ∀ {b : List Int}, b.Nodup → Asc (un sh b) := fun {b} hb => by
    have h2 := un_nd nsh hb
    have h1 := sortI_sorted (sh ++ nb sh b)
    exact (List.Pairwise.and h1 h2).imp fun ⟨a, b⟩ => by omega
  refine ⟨un sh lft, un sh rgt, ⟨au nl, au nr, fun p h => ?_, fun p h => ?_, fun p => ?_, fun x => ?_⟩, fun C => cal_of (of_cal ?_)⟩
  · rcases mem_un.mp h with h | h
    · exact ish p h
    · exact il p h
  · rcases mem_un.mp h with h | h
    · exact ish p h
    · exact ir p h
  · rw [← (show decide (p ∈ first) = decide (p ∈ l1) from decide_eq_decide.mpr (mf p)), ← (show decide (p ∈ second) = decide (p ∈ l2) from decide_eq_decide.mpr (ms p))]
    have hA : decide (p ∈ un sh lft) = decide (p ∈ sh ∨ (p ∈ m ∧ s p = some 0)) := decide_eq_decide.mpr (by rw [mem_un, ml])
    have hB : decide (p ∈ un sh rgt) = decide (p ∈ sh ∨ (p ∈ m ∧ ¬ s p = some 0)) := decide_eq_decide.mpr (by rw [mem_un, mr])
    rw [hA, hB]
    have h1 := msh p
    have h2 := mm p
    by_cases a : p ∈ first <;> by_cases b : p ∈ second <;> by_cases c : s p = some 0 <;> simp_all [bi]
  · rw [cvS_perm pl, cvS_perm pr, cvS_app, cvS_app]
    have := e1 x
    omega
  · unfold f_remade
    rw [cal_def]
    simp only [m_remade]
    have hlen : gLen (.tup (Rs rs)) = some rs.length := by simp [gLen]
    have s1 := fun C => c_set_of (C := C) (many := rs.length) p1 n1 i1 (Nat.le_trans (range_len n1 i1) (by omega)) (by omega)
    have s2 := fun C => c_set_of (C := C) (many := rs.length) p2 n2 i2 (Nat.le_trans (range_len n2 i2) (by omega)) (by omega)
    rw [← ef] at s1
    rw [← es] at s2
    have s3 := fun C => c_common (a := first) (b := second) (C := C) ns (by omega) (by omega)
    rw [← esh] at s3
    have s4 := fun C => c_both (a := first) (b := second) (C := C) nf ns (by omega) (by omega)
    have s5 := fun C => c_minus (a := un first second) (b := sh) (C := C) nsh (by omega) (by omega)
    rw [← em] at s5
    have s6 := fun C => c_both (a := sh) (b := lft) (C := C) nsh nl (by omega) (by omega)
    have s7 := fun C => c_both (a := sh) (b := rgt) (C := C) nsh nr (by omega) (by omega)
    simp [gFld_runs hK, hlen, s1, s2, s3, s4, s5, e2, s6, s7]
end L2.Fn
set_option maxRecDepth 100000
set_option maxHeartbeats 4000000
/-! LibP24: the law's own checks. -/
namespace L2.Fn
open PySem PySem.Spec PyProof.Rows L2
theorem e_law_int {i : Int} : f__law_int [.val (.int i)] = some (.ret (.val (.bl true)) [.val (.int i)]) := of_cal (by
  unfold f__law_int
  rw [cal_def]
  simp [m__law_int])
@[simp] theorem c_law_int {i : Int} {C : CR → Prop} : cal f__law_int [.val (.int i)] C ↔ C (.ret (.val (.bl true)) [.val (.int i)]) := cal_of e_law_int
theorem c_law_set {l : List Int} {n : Nat} {C : CR → Prop} (ha : Asc l) (hi : In n l) : cal f__law_set [.val (tp l), .val (.int n)] C ↔ C (.ret (.val (.bl true)) [.val (tp l), .val (.int n)]) := by
  refine cal_of (of_cal ?_)
  unfold f__law_set
  rw [cal_def]
  have h1 : gIsT (fun n => n == "tuple") (tp l) = some (.val (.bl true)) := by
    show some (S.val (.bl (("tuple" : String) == "tuple"))) = _
    simp
  simp [m__law_set, h1]
  refine run_loop' l (fun done ρ => ∃ last s3, ρ = [.val (tp l), .val (.int n), .val (.int last), s3] ∧ (last = -1 ∨ last ∈ done)) ⟨_, _, rfl, .inl rfl⟩ ?_ ?_
  · rintro done x rest ρ e ⟨last, s3, rfl, hl⟩
    have hx := hi x (by rw [e]; simp)
    have h2 : ¬ x ≤ last := by
      rcases hl with rfl | hl
      · omega
      · rw [e] at ha
        have := (List.pairwise_append.mp ha).2.2 last hl x List.mem_cons_self
        omega
    have h3 : ¬ (n : Int) ≤ x := by omega
    exact ⟨[.val (tp l), .val (.int n), .val (.int x), .val (.int x)], by simp [h2, h3], x, _, rfl, .inr (by simp)⟩
  · rintro ρ ⟨last, s3, rfl, _⟩
    simp
theorem cvS_snoc (rs : List (Int × Int)) (l : List Int) (p x : Int) : cvS rs (l ++ [p]) x = cvS rs l x + (bi (decide (rb rs p ≤ x)) - bi (decide (re rs p ≤ x))) := by
  rw [cvS_app]
  unfold cvS
  simp
/-- covers counted run by run -/
theorem add_run {size : Int} {n : Nat} {b e : Int} {xs : List Int} {s0 s1 s2 s5 : S} {s4 : S} (hb : 0 ≤ b) (hbe : b < e) (he : e ≤ n) (hx : xs.length = n) (hn : n ≤ 100) :
    run (sLoop (gSetM 4) (sAugN 3 gAddI (mVar 4) (ret (.int 1))) (rangeD b (e - b).toNat)) [s0, s1, s2, .lst (Js xs), s4, s5] (fun o => ∃ xs' s4', o = .nx [s0, s1, s2, .lst (Js xs'), s4', s5] ∧ xs'.length = n ∧ ∀ k : Nat, xs'[k]? = (xs[k]?).map fun v => v + (bi (decide (b ≤ (k : Int))) - bi (decide (e ≤ (k : Int))))) := by
  obtain ⟨B, hB⟩ : ∃ B : Nat, b = B := ⟨b.toNat, by omega⟩
  show run (sLoop _ _ ((List.range (e - b).toNat).map fun i => D.int (b + (i : Nat)))) _ _
  refine run_loop' _ (fun done ρ => ∃ xs' s4', ρ = [s0, s1, s2, .lst (Js xs'), s4', s5] ∧ xs'.length = n ∧ ∀ k : Nat, xs'[k]? = (xs[k]?).map fun v => v + (bi (decide (b ≤ (k : Int))) - bi (decide (b + done.length ≤ (k : Int))))) ⟨xs, s4, rfl, hx, fun k => by simp⟩ ?_ ?_
  · rintro done i rest ρ eq ⟨xs', s4', rfl, a1, a2⟩
    have hi : i = done.length := by
      have := congrArg (fun l => l[done.length]?) eq
      simp at this
      obtain ⟨_, h⟩ := List.getElem?_eq_some_iff.mp this
      simpa using h.symm
    have hlt : i < (e - b).toNat := by
      have : i ∈ List.range (e - b).toNat := by rw [eq]; simp
      simpa using this
    have hk : B + i < xs'.length := by omega
    have hkv : xs'[B + i]? = some xs'[B + i] := by simp [hk]
    refine ⟨[s0, s1, s2, .lst (Js (xs'.set (B + i) (xs'[B + i] + 1))), .val (.int (b + (i : Nat))), s5], ?_, _, _, rfl, by simpa using a1, fun k => ?_⟩
    · simp only [gev_set]
      refine ⟨by simp, ?_⟩
      refine run_augN (op := (· + ·)) (k := B + i) (v := xs'[B + i]) (c := 1) (xs := xs') (fun _ _ => rfl) rfl ?_ hkv rfl ?_
      · simp [mVar, hB]
      · simp
    · rw [List.getElem?_set]
      have hak := a2 k
      split
      · rename_i q
        subst q
        have h1 := a2 (B + i)
        rw [hkv] at h1
        cases h2 : xs[B + i]? with
        | none => rw [h2] at h1; cases h1
        | some v =>
          rw [h2] at h1
          simp only [Option.map_some, Option.some.injEq] at h1 ⊢
          have t1 : b ≤ ((B + i : Nat) : Int) := by omega
          have t2 : b + (done.length : Int) ≤ ((B + i : Nat) : Int) := by omega
          have t3 : ¬ b + ((done ++ [i]).length : Int) ≤ ((B + i : Nat) : Int) := by simp; omega
          rw [h1]
          simp only [t1, t2, t3, decide_true, decide_false, bi]
          simp
      · rename_i q
        rw [hak]
        have : decide (b + (done.length : Int) ≤ (k : Int)) = decide (b + ((done ++ [i]).length : Int) ≤ (k : Int)) := decide_eq_decide.mpr (by simp; omega)
        rw [this]
  · rintro ρ ⟨xs', s4', rfl, a1, a2⟩
    refine ⟨xs', s4', rfl, a1, fun k => ?_⟩
    rw [a2 k]
    have : b + ((List.range (e - b).toNat).length : Int) = e := by simp; omega
    rw [this]
theorem c_law_coverP {size : Int} {rs : List (Int × Int)} {l : List Int} {dp : D} {C : CR → Prop} (hp : Parts dp l) (hs : 1 ≤ size) (hs2 : size ≤ 30) (hin : InRow size rs) (hl : In rs.length l) :
    cal f__law_cover [.val (.int size), .val (.lst (Rs rs)), .val dp] C ↔ C (.ret (.lst (Js (covs size rs l))) [.val (.int size), .val (.lst (Rs rs)), .val dp]) := by
  have hit : itemsD dp = some (Js l) := by rcases hp with rfl | rfl <;> rfl
  refine cal_of (of_cal ?_)
  unfold f__law_cover
  rw [cal_def]
  simp only [m__law_cover]
  refine run_seq_of (P := fun ρ => ∃ s4, ρ = [.val (.int size), .val (.lst (Rs rs)), .val dp, .lst (Js (List.replicate size.toNat 0)), s4, .no]) ?_ ?_
  · simp only [run_asg]
    refine ev_lc ?_
    simp
    refine ⟨rg_of (by omega) (by omega), le_size (by simp [rangeD]; omega), ?_⟩
    obtain ⟨ρ', h1, s, rfl⟩ := zeros (n := size.toNat) (i := 4) (ρ := [.val (.int size), .val (.lst (Rs rs)), .val dp, .no, .no, .no]) (by simp) (by omega)
    exact ⟨_, _, h1, by simp⟩
  rintro ρ ⟨s4, rfl⟩
  refine run_seq_of (P := fun ρ => ∃ s4 s5, ρ = [.val (.int size), .val (.lst (Rs rs)), .val dp, .lst (Js (covs size rs l)), s4, s5]) ?_ ?_
  · simp only [run_for]
    simp [hit]
    refine run_loop l (fun done ρ => ∃ xs s4 s5, ρ = [.val (.int size), .val (.lst (Rs rs)), .val dp, .lst (Js xs), s4, s5] ∧ xs.length = size.toNat ∧ ∀ k : Nat, k < size.toNat → xs[k]? = some (cvS rs done k)) ⟨_, _, _, rfl, by simp, fun k hk => by simp [List.getElem?_replicate, hk, cvS]⟩ ?_ ?_
    · rintro done p rest ρ e ⟨xs, s4, s5, rfl, a1, a2⟩
      have hp := hl p (by rw [e]; simp)
      obtain ⟨n, rfl⟩ : ∃ n : Nat, p = n := ⟨p.toNat, by omega⟩
      have hn : n < rs.length := by omega
      obtain ⟨r, hr⟩ : ∃ r, rs[n]? = some r := ⟨rs[n], by simp [hn]⟩
      have hrm : r ∈ rs := List.mem_of_getElem? hr
      obtain ⟨r1, r2, r3⟩ := hin r hrm
      have eb : rb rs n = r.1 := by simp [rb, List.getD, hr]
      have ee : re rs n = r.2 := by simp [re, List.getD, hr]
      have g2 : gIx (.lst (Rs rs)) (.int (n : Int)) = some (rn r) := atI_nat (by rw [Rs_get, hr]; rfl)
      have g3 : gIx (rn r) (.int 0) = some (.int r.1) := rfl
      have g4 : gIx (rn r) (.int 1) = some (.int r.2) := rfl
      simp [g2, g3, g4]
      refine ⟨⟨rg_of (by omega) (by omega), rg_of (by omega) (by omega)⟩, ?_⟩
      refine run_mono (add_run (size := size) (n := size.toNat) r1 r2 (by omega) a1 (by omega)) ?_
      rintro o ⟨xs', s4', rfl, b1, b2⟩
      refine ⟨xs', ⟨_, _, rfl⟩, b1, fun k hk => ?_⟩
      rw [b2 k, a2 k (by omega), Option.map_some, cvS_snoc, eb, ee]
    · rintro ρ ⟨xs, s4, s5, rfl, a1, a2⟩
      refine ⟨_, rfl, s4, s5, ?_⟩
      have : xs = covs size rs l := by
        apply List.ext_getElem?
        intro k
        by_cases hk : k < size.toNat
        · rw [a2 k hk]
          unfold covs
          rw [List.getElem?_map, List.getElem?_range hk] <;> rfl
        · rw [List.getElem?_eq_none (by omega), List.getElem?_eq_none (by rw [covs_len]; omega)]
      rw [this]
  rintro ρ ⟨s4, s5, rfl⟩
  simp
theorem c_law_cover {size : Int} {rs : List (Int × Int)} {l : List Int} {C : CR → Prop} (hs : 1 ≤ size) (hs2 : size ≤ 30) (hin : InRow size rs) (hl : In rs.length l) :
    cal f__law_cover [.val (.int size), .val (.lst (Rs rs)), .val (tp l)] C ↔ C (.ret (.lst (Js (covs size rs l))) [.val (.int size), .val (.lst (Rs rs)), .val (tp l)]) := c_law_coverP (.inr rfl) hs hs2 hin hl
end L2.Fn
set_option maxRecDepth 100000
set_option maxHeartbeats 4000000
/-! LibP25: remade, checked. -/
namespace L2.Fn
open PySem PySem.Spec PyProof.Rows L2
theorem gIn_parts {p : Int} {l : List Int} {d : D} (h : Parts d l) : gIn false (.int p) d = some (.val (.bl (decide (p ∈ l)))) := by
  have : itemsD d = some (Js l) := by rcases h with rfl | rfl <;> rfl
  unfold gIn
  rw [this, Option.bind_some]
  unfold inD
  rw [flatsD_Js]
  show some (S.val (.bl (inV (.int p) (l.map V.int)))) = _
  rw [inV_int]
theorem at_range {n i : Nat} {done rest : List Nat} (e : List.range n = done ++ i :: rest) : i = done.length ∧ i < n := by
  have h1 := congrArg (fun l => l[done.length]?) e
  simp at h1
  obtain ⟨_, h⟩ := List.getElem?_eq_some_iff.mp h1
  have h2 : i ∈ List.range n := by rw [e]; simp
  exact ⟨by simpa using h.symm, by simpa using h2⟩
theorem gIx_covs {size : Int} {rs : List (Int × Int)} {l : List Int} {k : Nat} (h : k < size.toNat) : gIx (.lst (Js (covs size rs l))) (.int (k : Int)) = some (.int (cvS rs l k)) := atI_nat (by
  rw [Js_get]
  unfold covs
  rw [List.getElem?_map, List.getElem?_range h]
  rfl)
theorem c_remade_right {size : Int} {rs : List (Int × Int)} {A B l1 l2 : List Int} {d1 d2 : D} {C : CR → Prop} (hs : 1 ≤ size) (hs2 : size ≤ 30) (hin : InRow size rs) (hn : rs.length ≤ 100) (p1 : Parts d1 l1) (p2 : Parts d2 l2) (h : Rem rs l1 l2 A B) :
    cal f__law_remade_right [.val (.int size), .val (.lst (Rs rs)), .val (.tup [tp A, tp B]), .val d1, .val d2] C ↔ C (.ret (.val (.bl true)) [.val (.int size), .val (.lst (Rs rs)), .val (.tup [tp A, tp B]), .val d1, .val d2]) := by
  refine cal_of (of_cal ?_)
  unfold f__law_remade_right
  rw [cal_def]
  simp only [m__law_remade_right]
  have h1 : gIsT (fun n => n == "tuple") (.tup [tp A, tp B]) = some (.val (.bl true)) := by
    show some (S.val (.bl (("tuple" : String) == "tuple"))) = _
    simp
  have h2 : gLen (.tup [tp A, tp B]) = some 2 := rfl
  have h3 : gIx (.tup [tp A, tp B]) (.int 0) = some (tp A) := rfl
  have h4 : gIx (.tup [tp A, tp B]) (.int 1) = some (tp B) := rfl
  have h5 : gLen (.lst (Rs rs)) = some rs.length := by simp [gLen]
  have k1 := fun C => c_law_set (C := C) (n := rs.length) h.aA h.iA
  have k2 := fun C => c_law_set (C := C) (n := rs.length) h.aB h.iB
  have k3 := fun C => c_law_cover (C := C) hs hs2 hin h.iA
  have k4 := fun C => c_law_cover (C := C) hs hs2 hin h.iB
  refine run_seq_of (P := fun ρ => ρ = [.val (.int size), .val (.lst (Rs rs)), .val (.tup [tp A, tp B]), .val d1, .val d2, .no, .no, .no, .no, .no, .no]) (by simp [h1, h2]) ?_
  rintro ρ rfl
  refine run_seq_of (P := fun ρ => ρ = [.val (.int size), .val (.lst (Rs rs)), .val (.tup [tp A, tp B]), .val d1, .val d2, .val (.int rs.length), .no, .no, .no, .no, .no]) (by simp [h5]) ?_
  rintro ρ rfl
  refine run_seq_of (P := fun ρ => ρ = [.val (.int size), .val (.lst (Rs rs)), .val (.tup [tp A, tp B]), .val d1, .val d2, .val (.int rs.length), .no, .no, .no, .no, .no]) (by simp [h3, h4, k1, k2]) ?_
  rintro ρ rfl
  refine run_seq_of (P := fun ρ => ∃ s6 s7, ρ = [.val (.int size), .val (.lst (Rs rs)), .val (.tup [tp A, tp B]), .val d1, .val d2, .val (.int rs.length), s6, s7, .no, .no, .no]) ?_ ?_
  · simp only [run_for]
    simp
    refine ⟨rg_of (by omega) (by omega), ?_⟩
    show run (sLoop _ _ ((List.range rs.length).map fun i => D.int (0 + (i : Nat)))) _ _
    refine run_loop' _ (fun done ρ => ∃ s6 s7, ρ = [.val (.int size), .val (.lst (Rs rs)), .val (.tup [tp A, tp B]), .val d1, .val d2, .val (.int rs.length), s6, s7, .no, .no, .no]) ⟨_, _, rfl⟩ ?_ ?_
    · rintro done i rest ρ e ⟨s6, s7, rfl⟩
      have hc := h.cnt i
      refine ⟨[.val (.int size), .val (.lst (Rs rs)), .val (.tup [tp A, tp B]), .val d1, .val d2, .val (.int rs.length), .val (.int i), .val (.int (bi (decide ((i : Int) ∈ l1)) + bi (decide ((i : Int) ∈ l2)))), .no, .no, .no], ?_, _, _, rfl⟩
      have hA : Parts (tp A) A := .inr rfl
      have hB : Parts (tp B) B := .inr rfl
      unfold bi at hc ⊢
      simp [gIn_parts p1, gIn_parts p2, gIn_parts hA, gIn_parts hB, h3, h4] at hc ⊢
      simp [hc]
    · rintro ρ ⟨s6, s7, rfl⟩
      exact ⟨_, rfl, _, _, rfl⟩
  rintro ρ ⟨s6, s7, rfl⟩
  refine run_seq_of (P := fun ρ => ρ = [.val (.int size), .val (.lst (Rs rs)), .val (.tup [tp A, tp B]), .val d1, .val d2, .val (.int rs.length), s6, s7, .lst (Js (covs size rs A)), .no, .no]) (by simp [h3, k3]) ?_
  rintro ρ rfl
  refine run_seq_of (P := fun ρ => ρ = [.val (.int size), .val (.lst (Rs rs)), .val (.tup [tp A, tp B]), .val d1, .val d2, .val (.int rs.length), s6, s7, .lst (Js (covs size rs A)), .lst (Js (covs size rs B)), .no]) (by simp [h4, k4]) ?_
  rintro ρ rfl
  refine run_seq_of (P := fun ρ => ∃ s10, ρ = [.val (.int size), .val (.lst (Rs rs)), .val (.tup [tp A, tp B]), .val d1, .val d2, .val (.int rs.length), s6, s7, .lst (Js (covs size rs A)), .lst (Js (covs size rs B)), s10]) ?_ ?_
  · simp only [run_for]
    simp
    refine ⟨rg_of (by omega) (by omega), ?_⟩
    show run (sLoop _ _ ((List.range size.toNat).map fun i => D.int (0 + (i : Nat)))) _ _
    refine run_loop' _ (fun done ρ => ∃ s10, ρ = [.val (.int size), .val (.lst (Rs rs)), .val (.tup [tp A, tp B]), .val d1, .val d2, .val (.int rs.length), s6, s7, .lst (Js (covs size rs A)), .lst (Js (covs size rs B)), s10]) ⟨_, rfl⟩ ?_ ?_
    · rintro done i rest ρ e ⟨s10, rfl⟩
      have hi := (at_range e).2
      have hd := h.near i
      have hx : ¬ (1 : Int) < if cvS rs A i - cvS rs B i < 0 then -(cvS rs A i - cvS rs B i) else cvS rs A i - cvS rs B i := by
        split <;> omega
      refine ⟨[.val (.int size), .val (.lst (Rs rs)), .val (.tup [tp A, tp B]), .val d1, .val d2, .val (.int rs.length), s6, s7, .lst (Js (covs size rs A)), .lst (Js (covs size rs B)), .val (.int i)], ?_, _, rfl⟩
      simp [gIx_covs hi]
      simpa using hx
    · rintro ρ ⟨s10, rfl⟩
      exact ⟨_, rfl, _, rfl⟩
  rintro ρ ⟨s10, rfl⟩
  simp
end L2.Fn
set_option maxRecDepth 100000
set_option maxHeartbeats 4000000
/-! LibP26: refused sets. -/
namespace L2.Fn
open PySem PySem.Spec PyProof.Rows L2
theorem run_try_ex {sub : Str → Option Bool} {i : Nat} {mb ms : MS} {ρ ρ1 ρ2 : Slots} {C : Str} {fs : List (Str × D)} {R : Out → Prop} (h1 : mb ρ = some (.ex C fs ρ1)) (h2 : ρ1.all notErr = true) (h3 : sub C = some true) (h4 : i < ρ1.length) (h5 : ms (ρ1.set i (.err C fs)) = some (.nx ρ2)) (h6 : (ρ2.set i .no).all notErr = true) (h : R (.nx (ρ2.set i .no))) : run (sTry sub i mb ms) ρ R := by
  refine ⟨_, ?_, h⟩
  unfold sTry
  rw [h1]
  simp only [h2, h3, h4, h5, h6, if_true]
@[simp] theorem ev_err {i : Nat} {C f : Str} {ρ : Slots} {Q : Ex D → Prop} : ev (mErr i C f) ρ Q ↔ (match ρ[i]? with
    | some (.err C' fs) => if C' = C then opx (fs.lookup f) fun d => Q (.ok d ρ) else False
    | _ => False) := by
  unfold ev mErr
  cases h : ρ[i]? with
  | none => simp
  | some s =>
    cases s with
    | err C' fs =>
      by_cases q : C' = C
      · simp only [q, if_true]
        cases q2 : List.lookup f fs <;> simp [opt]
      · simp [q]
    | _ => simp
@[simp] theorem ev_isErr {i : Nat} {C : Str} {b : Bool} {ρ : Slots} {Q : Ex S → Prop} : ev (mIsErr i C b) ρ Q ↔ (match ρ[i]? with
    | some (.err C' fs) => if C' = C then Q (.ok (.val (.bl b)) ρ) else False
    | _ => False) := by
  unfold ev mIsErr
  cases h : ρ[i]? with
  | none => simp
  | some s =>
    cases s with
    | err C' fs => by_cases q : C' = C <;> simp [q]
    | _ => simp
theorem x_refused {dm d1 d2 : D} {n : Int} {C : CR → Prop} (h1 : cal f_remade [.val dm, .val d1, .val d2] fun c => ∃ ss, c = .exc "BadSet" [("place", .int n)] ss) (h : ∀ ss, C (.ret (.lst [.int n, .bl true]) ss)) : cal f__law_refused [.val dm, .val d1, .val d2] C := by
  unfold f__law_refused
  rw [cal_def]
  simp only [m__law_refused]
  refine run_seq_of (P := fun ρ => ρ = [.val dm, .val d1, .val d2, .lst [.int (-7), .bl false], .no]) (by simp) ?_
  rintro ρ rfl
  refine run_seq_of (P := fun ρ => ρ = [.val dm, .val d1, .val d2, .lst [.int n, .bl true], .no]) ?_ ?_
  · obtain ⟨r, k1, ss, rfl⟩ := h1
    have h2 : run (sDrop (mCall f_remade [] (aCons (mVar 0) (aCons (mVar 1) (aCons (mVar 2) aNil))))) [.val dm, .val d1, .val d2, .lst [.int (-7), .bl false], .no] (fun o => o = .ex "BadSet" [("place", .int n)] [.val dm, .val d1, .val d2, .lst [.int (-7), .bl false], .no]) := by
      simp
      rw [cal_of k1]
      simp
    have h3 : run (sAsg (mLst (mCons (mErr 4 "BadSet" "place") (mCons (mCold (mIsErr 4 "BadSet" true)) mNil))) (gSetM 3)) [.val dm, .val d1, .val d2, .lst [.int (-7), .bl false], .err "BadSet" [("place", .int n)]] (fun o => o = .nx [.val dm, .val d1, .val d2, .lst [.int n, .bl true], .err "BadSet" [("place", .int n)]]) := by
      simp
    obtain ⟨_, h2, rfl⟩ := h2
    obtain ⟨_, h3, rfl⟩ := h3
    exact run_try_ex h2 (by simp [notErr]) (by simp [SUB_BadSet]) (by simp) h3 (by simp [notErr]) ⟨_, rfl, rfl⟩
  rintro ρ rfl
  simp
  exact h _
section
variable {K : Str} {size : Int} {rs : List (Int × Int)} {gone l1 l2 : List Int} {d d1 d2 : D}
theorem x_remade_none (hK : K ∈ KS) : cal f_remade [.val (.obj K (mkt K size rs gone)), .val .non, .val d2] fun c => ∃ ss, c = .exc "BadSet" [("place", .int (-1))] ss := by
  unfold f_remade
  rw [cal_def]
  simp only [m_remade]
  have hlen : gLen (.tup (Rs rs)) = some rs.length := by simp [gLen]
  have s1 := fun C => c_set_none (C := C) (many := rs.length) (by omega)
  simp [gFld_runs hK, hlen, s1]
theorem x_remade_bad1 (hK : K ∈ KS) (hd : BadP rs.length d) (hl : l1.Nodup) (hi : In rs.length l1) (hn : rs.length ≤ 1000) : cal f_remade [.val (.obj K (mkt K size rs gone)), .val (.lst (Js l1 ++ [d])), .val d2] fun c => ∃ ss, c = .exc "BadSet" [("place", .int l1.length)] ss := by
  unfold f_remade
  rw [cal_def]
  simp only [m_remade]
  have hlen : gLen (.tup (Rs rs)) = some rs.length := by simp [gLen]
  rw [run_seq]
  simp [gFld_runs hK, hlen]
  refine c_set_bad hd hl hi (Nat.le_trans (range_len hl hi) (by omega)) (by omega) fun ss => ?_
  simp
theorem x_remade_bad2 (hK : K ∈ KS) (p1 : Parts d1 l1) (n1 : l1.Nodup) (i1 : In rs.length l1) (hd : BadP rs.length d) (hl : l2.Nodup) (hi : In rs.length l2) (hn : rs.length ≤ 1000) : cal f_remade [.val (.obj K (mkt K size rs gone)), .val d1, .val (.lst (Js l2 ++ [d]))] fun c => ∃ ss, c = .exc "BadSet" [("place", .int l2.length)] ss := by
  unfold f_remade
  rw [cal_def]
  simp only [m_remade]
  have hlen : gLen (.tup (Rs rs)) = some rs.length := by simp [gLen]
  have s1 := fun C => c_set_of (C := C) (many := rs.length) p1 n1 i1 (Nat.le_trans (range_len n1 i1) (by omega)) (by omega)
  simp [gFld_runs hK, hlen, s1]
  refine c_set_bad hd hl hi (Nat.le_trans (range_len hl hi) (by omega)) (by omega) fun ss => ?_
  simp
end
end L2.Fn
set_option maxRecDepth 100000
set_option maxHeartbeats 4000000
/-! LibP27: rows of runs, counted. -/
namespace L2.Fn
open PySem PySem.Spec PyProof.Rows L2
/-- how many runs lie over x -/
def cn (rs : List (Int × Int)) (x : Int) : Int := ((rs.filter fun r => decide (r.1 ≤ x) && decide (x < r.2)).length : Int)
theorem cn_app (a b : List (Int × Int)) (x : Int) : cn (a ++ b) x = cn a x + cn b x := by
  unfold cn
  rw [List.filter_append, List.length_append]
  omega
theorem cn_nil (x : Int) : cn [] x = 0 := rfl
def rgI (lo : Int) (n : Nat) : List Int := (List.range n).map fun i => lo + (i : Nat)
theorem rangeD_Js (lo : Int) (n : Nat) : rangeD lo n = Js (rgI lo n) := by
  unfold rangeD rgI Js
  rw [List.map_map] <;> rfl
theorem rgI_mem {lo : Int} {n : Nat} {p : Int} : p ∈ rgI lo n ↔ lo ≤ p ∧ p < lo + n := by
  unfold rgI
  rw [List.mem_map]
  constructor
  · rintro ⟨i, hi, rfl⟩
    have := List.mem_range.mp hi
    omega
  · intro h
    exact ⟨(p - lo).toNat, List.mem_range.mpr (by omega), by omega⟩
theorem rgI_asc (lo : Int) (n : Nat) : Asc (rgI lo n) := by
  unfold rgI Asc
  rw [List.pairwise_map]
  exact List.pairwise_lt_range.imp fun h => by omega
theorem rgI_len (lo : Int) (n : Nat) : (rgI lo n).length = n := by simp [rgI]
theorem cn_sum {size : Int} : ∀ {M : List (Int × Int)}, InRow size M → ∀ x, (M.map fun r => bi (decide (r.1 ≤ x)) - bi (decide (r.2 ≤ x))).sum = cn M x
  | [], _, x => rfl
  | r :: M, h, x => by
    have h1 := h r List.mem_cons_self
    have ih := cn_sum (M := M) (fun q hq => h q (List.mem_cons_of_mem _ hq)) x
    rw [List.map_cons, List.sum_cons, ih]
    have e : cn (r :: M) x = cn [r] x + cn M x := cn_app [r] M x
    rw [e]
    congr 1
    by_cases a : r.1 ≤ x <;> by_cases b : r.2 ≤ x
    · have : ¬ x < r.2 := by omega
      simp [bi, cn, a, b, this]
    · have : x < r.2 := by omega
      simp [bi, cn, a, b, this]
    · omega
    · simp [bi, cn, a, b]
theorem cvS_seg {size : Int} {A M B : List (Int × Int)} (h : InRow size M) (x : Int) : cvS (A ++ M ++ B) (rgI (A.length : Int) M.length) x = cn M x := by
  rw [← cn_sum h x]
  unfold cvS rgI
  rw [List.map_map]
  congr 1
  apply List.ext_getElem?
  intro i
  rw [List.getElem?_map, List.getElem?_map]
  by_cases hi : i < M.length
  · rw [List.getElem?_range hi, Option.map_some, List.getElem?_eq_getElem hi, Option.map_some]
    have e : (A ++ M ++ B)[A.length + i]? = some M[i] := by
      rw [List.append_assoc, List.getElem?_append_right (by omega), Nat.add_sub_cancel_left, List.getElem?_append_left hi, List.getElem?_eq_getElem hi]
    have t : ((A.length : Int) + (i : Int)).toNat = A.length + i := by omega
    simp only [Function.comp_apply, rb, re, List.getD, t, e] <;> rfl
  · rw [List.getElem?_eq_none (by simp; omega), List.getElem?_eq_none (by omega)]
    rfl
theorem gAdd_Rs {a b : List (Int × Int)} (h : a.length + b.length ≤ 10000) : gAdd (.lst (Rs a)) (.lst (Rs b)) = some (.lst (Rs (a ++ b))) := by
  show (if _ then _ else _) = _
  rw [if_pos (by rw [Rs_length, Rs_length]; exact le_size (by omega)), Rs_append]
theorem gAdd_Js {a b : List Int} (h : a.length + b.length ≤ 10000) : gAdd (.lst (Js a)) (.lst (Js b)) = some (.lst (Js (a ++ b))) := by
  show (if _ then _ else _) = _
  rw [if_pos (by rw [Js_length, Js_length]; exact le_size (by omega)), Js_append]
theorem gAdd_Jsd {a : List Int} {d : D} (h : a.length ≤ 10000) : gAdd (.lst (Js a)) (.lst [d]) = some (.lst (Js a ++ [d])) := by
  show (if _ then _ else _) = _
  rw [if_pos (by rw [Js_length]; exact le_size (by simp; omega))]
theorem gEq_lap {k : Str} (hk : k ∈ kinds) : gEq (.str k) (.str "lap") = some (.val (.bl (decide (k = "lap")))) := by
  rcases List.mem_cons.mp hk with rfl | hk
  · kernel_rfl
  · rcases List.mem_cons.mp hk with rfl | hk
    · kernel_rfl
    · cases hk
theorem not_lap {k : Str} (h : k = "lap") : k ≠ "join" := by subst h; decide
theorem rgOk_of {i j : Int} (h1 : 0 ≤ i) (h2 : i ≤ 10000) (h3 : 0 ≤ j) (h4 : j ≤ 10000) : gLstRg (.int i) (.int j) = some (.lst (Js (rgI i (j - i).toNat))) := by
  show (if RgOk i j then some (S.lst (rangeD i (j - i).toNat)) else none) = _
  rw [if_pos (by unfold RgOk; omega), rangeD_Js]
theorem cls_KS {k : Str} (hk : k ∈ kinds) : clsOf k ∈ KS := by
  unfold clsOf
  split <;> decide
end L2.Fn
set_option maxRecDepth 100000
set_option maxHeartbeats 4000000
/-! LibP28: two stocks (printed by p28.py). -/
namespace L2.Fn
open PySem PySem.Spec PyProof.Rows L2
theorem x_chain' {ds : List Int} {size first last : Int} {C : CR → Prop} (hs : 0 < size) (hs2 : size ≤ 30) (h0 : 0 ≤ first) (h1 : first ≤ last) (h2 : last ≤ size)
    (h : ∀ rs ds', InRow size rs → (rs.length : Int) ≤ last - first → (∀ x : Int, cn rs x = if first ≤ x ∧ x < last then 1 else 0) →
      C (.ret (.lst (Rs rs)) [.lst (Js ds'), .val (.int size), .val (.int first), .val (.int last)])) : cal f__law_chain [.lst (Js ds), .val (.int size), .val (.int first), .val (.int last)] C := x_chain hs hs2 h0 h1 h2 h
/-- what is drawn: shared runs, upper and lower ones -/
structure Drawn (k : Str) (size nb : Int) (r : Int × Int) (sh up lo : List (Int × Int)) : Prop where
  nb1 : 1 ≤ nb ∧ nb ≤ 2
  rr : 0 ≤ r.1 ∧ r.1 < r.2 ∧ r.2 ≤ size
  iS : InRow size sh
  iU : InRow size up
  iL : InRow size lo
  len : sh.length + up.length + lo.length ≤ 31
  cS : ∀ x, 0 ≤ x → x < size → cn sh x = nb - 1
  cU : ∃ ex : Int, (0 ≤ ex ∧ (k = "join" → ex = 0)) ∧ ∀ x, 0 ≤ x → x < size → cn up x = 1 + (if r.1 ≤ x ∧ x < r.2 then 1 else 0) + ex
  cL : ∀ x, 0 ≤ x → x < size → cn lo x = 1 - (if r.1 ≤ x ∧ x < r.2 then 1 else 0)
def two1 : MS := (sSeq (sAsg (mOp gAdd (ret (.int 1)) (mCold (mCall f__law_take [] (mIo 0 (aCons (ret (.int 2)) aNil))))) (gSetM 3))
  (sSeq (sAsg (mCall f__law_run [] (mIo 0 (aCons (mVar 2) aNil))) (gSetM 4))
  (sSeq (sAsg (mLst mNil) (gSetM 5))
  (sSeq (sFor (mRange1 (mCold (mOp gSub (mVar 3) (ret (.int 1))))) (gSetM 6) (sAsg (mOp gAdd (mVar 5) (mCold (mCall f__law_chain [] (mIo 0 (aCons (mVar 2) (aCons (ret (.int 0)) (aCons (mVar 2) aNil))))))) (gSetM 5)))
  (sSeq (sAsg (mOp gAdd (mCold (mCall f__law_chain [] (mIo 0 (aCons (mVar 2) (aCons (ret (.int 0)) (aCons (mVar 2) aNil)))))) (mCold (mCall f__law_chain [] (mIo 0 (aCons (mVar 2) (aCons (mIxN 4 (ret (.int 0))) (aCons (mIxN 4 (ret (.int 1))) aNil))))))) (gSetM 7))
  (sSeq (sAsg (mOp gAdd (mCold (mCall f__law_chain [] (mIo 0 (aCons (mVar 2) (aCons (ret (.int 0)) (aCons (mIxN 4 (ret (.int 0))) aNil)))))) (mCold (mCall f__law_chain [] (mIo 0 (aCons (mVar 2) (aCons (mIxN 4 (ret (.int 1))) (aCons (mVar 2) aNil))))))) (gSetM 8))
  (sSeq (sIf (mAnd (mTest (mOp gEq (mVar 1) (ret (.str "lap")))) (mTest (mOp gEq (mCold (mCall f__law_take [] (mIo 0 (aCons (ret (.int 2)) aNil)))) (ret (.int 1))))) (sDrop (mAppN 7 (mTup (mCons (ret (.int 0)) (mCons (mVar 2) mNil))))) sNil)
  (sAsg (mOp gAdd (mCold (mOp gAdd (mVar 5) (mVar 7))) (mVar 8)) (gSetM 9)))))))))

theorem two_drawn {ds : List Int} {k : Str} {size : Int} {R : Out → Prop} (hk : k ∈ kinds) (hs : 1 ≤ size) (hs2 : size ≤ 8)
    (h : ∀ ds nb r sh up lo s6, Drawn k size nb r sh up lo → R (.nx [.lst (Js ds), .val (.str k), .val (.int size), .val (.int nb), .val (rn r), .val (.lst (Rs sh)), s6, .val (.lst (Rs up)), .val (.lst (Rs lo)), .lst (Rs (sh ++ up ++ lo)), .no, .no, .no, .no, .no, .no, .no, .no])) : run two1 [.lst (Js ds), .val (.str k), .val (.int size), .no, .no, .no, .no, .no, .no, .no, .no, .no, .no, .no, .no, .no, .no, .no] R := by
  unfold two1
  refine run_seq_of (P := fun ρ => ∃ ds nb, ρ = [.lst (Js ds), .val (.str k), .val (.int size), .val (.int nb), .no, .no, .no, .no, .no, .no, .no, .no, .no, .no, .no, .no, .no, .no] ∧ 1 ≤ nb ∧ nb ≤ 2) ?_ ?_
  · have hd := dr_range (ds := ds) (show (0 : Int) < 2 by omega)
    simp [c_take (show (0 : Int) < 2 by omega)]
    exact ⟨_, _, ⟨rfl, rfl⟩, by omega, by omega⟩
  rintro ρ ⟨ds, nb, rfl, n1, n2⟩
  refine run_seq_of (P := fun ρ => ∃ ds r, ρ = [.lst (Js ds), .val (.str k), .val (.int size), .val (.int nb), .val (rn r), .no, .no, .no, .no, .no, .no, .no, .no, .no, .no, .no, .no, .no] ∧ (0 ≤ r.1 ∧ r.1 < r.2 ∧ r.2 ≤ size)) ?_ ?_
  · simp
    refine x_run (by omega) fun r ds' hr => ?_
    simp
    exact ⟨_, r.1, r.2, ⟨rfl, rfl⟩, hr⟩
  rintro ρ ⟨ds, r, rfl, hr⟩
  refine run_seq_of (P := fun ρ => ρ = [.lst (Js ds), .val (.str k), .val (.int size), .val (.int nb), .val (rn r), .lst (Rs []), .no, .no, .no, .no, .no, .no, .no, .no, .no, .no, .no, .no]) (by simp) ?_
  rintro ρ rfl
  refine run_seq_of (P := fun ρ => ∃ ds sh s6, ρ = [.lst (Js ds), .val (.str k), .val (.int size), .val (.int nb), .val (rn r), .lst (Rs sh), s6, .no, .no, .no, .no, .no, .no, .no, .no, .no, .no, .no] ∧ InRow size sh ∧ (sh.length : Int) ≤ 8 ∧ ∀ x, 0 ≤ x → x < size → cn sh x = nb - 1) ?_ ?_
  · simp only [run_for]
    simp
    refine ⟨rg_of (by omega) (by omega), ?_⟩
    show run (sLoop _ _ ((List.range (nb.toNat - 1)).map fun i => D.int (0 + (i : Nat)))) _ _
    refine run_loop _ (fun done ρ => ∃ ds sh s6, ρ = [.lst (Js ds), .val (.str k), .val (.int size), .val (.int nb), .val (rn r), .lst (Rs sh), s6, .no, .no, .no, .no, .no, .no, .no, .no, .no, .no, .no] ∧ InRow size sh ∧ (sh.length : Int) ≤ 8 * done.length ∧ ∀ x, 0 ≤ x → x < size → cn sh x = done.length) ⟨_, [], _, rfl, InRow.nil, by simp, fun x _ _ => rfl⟩ ?_ ?_
    · rintro done i rest ρ e ⟨ds, sh, s6, rfl, a1, a2, a3⟩
      have hi := at_range e
      simp
      refine x_chain' (by omega) (by omega) (by omega) (by omega) (by omega) fun rs ds' b1 b2 b3 => ?_
      simp [gAdd_Rs (a := sh) (b := rs) (by omega)]
      refine ⟨_, _, ⟨rfl, rfl⟩, a1.append b1, by simp; omega, fun x h1 h2 => ?_⟩
      rw [cn_app, a3 x h1 h2, b3 x, if_pos ⟨h1, h2⟩]
    · rintro ρ ⟨ds, sh, s6, rfl, a1, a2, a3⟩
      refine ⟨_, rfl, _, _, ⟨_, rfl⟩, a1, ?_, fun x h1 h2 => ?_⟩
      · simp at a2; omega
      · rw [a3 x h1 h2]; simp; omega
  rintro ρ ⟨ds, sh, s6, rfl, a1, a2, a3⟩
  have g0 : gIx (rn r) (.int 0) = some (.int r.1) := rfl
  have g1 : gIx (rn r) (.int 1) = some (.int r.2) := rfl
  refine run_seq_of (P := fun ρ => ∃ ds up, ρ = [.lst (Js ds), .val (.str k), .val (.int size), .val (.int nb), .val (rn r), .lst (Rs sh), s6, .lst (Rs up), .no, .no, .no, .no, .no, .no, .no, .no, .no, .no] ∧ InRow size up ∧ (up.length : Int) ≤ 8 + (r.2 - r.1) ∧ ∀ x, 0 ≤ x → x < size → cn up x = 1 + (if r.1 ≤ x ∧ x < r.2 then 1 else 0)) ?_ ?_
  · simp
    refine x_chain' (by omega) (by omega) (by omega) (by omega) (by omega) fun rs ds' b1 b2 b3 => ?_
    simp [g0, g1]
    refine x_chain' (by omega) (by omega) (by omega) (by omega) (by omega) fun rs2 ds2 c1 c2 c3 => ?_
    simp [gAdd_Rs (a := rs) (b := rs2) (by omega)]
    refine ⟨_, _, ⟨rfl, rfl⟩, b1.append c1, by simp; omega, fun x h1 h2 => ?_⟩
    rw [cn_app, b3 x, c3 x, if_pos ⟨h1, h2⟩]
  rintro ρ ⟨ds, up, rfl, u1, u2, u3⟩
  refine run_seq_of (P := fun ρ => ∃ ds lo, ρ = [.lst (Js ds), .val (.str k), .val (.int size), .val (.int nb), .val (rn r), .lst (Rs sh), s6, .lst (Rs up), .lst (Rs lo), .no, .no, .no, .no, .no, .no, .no, .no, .no] ∧ InRow size lo ∧ (lo.length : Int) ≤ 8 - (r.2 - r.1) ∧ ∀ x, 0 ≤ x → x < size → cn lo x = 1 - (if r.1 ≤ x ∧ x < r.2 then 1 else 0)) ?_ ?_
  · simp [g0, g1]
    refine x_chain' (by omega) (by omega) (by omega) (by omega) (by omega) fun rs ds' b1 b2 b3 => ?_
    simp [g0, g1]
    refine x_chain' (by omega) (by omega) (by omega) (by omega) (by omega) fun rs2 ds2 c1 c2 c3 => ?_
    simp [gAdd_Rs (a := rs) (b := rs2) (by omega)]
    refine ⟨_, _, ⟨rfl, rfl⟩, b1.append c1, by simp; omega, fun x h1 h2 => ?_⟩
    rw [cn_app, b3 x, c3 x]
    split <;> split <;> split <;> omega
  rintro ρ ⟨ds, lo, rfl, l1, l2, l3⟩
  refine run_seq_of (P := fun ρ => ∃ ds up, ρ = [.lst (Js ds), .val (.str k), .val (.int size), .val (.int nb), .val (rn r), .lst (Rs sh), s6, .lst (Rs up), .lst (Rs lo), .no, .no, .no, .no, .no, .no, .no, .no, .no] ∧ InRow size up ∧ (up.length : Int) ≤ 9 + (r.2 - r.1) ∧ ∃ ex : Int, (0 ≤ ex ∧ (k = "join" → ex = 0)) ∧ ∀ x, 0 ≤ x → x < size → cn up x = 1 + (if r.1 ≤ x ∧ x < r.2 then 1 else 0) + ex) ?_ ?_
  · by_cases hl : k = "lap"
    · have e1 : gEq (.str k) (.str "lap") = some (.val (.bl true)) := by rw [gEq_lap hk]; simp [hl]
      simp [e1, c_take (show (0 : Int) < 2 by omega)]
      have hsz : up.length < sizeLine := lt_size (by omega)
      split
      · simp [hsz]
        refine ⟨_, up ++ [(0, size)], ⟨rfl, by simp [Rs, rn]⟩, u1.append fun q hq => ?_, by simp; omega, 1, ⟨by omega, fun h => absurd h (not_lap hl)⟩, fun x h1 h2 => ?_⟩
        · simp at hq; subst hq; exact ⟨by simp, by simp; omega, by simp⟩
        · rw [cn_app, u3 x h1 h2]
          have : cn [(0, size)] x = 1 := by simp [cn, h1, h2]
          rw [this]
      · exact ⟨_, up, ⟨rfl, rfl⟩, u1, by omega, 0, ⟨by omega, fun _ => rfl⟩, fun x h1 h2 => by rw [u3 x h1 h2]; omega⟩
    · have e1 : gEq (.str k) (.str "lap") = some (.val (.bl false)) := by rw [gEq_lap hk]; simp [hl]
      simp [e1]
      exact ⟨_, up, ⟨rfl, rfl⟩, u1, by omega, 0, ⟨by omega, fun _ => rfl⟩, fun x h1 h2 => by rw [u3 x h1 h2]; omega⟩
  rintro ρ ⟨ds, up, rfl, v1, v2, v3⟩
  simp [gAdd_Rs (a := sh) (b := up) (by omega), gAdd_Rs (a := sh ++ up) (b := lo) (by simp; omega)]
  have := h ds nb r sh up lo s6 ⟨⟨n1, n2⟩, hr, a1, v1, l1, by omega, a3, v3, l3⟩
  simpa using this
end L2.Fn
set_option maxRecDepth 100000
set_option maxHeartbeats 4000000
/-! LibP29: two stocks, told (printed by p29.py). -/
namespace L2.Fn
open PySem PySem.Spec PyProof.Rows L2
theorem fits_of {k : Str} {size : Int} {rs : List (Int × Int)} {l d : List Int} (h : ∀ i : Nat, i < size.toNat → ∀ e, d[i]? = some e → e ≤ cvS rs l i ∧ (k = "join" → cvS rs l i = e)) : Fits k d (covs size rs (sortI l)) := by
  intro i c e h1 h2
  have hi := (List.getElem?_eq_some_iff.mp h1).1
  rw [covs_len] at hi
  unfold covs at h1
  rw [List.getElem?_map, List.getElem?_range hi] at h1
  cases h1
  have := h i hi e h2
  rw [← cvS_perm (sortI_perm l)] at this
  exact this
theorem rep_get {n : Nat} {v e : Int} {i : Nat} (h : (List.replicate n v)[i]? = some e) : e = v := by
  rw [List.getElem?_replicate] at h
  split at h
  · cases h; rfl
  · cases h
def two2 : MS := (sSeq (sAsg (mCall f__law_built [] (aCons (mVar 1) (aCons (mVar 2) (aCons (mVar 9) (aCons (mCold (mLst mNil)) aNil))))) (gSetM 10))
  (sSeq (sAsg ((mCold (mOp gAdd (mLenN 5) (mLenN 7))).bnd fun x => opt (gLstRg (.int 0) x)) (gSetM 11))
  (sSeq (sAsg (mOp gAdd (mCold ((mLenN 5).bnd fun x => opt (gLstRg (.int 0) x))) (mCold ((mCold (mOp gAdd (mLenN 5) (mLenN 7))).bnd fun x => (mLenN 9).bnd fun y => opt (gLstRg x y)))) (gSetM 12))
  (sSeq (sAsg (mCall f_changed [] (aCons (mVar 10) (aCons (mVar 3) (aCons (mVar 4) (aCons (ret (.int 1)) aNil))))) (gSetM 13))
  (sSeq (sAsg (mCall f_changed [] (aCons (mVar 10) (aCons (mVar 3) (aCons (mVar 4) (aCons (mUn gNeg (ret (.int 1))) aNil))))) (gSetM 14))
  (sSeq (sIf (mOr (mNot (mTest (mCall f_is_stock [] (aCons (mVar 10) (aCons (mVar 13) (aCons (mVar 11) aNil)))))) (mNot (mTest (mCall f_is_stock [] (aCons (mVar 10) (aCons (mVar 14) (aCons (mVar 12) aNil))))))) (sRet (mWarm (ret (.bl false)))) sNil)
  (sSeq (sAsg (mCall f_remade [] (aCons (mVar 10) (aCons (mVar 11) (aCons (mVar 12) aNil)))) (gSetM 15))
  (sSeq (sIf (mNot (mTest (mCall f__law_remade_right [] (aCons (mVar 2) (aCons (mVar 9) (aCons (mVar 15) (aCons (mVar 11) (aCons (mVar 12) aNil)))))))) (sRet (mWarm (ret (.bl false)))) sNil)
  (sSeq (sAsg (mCall f_remade [] (aCons (mVar 10) (aCons (mCold (mB1 gTuple (mVar 12))) (aCons (mCold (mB1 gTuple (mVar 11))) aNil)))) (gSetM 16))
  (sSeq (sIf (mNot (mTest (mCall f__law_remade_right [] (aCons (mVar 2) (aCons (mVar 9) (aCons (mVar 16) (aCons (mVar 11) (aCons (mVar 12) aNil)))))))) (sRet (mWarm (ret (.bl false)))) sNil)
  (sSeq (sFor (mItems (mCold (mLst (mCons (mIxN 15 (ret (.int 0))) (mCons (mIxN 15 (ret (.int 1))) (mCons (mIxN 16 (ret (.int 0))) (mCons (mIxN 16 (ret (.int 1))) mNil))))))) (gSetM 17) (sIf (mNot (mTest (mCall f_is_stock [] (aCons (mVar 10) (aCons (mVar 3) (aCons (mVar 17) aNil)))))) (sRet (mWarm (ret (.bl false)))) sNil))
  (sRet (mWarm (ret (.bl true)))))))))))))))
theorem seq_assoc (a b c : MS) : sSeq (sSeq a b) c = sSeq a (sSeq b c) := by
  funext ρ
  unfold sSeq
  cases a ρ with
  | none => rfl
  | some o => cases o <;> rfl
theorem two_told {ds : List Int} {k : Str} {size nb : Int} {r : Int × Int} {sh up lo : List (Int × Int)} {s6 : S} {R : Out → Prop} (hk : k ∈ kinds) (hs : 1 ≤ size) (hs2 : size ≤ 8) (dn : Drawn k size nb r sh up lo)
    (h : ∀ ρ, R (.rt (.val (.bl true)) ρ)) : run two2 [.lst (Js ds), .val (.str k), .val (.int size), .val (.int nb), .val (rn r), .val (.lst (Rs sh)), s6, .val (.lst (Rs up)), .val (.lst (Rs lo)), .lst (Rs (sh ++ up ++ lo)), .no, .no, .no, .no, .no, .no, .no, .no] R := by
  obtain ⟨rs, ers⟩ : ∃ rs, rs = sh ++ up ++ lo := ⟨_, rfl⟩
  have hK := cls_KS hk
  have hin : InRow size rs := by rw [ers]; exact (dn.iS.append dn.iU).append dn.iL
  have hlen : rs.length = sh.length + up.length + lo.length := by rw [ers, List.length_append, List.length_append]
  have hl31 := dn.len
  rw [← ers]
  obtain ⟨one, eo⟩ : ∃ one, one = rgI 0 (sh.length + up.length) := ⟨_, rfl⟩
  obtain ⟨oth, et⟩ : ∃ oth, oth = rgI 0 sh.length ++ rgI ((sh.length : Int) + up.length) lo.length := ⟨_, rfl⟩
  have ao : Asc one := by rw [eo]; exact rgI_asc _ _
  have at_ : Asc oth := by
    rw [et]
    refine List.pairwise_append.mpr ⟨rgI_asc _ _, rgI_asc _ _, fun a ha b hb => ?_⟩
    have h1 := rgI_mem.mp ha
    have h2 := rgI_mem.mp hb
    omega
  have io : In rs.length one := fun p hp => by
    rw [eo] at hp
    have := rgI_mem.mp hp
    omega
  have it : In rs.length oth := fun p hp => by
    rw [et] at hp
    rcases List.mem_append.mp hp with hp | hp
    · have := rgI_mem.mp hp; omega
    · have := rgI_mem.mp hp; omega
  have lo1 : one.length ≤ 31 := by rw [eo, rgI_len]; omega
  have lt1 : oth.length ≤ 31 := by rw [et, List.length_append, rgI_len, rgI_len]; omega
  have co : ∀ x, cvS rs one x = cn sh x + cn up x := fun x => by
    have := cvS_seg (A := []) (M := sh ++ up) (B := lo) (dn.iS.append dn.iU) x
    rw [cn_app] at this
    rw [← this, ers, eo]
    simp
  have ct : ∀ x, cvS rs oth x = cn sh x + cn lo x := fun x => by
    have h1 := cvS_seg (A := []) (M := sh) (B := up ++ lo) dn.iS x
    have h2 := cvS_seg (A := sh ++ up) (M := lo) (B := []) dn.iL x
    rw [et, cvS_app, ers]
    rw [← h1, ← h2]
    simp
  obtain ⟨ex, ⟨ex0, exj⟩, cU⟩ := dn.cU
  obtain ⟨n1, n2⟩ := dn.nb1
  have ls : gLen (.lst (Rs sh)) = some sh.length := by simp [gLen]
  have lu : gLen (.lst (Rs up)) = some up.length := by simp [gLen]
  have lr : gLen (.lst (Rs rs)) = some rs.length := by simp [gLen]
  unfold two2
  have s0 : sortI [] = [] := by simp [sortI]
  refine run_seq_of (P := fun ρ => ρ = [.lst (Js ds), .val (.str k), .val (.int size), .val (.int nb), .val (rn r), .val (.lst (Rs sh)), s6, .val (.lst (Rs up)), .val (.lst (Rs lo)), .val (.lst (Rs rs)), .ins (clsOf k) (mkt (clsOf k) size rs []), .no, .no, .no, .no, .no, .no, .no]) ?_ ?_
  · have hb := fun C => c_built (C := C) (gone := []) (dg := .lst []) hk hs (by omega) hin (by omega) (.inl rfl) .nil (fun x hx => by cases hx) (by simp)
    rw [s0] at hb
    simp [hb]
  rintro ρ rfl
  refine run_seq_of (P := fun ρ => ρ = [.lst (Js ds), .val (.str k), .val (.int size), .val (.int nb), .val (rn r), .val (.lst (Rs sh)), s6, .val (.lst (Rs up)), .val (.lst (Rs lo)), .val (.lst (Rs rs)), .ins (clsOf k) (mkt (clsOf k) size rs []), .lst (Js one), .no, .no, .no, .no, .no, .no]) ?_ ?_
  · have g := rgOk_of (i := 0) (j := (sh.length : Int) + up.length) (by omega) (by omega) (by omega) (by omega)
    rw [show ((sh.length : Int) + up.length - 0).toNat = sh.length + up.length by omega, ← eo] at g
    simp [ls, lu, g]
  rintro ρ rfl
  refine run_seq_of (P := fun ρ => ρ = [.lst (Js ds), .val (.str k), .val (.int size), .val (.int nb), .val (rn r), .val (.lst (Rs sh)), s6, .val (.lst (Rs up)), .val (.lst (Rs lo)), .val (.lst (Rs rs)), .ins (clsOf k) (mkt (clsOf k) size rs []), .lst (Js one), .lst (Js oth), .no, .no, .no, .no, .no]) ?_ ?_
  · have g1 := rgOk_of (i := 0) (j := (sh.length : Int)) (by omega) (by omega) (by omega) (by omega)
    rw [show ((sh.length : Int) - 0).toNat = sh.length by omega] at g1
    have g2 := rgOk_of (i := (sh.length : Int) + up.length) (j := (rs.length : Int)) (by omega) (by omega) (by omega) (by omega)
    rw [show ((rs.length : Int) - ((sh.length : Int) + up.length)).toNat = lo.length by omega] at g2
    have g3 := gAdd_Js (a := rgI 0 sh.length) (b := rgI ((sh.length : Int) + up.length) lo.length) (by rw [rgI_len, rgI_len]; omega)
    rw [← et] at g3
    simp [ls, lu, lr, g1, g2, g3]
  rintro ρ rfl
  have hD : Dem size (.int nb) (List.replicate size.toNat nb) := .inl ⟨nb, rfl, rfl⟩
  refine run_seq_of (P := fun ρ => ∃ hi : List Int, ρ = [.lst (Js ds), .val (.str k), .val (.int size), .val (.int nb), .val (rn r), .val (.lst (Rs sh)), s6, .val (.lst (Rs up)), .val (.lst (Rs lo)), .val (.lst (Rs rs)), .val (.obj (clsOf k) (mkt (clsOf k) size rs [])), .lst (Js one), .lst (Js oth), .val (tp hi), .no, .no, .no, .no] ∧ (hi.length : Int) = size ∧ ∀ i : Nat, hi[i]? = ((List.replicate size.toNat nb)[i]?).map fun x => if r.1 ≤ i ∧ (i : Int) < r.2 then x + 1 else x) ?_ ?_
  · simp
    refine x_changed hK hs (by omega) hD dn.rr fun xs e1 e2 ss => ?_
    simp
    exact ⟨xs, rfl, e1, fun i => by rw [e2 i]⟩
  rintro ρ ⟨hi, rfl, hi1, hi2⟩
  refine run_seq_of (P := fun ρ => ∃ le : List Int, ρ = [.lst (Js ds), .val (.str k), .val (.int size), .val (.int nb), .val (rn r), .val (.lst (Rs sh)), s6, .val (.lst (Rs up)), .val (.lst (Rs lo)), .val (.lst (Rs rs)), .val (.obj (clsOf k) (mkt (clsOf k) size rs [])), .lst (Js one), .lst (Js oth), .val (tp hi), .val (tp le), .no, .no, .no] ∧ (le.length : Int) = size ∧ ∀ i : Nat, le[i]? = ((List.replicate size.toNat nb)[i]?).map fun x => if r.1 ≤ i ∧ (i : Int) < r.2 then x + -1 else x) ?_ ?_
  · simp
    refine x_changed hK hs (by omega) hD dn.rr fun xs e1 e2 ss => ?_
    simp
    exact ⟨xs, rfl, e1, fun i => by rw [e2 i]⟩
  rintro ρ ⟨le, rfl, le1, le2⟩
  have fh : Fits k hi (covs size rs (sortI one)) := fits_of fun i hi' e he => by
    rw [hi2 i, List.getElem?_replicate, if_pos hi', Option.map_some] at he
    injection he with he
    have h1 := dn.cS i (by omega) (by omega)
    have h2 := cU i (by omega) (by omega)
    rw [co, h1, h2, ← he]
    refine ⟨by split <;> omega, fun j => ?_⟩
    have := exj j
    split <;> omega
  have fl' : Fits k le (covs size rs (sortI oth)) := fits_of fun i hi' e he => by
    rw [le2 i, List.getElem?_replicate, if_pos hi', Option.map_some] at he
    injection he with he
    have h1 := dn.cS i (by omega) (by omega)
    have h2 := dn.cL i (by omega) (by omega)
    rw [ct, h1, h2, ← he]
    refine ⟨by split <;> omega, fun j => ?_⟩
    split <;> omega
  have kh := fun C => c_is_stock (C := C) (gone := []) (d := hi) (dm := tp hi) (dp := .lst (Js one)) hk hK hs (by omega) hin (by omega) (.inr ⟨rfl, hi1⟩) (.inl rfl) ao.nd io (by omega) rfl fh
  have kl := fun C => c_is_stock (C := C) (gone := []) (d := le) (dm := tp le) (dp := .lst (Js oth)) hk hK hs (by omega) hin (by omega) (.inr ⟨rfl, le1⟩) (.inl rfl) at_.nd it (by omega) rfl fl'
  refine run_seq_of (P := fun ρ => ρ = [.lst (Js ds), .val (.str k), .val (.int size), .val (.int nb), .val (rn r), .val (.lst (Rs sh)), s6, .val (.lst (Rs up)), .val (.lst (Rs lo)), .val (.lst (Rs rs)), .val (.obj (clsOf k) (mkt (clsOf k) size rs [])), .val (.lst (Js one)), .val (.lst (Js oth)), .val (tp hi), .val (tp le), .no, .no, .no]) (by simp [kh, kl]) ?_
  rintro ρ rfl
  have po : Parts (.lst (Js one)) one := .inl rfl
  have pt : Parts (.lst (Js oth)) oth := .inl rfl
  have po' : Parts (tp one) one := .inr rfl
  have pt' : Parts (tp oth) oth := .inr rfl
  obtain ⟨A, B, rm, cr⟩ := c_remade (size := size) (gone := []) hK (by omega) hin (by omega) po pt ao.nd at_.nd io it
  obtain ⟨A2, B2, rm2, cr2⟩ := c_remade (size := size) (gone := []) hK (by omega) hin (by omega) pt' po' at_.nd ao.nd it io
  have cc := fun C => c_remade_right (C := C) hs (by omega) hin (by omega) po pt rm
  have cc2 := fun C => c_remade_right (C := C) hs (by omega) hin (by omega) po pt rm2.swap
  refine run_seq_of (P := fun ρ => ρ = [.lst (Js ds), .val (.str k), .val (.int size), .val (.int nb), .val (rn r), .val (.lst (Rs sh)), s6, .val (.lst (Rs up)), .val (.lst (Rs lo)), .val (.lst (Rs rs)), .val (.obj (clsOf k) (mkt (clsOf k) size rs [])), .val (.lst (Js one)), .val (.lst (Js oth)), .val (tp hi), .val (tp le), .val (.tup [tp A, tp B]), .no, .no]) (by simp [cr]) ?_
  rintro ρ rfl
  refine run_seq_of (P := fun ρ => ρ = [.lst (Js ds), .val (.str k), .val (.int size), .val (.int nb), .val (rn r), .val (.lst (Rs sh)), s6, .val (.lst (Rs up)), .val (.lst (Rs lo)), .val (.lst (Rs rs)), .val (.obj (clsOf k) (mkt (clsOf k) size rs [])), .val (.lst (Js one)), .val (.lst (Js oth)), .val (tp hi), .val (tp le), .val (.tup [tp A, tp B]), .no, .no]) (by simp [cc]) ?_
  rintro ρ rfl
  have tpl : ∀ l : List Int, gTuple (.lst (Js l)) = some (.val (tp l)) := gTuple_Js
  refine run_seq_of (P := fun ρ => ρ = [.lst (Js ds), .val (.str k), .val (.int size), .val (.int nb), .val (rn r), .val (.lst (Rs sh)), s6, .val (.lst (Rs up)), .val (.lst (Rs lo)), .val (.lst (Rs rs)), .val (.obj (clsOf k) (mkt (clsOf k) size rs [])), .val (.lst (Js one)), .val (.lst (Js oth)), .val (tp hi), .val (tp le), .val (.tup [tp A, tp B]), .val (.tup [tp A2, tp B2]), .no]) (by simp [tpl, cr2]) ?_
  rintro ρ rfl
  refine run_seq_of (P := fun ρ => ρ = [.lst (Js ds), .val (.str k), .val (.int size), .val (.int nb), .val (rn r), .val (.lst (Rs sh)), s6, .val (.lst (Rs up)), .val (.lst (Rs lo)), .val (.lst (Rs rs)), .val (.obj (clsOf k) (mkt (clsOf k) size rs [])), .val (.lst (Js one)), .val (.lst (Js oth)), .val (tp hi), .val (tp le), .val (.tup [tp A, tp B]), .val (.tup [tp A2, tp B2]), .no]) (by simp [cc2]) ?_
  rintro ρ rfl
  have good : ∀ l, l ∈ [A, B, A2, B2] → ∀ C : CR → Prop, cal f_is_stock [.val (.obj (clsOf k) (mkt (clsOf k) size rs [])), .val (.int nb), .val (tp l)] C ↔ C (.ret (.val (.bl true)) [.val (.obj (clsOf k) (mkt (clsOf k) size rs [])), .val (.int nb), .val (tp l)]) := by
    intro l hl C
    have key : ∀ {A B : List Int}, Rem rs one oth A B → ∀ i : Nat, i < size.toNat → (nb ≤ cvS rs A i ∧ (k = "join" → cvS rs A i = nb)) ∧ (nb ≤ cvS rs B i ∧ (k = "join" → cvS rs B i = nb)) := fun {A B} rm i hi' => by
      have h0 := rm.sum ao.nd at_.nd i
      have h1 := dn.cS i (by omega) (by omega)
      have h2 := cU i (by omega) (by omega)
      have h3 := dn.cL i (by omega) (by omega)
      have h4 := rm.near i
      rw [co, ct, h1, h2, h3] at h0
      refine ⟨⟨by split at h0 <;> omega, fun j => ?_⟩, ⟨by split at h0 <;> omega, fun j => ?_⟩⟩
      · have := exj j; split at h0 <;> omega
      · have := exj j; split at h0 <;> omega
    have all : (Asc l ∧ In rs.length l) ∧ ∀ i : Nat, i < size.toNat → nb ≤ cvS rs l i ∧ (k = "join" → cvS rs l i = nb) := by
      rcases List.mem_cons.mp hl with rfl | hl
      · exact ⟨⟨rm.aA, rm.iA⟩, fun i hi => (key rm i hi).1⟩
      rcases List.mem_cons.mp hl with rfl | hl
      · exact ⟨⟨rm.aB, rm.iB⟩, fun i hi => (key rm i hi).2⟩
      rcases List.mem_cons.mp hl with rfl | hl
      · exact ⟨⟨rm2.aA, rm2.iA⟩, fun i hi => (key rm2.swap i hi).1⟩
      rcases List.mem_cons.mp hl with rfl | hl
      · exact ⟨⟨rm2.aB, rm2.iB⟩, fun i hi => (key rm2.swap i hi).2⟩
      · cases hl
    exact c_is_stock hk hK hs (by omega) hin (by omega) hD (.inr rfl) all.1.1.nd all.1.2 (Nat.le_trans (range_len all.1.1.nd all.1.2) (by omega)) rfl (fits_of fun i hi' e he => by
      rw [rep_get he]
      exact all.2 i hi')
  have x0 : ∀ a b : D, gIx (.tup [a, b]) (.int 0) = some a := fun _ _ => rfl
  have x1 : ∀ a b : D, gIx (.tup [a, b]) (.int 1) = some b := fun _ _ => rfl
  refine run_seq_of (P := fun ρ => ∃ s17, ρ = [.lst (Js ds), .val (.str k), .val (.int size), .val (.int nb), .val (rn r), .val (.lst (Rs sh)), s6, .val (.lst (Rs up)), .val (.lst (Rs lo)), .val (.lst (Rs rs)), .val (.obj (clsOf k) (mkt (clsOf k) size rs [])), .val (.lst (Js one)), .val (.lst (Js oth)), .val (tp hi), .val (tp le), .val (.tup [tp A, tp B]), .val (.tup [tp A2, tp B2]), s17]) ?_ ?_
  · simp only [run_for]
    simp [x0, x1, itemsD]
    show run (sLoop _ _ ([A, B, A2, B2].map tp)) _ _
    refine run_loop' _ (fun done ρ => ∃ s17, ρ = [.lst (Js ds), .val (.str k), .val (.int size), .val (.int nb), .val (rn r), .val (.lst (Rs sh)), s6, .val (.lst (Rs up)), .val (.lst (Rs lo)), .val (.lst (Rs rs)), .val (.obj (clsOf k) (mkt (clsOf k) size rs [])), .val (.lst (Js one)), .val (.lst (Js oth)), .val (tp hi), .val (tp le), .val (.tup [tp A, tp B]), .val (.tup [tp A2, tp B2]), s17]) ⟨_, rfl⟩ ?_ ?_
    · rintro done l rest ρ e ⟨s17, rfl⟩
      have hg := good l (by rw [e]; simp)
      exact ⟨[.lst (Js ds), .val (.str k), .val (.int size), .val (.int nb), .val (rn r), .val (.lst (Rs sh)), s6, .val (.lst (Rs up)), .val (.lst (Rs lo)), .val (.lst (Rs rs)), .val (.obj (clsOf k) (mkt (clsOf k) size rs [])), .val (.lst (Js one)), .val (.lst (Js oth)), .val (tp hi), .val (tp le), .val (.tup [tp A, tp B]), .val (.tup [tp A2, tp B2]), .val (tp l)], by simp [hg], _, rfl⟩
    · rintro ρ ⟨s17, rfl⟩
      exact ⟨_, rfl, _, rfl⟩
  rintro ρ ⟨s17, rfl⟩
  simp
  exact h _
theorem x_two_stocks {ds : List Int} {k : Str} {size : Int} {C : CR → Prop} (hk : k ∈ kinds) (hs : 1 ≤ size) (hs2 : size ≤ 8) (h : ∀ ss, C (.ret (.val (.bl true)) ss)) : cal f__law_two_stocks [.lst (Js ds), .val (.str k), .val (.int size)] C := by
  unfold f__law_two_stocks
  rw [cal_def]
  have e : run (sSeq two1 two2) [.lst (Js ds), .val (.str k), .val (.int size), .no, .no, .no, .no, .no, .no, .no, .no, .no, .no, .no, .no, .no, .no, .no] (fun o => ∃ ρ, o = .rt (.val (.bl true)) ρ) := by
    rw [run_seq]
    refine two_drawn hk hs hs2 fun ds nb r sh up lo s6 dn => ?_
    rw [nxt_nx]
    exact two_told hk hs hs2 dn fun ρ => ⟨ρ, rfl⟩
  have e2 : run m__law_two_stocks [.lst (Js ds), .val (.str k), .val (.int size), .no, .no, .no, .no, .no, .no, .no, .no, .no, .no, .no, .no, .no, .no, .no] (fun o => ∃ ρ, o = .rt (.val (.bl true)) ρ) := by
    have a : ∀ a b c : MS, sSeq (sSeq a b) c = sSeq a (sSeq b c) := seq_assoc
    unfold m__law_two_stocks
    unfold two1 two2 at e
    simp only [a] at e
    exact e
  refine run_mono e2 ?_
  rintro o ⟨ρ, rfl⟩
  exact h _
end L2.Fn
set_option maxRecDepth 100000
set_option maxHeartbeats 4000000
/-! LibP30: equal data, lists turned about. -/
namespace L2.Fn
open PySem PySem.Spec PyProof.Rows L2
theorem gNe_self {d : D} (h : Sh 60 d) : gNe d d = some (.val (.bl false)) := by
  unfold gNe
  rw [h.eq (by omega)]
  rfl
theorem sh_tp {k : Nat} {l : List Int} : Sh (k + 1) (tp l) := sh_tup sh_Js
theorem sh_Jl {k : Nat} {l : List Int} : Sh (k + 1) (.lst (Js l)) := sh_lst sh_Js
theorem sh_two {k : Nat} {a b : D} (h1 : Sh k a) (h2 : Sh k b) : ∀ x ∈ [a, b], Sh k x := fun x hx => by
  rcases List.mem_cons.mp hx with rfl | hx
  · exact h1
  · rcases List.mem_cons.mp hx with rfl | hx
    · exact h2
    · cases hx
theorem rev_nd {l : List Int} (h : l.Nodup) : l.reverse.Nodup := ((List.reverse_perm l).nodup_iff).mpr h
theorem rev_lc {l : List Int} {i j : Nat} {ρ : Slots} (hj : j < ρ.length) (hij : i ≠ j) (hi : ρ[i]? = some (.val (.lst (Js l)))) (hl : l.length ≤ 10000) : ∃ ρ', lcL (gSetM j) mYes (mIxN i (mCold (mOp gSub (mCold (mOp gSub (mLenN i) (ret (.int 1)))) (mVar j)))) [j] (rangeD 0 l.length) [] ρ = some (Js l.reverse, ρ') ∧ ∃ s, ρ' = ρ.set j s := by
  obtain ⟨acc, ρ', h1, h2, h3⟩ := ev_lcI (f := fun j : Nat => D.int (0 + (j : Nat))) (g := gSetM j) (tt := mYes) (te := mIxN i (mCold (mOp gSub (mCold (mOp gSub (mLenN i) (ret (.int 1)))) (mVar j)))) (vs := [j]) (ρ := ρ) (List.range l.length) (fun done acc ρ' => acc = Js (l.reverse.take done.length) ∧ ∃ s, ρ' = ρ.set j s) ⟨by simp, ρ[j], by simp⟩ (by
    rintro done x rest acc ρ' e ⟨rfl, s, rfl⟩
    obtain ⟨hx, hlt⟩ := at_range e
    have hne : j ≠ i := fun z => hij z.symm
    have hv : l[l.length - 1 - x]? = some l[l.length - 1 - x] := List.getElem?_eq_getElem (by omega)
    have g : gIx (.lst (Js l)) (.int ((l.length : Int) - 1 - (x : Int))) = some (.int l[l.length - 1 - x]) := by
      have := atI_nat (xs := Js l) (i := l.length - 1 - x) (a := .int l[l.length - 1 - x]) (by rw [Js_get, hv]; rfl)
      rw [show ((l.length - 1 - x : Nat) : Int) = (l.length : Int) - 1 - (x : Int) by omega] at this
      exact this
    have gl : gLen (.lst (Js l)) = some l.length := by simp [gLen]
    simp [wipeE, mYes, hj, List.getElem?_set_ne hne, hi, g, gl]
    refine ⟨?_, _, rfl⟩
    rw [← hx]
    have hr : l.reverse[x]? = some l[l.length - 1 - x] := by rw [List.getElem?_reverse hlt, hv]
    rw [List.take_add_one, hr]
    simp)
  subst h2
  simp only [List.length_range] at h1
  have e : l.reverse.take l.length = l.reverse := by rw [← List.length_reverse, List.take_length]
  rw [e] at h1
  exact ⟨ρ', h1, h3⟩
theorem sh_str {k : Nat} {x : Str} (h : PyData.strOk x = true) : Sh k (.str x) := ⟨.str x, rfl, by simp [PyData.canLay0, h], by simp [PyData.depth]⟩
end L2.Fn
set_option maxRecDepth 100000
set_option maxHeartbeats 4000000
/-! LibM3: sums over lots, squares. -/
namespace L2.Fn
def tot {α : Type} (f : α → Int) (l : List α) : Int := (l.map f).sum
@[simp] theorem tot_nil {α : Type} (f : α → Int) : tot f [] = 0 := rfl
@[simp] theorem tot_cons {α : Type} (f : α → Int) (a : α) (l : List α) : tot f (a :: l) = f a + tot f l := by simp [tot]
theorem tot_app {α : Type} (f : α → Int) (a b : List α) : tot f (a ++ b) = tot f a + tot f b := by simp [tot]
theorem tot_set {α : Type} (f : α → Int) : ∀ (l : List α) (i : Nat) (a v : α), l[i]? = some a → tot f (l.set i v) = tot f l - f a + f v
  | [], i, a, v, h => by simp at h
  | b :: l, 0, a, v, h => by
    simp at h
    subst h
    simp; omega
  | b :: l, i + 1, a, v, h => by
    have ih := tot_set f l i a v (by simpa using h)
    simp [ih]; omega
theorem tot_set2 {α : Type} (f : α → Int) (l : List α) (i j : Nat) (a b u v : α) (hij : i ≠ j) (h1 : l[i]? = some a) (h2 : l[j]? = some b) : tot f ((l.set i u).set j v) = tot f l - f a - f b + f u + f v := by
  rw [tot_set f (l.set i u) j b v (by rw [List.getElem?_set_ne hij]; exact h2), tot_set f l i a u h1]
  omega
theorem tot_le {α : Type} {f g : α → Int} : ∀ {l : List α}, (∀ a ∈ l, f a ≤ g a) → tot f l ≤ tot g l
  | [], _ => Int.le_refl _
  | a :: l, h => by
    have h1 := h a List.mem_cons_self
    have ih := tot_le (l := l) fun b hb => h b (List.mem_cons_of_mem _ hb)
    simp; omega
theorem tot_congr {α : Type} {f g : α → Int} {l : List α} (h : ∀ a ∈ l, f a = g a) : tot f l = tot g l := by
  unfold tot
  rw [List.map_congr_left h]
theorem tot_nn {α : Type} {f : α → Int} : ∀ {l : List α}, (∀ a ∈ l, 0 ≤ f a) → 0 ≤ tot f l
  | [], _ => Int.le_refl _
  | a :: l, h => by
    have h1 := h a List.mem_cons_self
    have ih := tot_nn (l := l) fun b hb => h b (List.mem_cons_of_mem _ hb)
    simp; omega
theorem tot_ge {α : Type} {f : α → Int} : ∀ {l : List α} {a : α}, (∀ a ∈ l, 0 ≤ f a) → a ∈ l → f a ≤ tot f l
  | b :: l, a, h, hm => by
    have h1 := h b List.mem_cons_self
    have hl := tot_nn (l := l) fun b hb => h b (List.mem_cons_of_mem _ hb)
    rcases List.mem_cons.mp hm with rfl | hm
    · simp; omega
    · have ih := tot_ge (l := l) (fun b hb => h b (List.mem_cons_of_mem _ hb)) hm
      simp; omega
theorem tot_ge2 {α : Type} {f : α → Int} : ∀ {l : List α} {i j : Nat} {a b : α}, (∀ a ∈ l, 0 ≤ f a) → i ≠ j → l[i]? = some a → l[j]? = some b → f a + f b ≤ tot f l
  | [], i, j, a, b, _, _, h, _ => by simp at h
  | c :: l, 0, 0, a, b, _, h, _, _ => absurd rfl h
  | c :: l, 0, j + 1, a, b, h, _, h1, h2 => by
    simp at h1 h2
    subst h1
    have := tot_ge (l := l) (fun b hb => h b (List.mem_cons_of_mem _ hb)) (List.mem_of_getElem? h2)
    simp; omega
  | c :: l, i + 1, 0, a, b, h, _, h1, h2 => by
    simp at h1 h2
    subst h2
    have := tot_ge (l := l) (fun b hb => h b (List.mem_cons_of_mem _ hb)) (List.mem_of_getElem? h1)
    simp; omega
  | c :: l, i + 1, j + 1, a, b, h, hij, h1, h2 => by
    have h0 := h c List.mem_cons_self
    have := tot_ge2 (l := l) (i := i) (j := j) (fun b hb => h b (List.mem_cons_of_mem _ hb)) (by omega) (by simpa using h1) (by simpa using h2)
    simp; omega
theorem sq2 (A B : Int) : 2 * (A * A + B * B) = (A + B) * (A + B) + (A - B) * (A - B) := by grind
theorem sq_ge {d : Int} (h : 2 ≤ d) : 4 ≤ d * d := by
  have := Int.mul_le_mul_of_nonneg_right h (show 0 ≤ d by omega)
  omega
theorem sq_nn (d : Int) : 0 ≤ d * d := by
  rcases Int.le_total 0 d with h | h
  · exact Int.mul_nonneg h h
  · exact Int.mul_nonneg_of_nonpos_of_nonpos h h
theorem sq_one {d : Int} (h : d ≠ 0) : 1 ≤ d * d := by
  have h1 := sq_nn d
  have h2 : d * d ≠ 0 := fun e => by
    rcases Int.mul_eq_zero.mp e with e | e <;> exact h e
  omega
theorem sq_le {A B a b : Int} (h : A + B = a + b) (h1 : -1 ≤ A - B) (h2 : A - B ≤ 1) : A * A + B * B ≤ a * a + b * b := by
  have e1 := sq2 A B
  have e2 := sq2 a b
  rw [h] at e1
  have h3 : A - B = -1 ∨ A - B = 0 ∨ A - B = 1 := by omega
  have h4 := sq_nn (a - b)
  rcases h3 with h3 | h3 | h3
  · have := sq_one (d := a - b) (by omega)
    rw [h3] at e1; omega
  · rw [h3] at e1; omega
  · have := sq_one (d := a - b) (by omega)
    rw [h3] at e1; omega
theorem sq_lt {A B a b : Int} (h : A + B = a + b) (h1 : -1 ≤ A - B) (h2 : A - B ≤ 1) (h5 : 2 ≤ a - b) : A * A + B * B < a * a + b * b := by
  have e1 := sq2 A B
  have e2 := sq2 a b
  rw [h] at e1
  have h3 : A - B = -1 ∨ A - B = 0 ∨ A - B = 1 := by omega
  have h4 := sq_ge h5
  rcases h3 with h3 | h3 | h3 <;> rw [h3] at e1 <;> omega
theorem tot_lt {α : Type} {f g : α → Int} : ∀ {l : List α} {a : α}, (∀ a ∈ l, f a ≤ g a) → a ∈ l → f a < g a → tot f l < tot g l
  | b :: l, a, h, hm, hl => by
    have h0 := h b List.mem_cons_self
    rcases List.mem_cons.mp hm with rfl | hm
    · have := tot_le (l := l) fun b hb => h b (List.mem_cons_of_mem _ hb)
      simp; omega
    · have ih := tot_lt (l := l) (fun b hb => h b (List.mem_cons_of_mem _ hb)) hm hl
      simp; omega
/-- each is the floor or one more, if they are near one another -/
theorem near_floor {l : List Int} {n : Int} (hn : (l.length : Int) = n) (h1 : 1 ≤ n) (h : ∀ a ∈ l, ∀ b ∈ l, a - b ≤ 1) : ∀ a ∈ l, a = tot id l / n ∨ a = tot id l / n + 1 := by
  intro a ha
  have hsum : ∀ (m : List Int) (c : Int), (∀ b ∈ m, c ≤ b) → c * m.length ≤ tot id m := by
    intro m c
    induction m with
    | nil => intro _; simp
    | cons b m ih =>
      intro hm
      have := ih fun x hx => hm x (List.mem_cons_of_mem _ hx)
      have hb := hm b List.mem_cons_self
      simp [Int.mul_add]
      omega
  have hsum2 : ∀ (m : List Int) (c : Int), (∀ b ∈ m, b ≤ c) → tot id m ≤ c * m.length := by
    intro m c
    induction m with
    | nil => intro _; simp
    | cons b m ih =>
      intro hm
      have := ih fun x hx => hm x (List.mem_cons_of_mem _ hx)
      have hb := hm b List.mem_cons_self
      simp [Int.mul_add]
      omega
  have lo := hsum l (a - 1) fun b hb => by have := h a ha b hb; omega
  have hi := hsum2 l (a + 1) fun b hb => by have := h b hb a ha; omega
  rw [hn] at lo hi
  have q1 : a - 1 ≤ tot id l / n := (Int.le_ediv_iff_mul_le (by omega)).mpr lo
  have q2 : tot id l / n ≤ a + 1 := by
    have := Int.ediv_le_ediv (show 0 < n by omega) hi
    rwa [Int.mul_ediv_cancel _ (by omega)] at this
  by_cases e : tot id l / n = a + 1
  · -- then all are a + 1, but a is among them
    exfalso
    have e2 : (a + 1) * n ≤ tot id l := by rw [← e]; exact Int.ediv_mul_le _ (by omega)
    have strict : ∀ (m : List Int) (c : Int), (∀ b ∈ m, b ≤ c) → a ∈ m → a < c → tot id m < c * m.length := by
      intro m c
      induction m with
      | nil => intro _ hm; cases hm
      | cons b m ih =>
        intro hm hmem hlt
        have hb := hm b List.mem_cons_self
        have hh := hsum2 m c fun x hx => hm x (List.mem_cons_of_mem _ hx)
        rcases List.mem_cons.mp hmem with e | hmem
        · subst e; simp [Int.mul_add]; omega
        · have := ih (fun x hx => hm x (List.mem_cons_of_mem _ hx)) hmem hlt
          simp [Int.mul_add]; omega
    have := strict l (a + 1) (fun b hb => by have := h b hb a ha; omega) ha (by omega)
    rw [hn] at this
    omega
  · omega
end L2.Fn
set_option maxRecDepth 100000
set_option maxHeartbeats 4000000
/-! LibQ1: cover, halves, the widest place. -/
namespace L2.Fn
open PySem PySem.Spec PyProof.Rows L2
theorem c_coverS {K : Str} {size : Int} {rs : List (Int × Int)} {gone l : List Int} {dp : D} {C : CR → Prop} (hK : K ∈ KS) (hs : 1 ≤ size) (hs2 : size ≤ 30) (hin : InRow size rs) (hn : rs.length ≤ 1000) (hp : Parts dp l) (hnd : l.Nodup) (hl : In rs.length l) :
    cal f_cover [.val (.obj K (mkt K size rs gone)), .val dp] C ↔ C (.ret (.val (tp (covs size rs (sortI l)))) [.val (.obj K (mkt K size rs gone)), .val dp]) := by
  refine cal_of (of_cal ?_)
  unfold f_cover
  rw [cal_def]
  have hset := fun C => c_set_of (C := C) (many := rs.length) hp hnd hl (Nat.le_trans (range_len hnd hl) (by omega)) (by omega)
  have hc := fun C => c_cover (C := C) (gone := gone) hK hs hs2 hin (l := sortI l) fun p h => hl p ((sortI_perm l).subset h)
  simp [m_cover, gFld_runs hK, show gLen (.tup (Rs rs)) = some rs.length by simp [gLen], hset, hc]
theorem covs_sort {size : Int} {rs : List (Int × Int)} {l : List Int} : covs size rs (sortI l) = covs size rs l := by
  unfold covs
  exact List.map_congr_left fun x _ => cvS_perm (sortI_perm l) x
theorem sort_asc {l : List Int} (h : Asc l) : sortI l = l := sortI_of (h.imp fun h => by omega)
/-- what halves makes of a set -/
theorem c_halvesS {K : Str} {size : Int} {rs : List (Int × Int)} {gone l : List Int} (hK : K ∈ KS) (hs2 : size ≤ 30) (hin : InRow size rs) (hn : rs.length ≤ 31) (hl : In rs.length l) (ha : Asc l) :
    ∃ A B : List Int, (Asc A ∧ Asc B) ∧ (In rs.length A ∧ In rs.length B) ∧ (∀ p, bi (decide (p ∈ A)) + bi (decide (p ∈ B)) = bi (decide (p ∈ l))) ∧ (∀ x, cvS rs A x + cvS rs B x = cvS rs l x) ∧ (∀ x, -1 ≤ cvS rs A x - cvS rs B x ∧ cvS rs A x - cvS rs B x ≤ 1) ∧
      ∀ C : CR → Prop, cal f__halves [.val (.obj K (mkt K size rs gone)), .val (tp l)] C ↔ C (.ret (.val (.tup [tp A, tp B])) [.val (.obj K (mkt K size rs gone)), .val (tp l)]) := by
  obtain ⟨s, h1, h2⟩ := c_halves (size := size) (gone := gone) hK hs2 hin (by omega) hl (Nat.le_trans (range_len ha.nd hl) hn) ha.nd
  have sub : ∀ (f : Int → Bool), Asc (l.filter f) := fun f => List.Pairwise.sublist List.filter_sublist ha
  refine ⟨_, _, ⟨sub _, sub _⟩, ⟨fun p hp => hl p (List.mem_filter.mp hp).1, fun p hp => hl p (List.mem_filter.mp hp).1⟩, fun p => ?_, fun x => ?_, h1, h2⟩
  · by_cases a : p ∈ l <;> by_cases b : s p = some 0 <;> simp [bi, a, b]
  · rw [← cvS_app]
    refine cvS_perm ?_ x
    exact List.filter_append_perm _ l
/-! ### a comprehension over a name's list -/
theorem ev_lcN {γ : Type} {f : γ → D} {j : Nat} {g : MG} {tt : ME Bool} {te : ME D} {vs : List Nat} {ρ : Slots} {Q : Ex S → Prop} (xs : List γ) (hx : xs.length ≤ 10000) (I : List γ → List D → Slots → Prop) (h0 : I [] [] ρ) (hj : ∀ done acc ρ, I done acc ρ → ρ[j]? = some (.lst (xs.map f)))
    (hs : ∀ done x rest acc ρ, xs = done ++ x :: rest → I done acc ρ → gev g (.val (f x)) (wipeE ρ vs) fun ρ1 => ev tt ρ1 (okx (fun b ρ2 => if b = true then ev te ρ2 (okx (fun y ρ3 => I (done ++ [x]) (acc ++ [y]) (wipeE ρ3 vs)) fun _ _ _ => False) else I (done ++ [x]) acc (wipeE ρ2 vs)) fun _ _ _ => False))
    (he : ∀ acc ρ, I xs acc ρ → Q (.ok (.lst acc) ρ)) : ev (mLcN j g tt te vs) ρ Q := by
  have key : ∀ rest done acc ρ, xs = done ++ rest → I done acc ρ → ∃ acc' ρ', lcNL j g tt te vs (rest.length + 1) done.length acc ρ = some (acc', ρ') ∧ I xs acc' ρ' := by
    intro rest
    induction rest with
    | nil =>
      intro done acc ρ e i
      have hk : (xs.map f)[done.length]? = none := List.getElem?_eq_none (by rw [e]; simp)
      rw [List.append_nil] at e
      subst e
      refine ⟨acc, ρ, ?_, i⟩
      unfold lcNL
      rw [hj _ _ _ i]
      dsimp only
      rw [if_pos (by rw [List.length_map]; exact le_size (by omega)), hk]
    | cons x rest ih =>
      intro done acc ρ e i
      obtain ⟨ρ1, h1, r, h2, h3⟩ := hs done x rest acc ρ e i
      have hk : (xs.map f)[done.length]? = some (f x) := by rw [e]; simp
      have hl := ih (done ++ [x])
      have el : (x :: rest).length + 1 = (rest.length + 1) + 1 := by simp
      rw [el]
      conv => enter [1, acc', 1, ρ', 1, 1]; unfold lcNL
      rw [hj _ _ _ i]
      simp only [List.length_map, le_size (show xs.length ≤ 16777216 by omega), if_true, hk, h1, h2]
      cases r with
      | ex C fs ρ' => exact h3.elim
      | ok c ρ2 =>
        cases c with
        | false =>
          have := hl acc _ (by simp [e]) h3
          simpa using this
        | true =>
          obtain ⟨r, h4, h5⟩ := h3
          simp only [h4]
          cases r with
          | ex C fs ρ' => exact h5.elim
          | ok y ρ3 =>
            have := hl (acc ++ [y]) _ (by simp [e]) h5
            simpa using this
  obtain ⟨acc, ρ', h1, h2⟩ := key xs [] [] ρ rfl h0
  refine ⟨_, ?_, he acc ρ' h2⟩
  have hj0 := hj _ _ _ h0
  unfold mLcN
  rw [hj0]
  dsimp only
  unfold mLcLive lenAt
  rw [hj0]
  dsimp only
  rw [List.length_map]
  simp only [List.length_nil] at h1
  rw [h1]
/-! ### the widest place -/
/-- the covers of lots, as data -/
def cvD (size : Int) (rs : List (Int × Int)) (l : List Int) : D := tp (covs size rs l)
def Far (size : Int) (rs : List (Int × Int)) (res : List (List Int)) (fd : D) : Prop :=
  (fd = .non ∧ ∀ x : Nat, x < size.toNat → ∀ a ∈ res, ∀ b ∈ res, cvS rs a x - cvS rs b x ≤ 1) ∨
  ∃ (h w : Nat) (a b : List Int) (x : Nat), fd = .tup [.int h, .int w] ∧ h ≠ w ∧ res[h]? = some a ∧ res[w]? = some b ∧ x < size.toNat ∧ 2 ≤ cvS rs a x - cvS rs b x
theorem topI_mem {ns : List Int} (h : ns ≠ []) : topI ns ∈ ns ∧ ∀ y ∈ ns, y ≤ topI ns := by
  have ex : ∀ ms : List Int, ms ≠ [] → ∃ m ∈ ms, ∀ y ∈ ms, y ≤ m := by
    intro ms
    induction ms with
    | nil => intro h; exact absurd rfl h
    | cons a ms ih =>
      intro _
      by_cases e : ms = []
      · subst e; exact ⟨a, by simp, by simp⟩
      · obtain ⟨m, h1, h2⟩ := ih e
        by_cases q : a ≤ m
        · exact ⟨m, List.mem_cons_of_mem _ h1, fun y hy => (List.mem_cons.mp hy).elim (fun z => z ▸ q) (h2 y)⟩
        · exact ⟨a, List.mem_cons_self, fun y hy => (List.mem_cons.mp hy).elim (fun z => by omega) fun z => by have := h2 y z; omega⟩
  obtain ⟨m, h1, h2⟩ := ex ns h
  rw [topI_eq h1 h2]
  exact ⟨h1, h2⟩
theorem lowI_mem {ns : List Int} (h : ns ≠ []) : lowI ns ∈ ns ∧ ∀ y ∈ ns, lowI ns ≤ y := by
  have ex : ∀ ms : List Int, ms ≠ [] → ∃ m ∈ ms, ∀ y ∈ ms, m ≤ y := by
    intro ms
    induction ms with
    | nil => intro h; exact absurd rfl h
    | cons a ms ih =>
      intro _
      by_cases e : ms = []
      · subst e; exact ⟨a, by simp, by simp⟩
      · obtain ⟨m, h1, h2⟩ := ih e
        by_cases q : m ≤ a
        · exact ⟨m, List.mem_cons_of_mem _ h1, fun y hy => (List.mem_cons.mp hy).elim (fun z => z ▸ q) (h2 y)⟩
        · exact ⟨a, List.mem_cons_self, fun y hy => (List.mem_cons.mp hy).elim (fun z => by omega) fun z => by have := h2 y z; omega⟩
  obtain ⟨m, h1, h2⟩ := ex ns h
  rw [lowI_eq h1 h2]
  exact ⟨h1, h2⟩
theorem gMax_Js {ns : List Int} (h : ns ≠ []) : gMaxL (.lst (Js ns)) = some (.val (.int (topI ns))) := by
  show (intsD (Js ns)).bind _ = _
  rw [intsD_Js, Option.bind_some, if_pos (List.length_pos_iff.mpr h)]
theorem gMin_Js {ns : List Int} (h : ns ≠ []) : gMinL (.lst (Js ns)) = some (.val (.int (lowI ns))) := by
  show (intsD (Js ns)).bind _ = _
  rw [intsD_Js, Option.bind_some, if_pos (List.length_pos_iff.mpr h)]
theorem gIndex_Js {ns : List Int} {v : Int} (h : v ∈ ns) : ∃ j : Nat, gIndex (.lst (Js ns)) (.int v) = some (.int j) ∧ ns[j]? = some v := by
  have e : gIndex (.lst (Js ns)) (.int v) = (flatsD (Js ns)).bind fun ys => (ys.findIdx? fun z => eqV z (.int v)).map fun j => D.int j := rfl
  rw [e, flatsD_Js, Option.bind_some]
  cases q : (ns.map V.int).findIdx? fun z => eqV z (.int v) with
  | none =>
    have := List.findIdx?_eq_none_iff.mp q (.int v) (List.mem_map_of_mem h)
    simp [eqV] at this
  | some j =>
    obtain ⟨hj, h1, _⟩ := List.findIdx?_eq_some_iff_getElem.mp q
    refine ⟨j, rfl, ?_⟩
    have hj' : j < ns.length := by simpa using hj
    rw [List.getElem_map] at h1
    have : ns[j] = v := by simpa [eqV] using h1
    rw [List.getElem?_eq_getElem hj', this]
@[simp] theorem ev_index {mo me : ME D} {ρ : Slots} {QD : Ex D → Prop} : ev (mIndex mo me) ρ QD ↔ ev mo ρ (okx (fun x ρ1 => match x with
    | .lst xs => ev me ρ1 (okx (fun y ρ2 => opx (gIndex (.lst xs) y) fun d => QD (.ok d ρ2)) fun C fs ρ' => QD (.ex C fs ρ'))
    | _ => False) fun C fs ρ' => QD (.ex C fs ρ')) := by
  unfold mIndex
  rw [ev_bnd]
  refine ev_congr fun x ρ' => ?_
  cases x <;> simp
end L2.Fn
set_option maxRecDepth 100000
set_option maxHeartbeats 4000000
/-! LibQ2: _far. -/
namespace L2.Fn
open PySem PySem.Spec PyProof.Rows L2
theorem gIx_cvD {size : Int} {rs : List (Int × Int)} {l : List Int} {k : Nat} (h : k < size.toNat) : gIx (cvD size rs l) (.int (k : Int)) = some (.int (cvS rs l k)) := gIx_covs (size := size) h
theorem run_if_ev {c : ME Bool} {s t : MS} {ρ ρ' : Slots} {R : Out → Prop} {b : Bool} (h : ev c ρ fun x => x = .ok b ρ') (h2 : if b = true then run s ρ' R else run t ρ' R) : run (sIf c s t) ρ R := by
  obtain ⟨x, h1, rfl⟩ := h
  rw [run_if]
  exact ⟨_, h1, h2⟩
section
variable {col : List Int} {s0 s1 s3 s4 s6 : S} {w T B : Int} {h k : Nat}
theorem far_c (gM : gMaxL (.lst (Js col)) = some (.val (.int T))) (gm : gMinL (.lst (Js col)) = some (.val (.int B))) : ev (mTest (mOp gGt (mCold (mOp gSub (mCold (mB1 gMaxL (mVar 5))) (mCold (mB1 gMinL (mVar 5))))) (mVar 2))) [s0, s1, .val (.int w), s3, s4, .lst (Js col), s6] fun x => x = .ok (decide (w < T - B)) [s0, s1, .val (.int w), s3, s4, .val (.lst (Js col)), s6] := by
  simp [gM, gm]
theorem far_1 (gM : gMaxL (.lst (Js col)) = some (.val (.int T))) (gm : gMinL (.lst (Js col)) = some (.val (.int B))) : run (sAsg (mOp gSub (mCold (mB1 gMaxL (mVar 5))) (mCold (mB1 gMinL (mVar 5)))) (gSetM 2)) [s0, s1, .val (.int w), s3, s4, .val (.lst (Js col)), s6] fun o => ∃ ρ, o = .nx ρ ∧ ρ = [s0, s1, .val (.int (T - B)), s3, s4, .val (.lst (Js col)), s6] := by
  simp [gM, gm]
theorem far_2 (gM : gMaxL (.lst (Js col)) = some (.val (.int T))) (gm : gMinL (.lst (Js col)) = some (.val (.int B))) (ih : gIndex (.lst (Js col)) (.int T) = some (.int h)) (ik : gIndex (.lst (Js col)) (.int B) = some (.int k)) : run (sAsg (mWarm (mTup (mCons (mIndex (mVar 5) (mCold (mB1 gMaxL (mVar 5)))) (mCons (mIndex (mVar 5) (mCold (mB1 gMinL (mVar 5)))) mNil)))) (gSetM 3)) [s0, s1, .val (.int w), s3, s4, .val (.lst (Js col)), s6] fun o => o = .nx [s0, s1, .val (.int w), .val (.tup [.int h, .int k]), s4, .val (.lst (Js col)), s6] := by
  simp only [run_asg, ev_warm, ev_tup, ev_consL, ev_nilL, ev_index, ev_var, List.getElem?_cons_succ, List.getElem?_cons_zero, okx_ok, ev_cold, ev_b1, gM, gm, ih, ik, opx_some, cold_val, gev_set]
  simp
end
theorem c_far {size : Int} {rs : List (Int × Int)} {res : List (List Int)} (hs : 1 ≤ size) (hs2 : size ≤ 30) (hne : res ≠ []) (hlen : res.length ≤ 1000) :
    ∃ fd, Far size rs res fd ∧ ∀ C : CR → Prop, cal f__far [.lst (res.map (cvD size rs)), .val (.int size)] C ↔ C (.ret (.val fd) [.lst (res.map (cvD size rs)), .val (.int size)]) := by
  have main : cal f__far [.lst (res.map (cvD size rs)), .val (.int size)] fun c => ∃ fd, Far size rs res fd ∧ c = .ret (.val fd) [.lst (res.map (cvD size rs)), .val (.int size)] := by
    unfold f__far
    rw [cal_def]
    simp only [m__far]
    refine run_seq_of (P := fun ρ => ρ = [.lst (res.map (cvD size rs)), .val (.int size), .val (.int 1), .no, .no, .no, .no]) (by simp) ?_
    rintro ρ rfl
    refine run_seq_of (P := fun ρ => ρ = [.lst (res.map (cvD size rs)), .val (.int size), .val (.int 1), .val .non, .no, .no, .no]) (by simp) ?_
    rintro ρ rfl
    refine run_seq_of (P := fun ρ => ∃ w fd s4 s5 s6, ρ = [.lst (res.map (cvD size rs)), .val (.int size), .val (.int w), .val fd, s4, s5, s6] ∧ Far size rs res fd) ?_ ?_
    · simp only [run_for]
      simp
      refine ⟨rg_of (by omega) (by omega), ?_⟩
      show run (sLoop _ _ ((List.range size.toNat).map fun i => D.int (0 + (i : Nat)))) _ _
      refine run_loop _ (fun done ρ => ∃ w fd s4 s5 s6, ρ = [.lst (res.map (cvD size rs)), .val (.int size), .val (.int w), .val fd, s4, s5, s6] ∧ 1 ≤ w ∧ (fd = .non → w = 1) ∧ (∀ x ∈ done, ∀ a ∈ res, ∀ b ∈ res, cvS rs a x - cvS rs b x ≤ w) ∧
          (fd ≠ .non → ∃ (h w : Nat) (a b : List Int) (x : Nat), fd = .tup [.int h, .int w] ∧ h ≠ w ∧ res[h]? = some a ∧ res[w]? = some b ∧ x < size.toNat ∧ 2 ≤ cvS rs a x - cvS rs b x)) ⟨1, .non, _, _, _, rfl, by omega, fun _ => rfl, fun x hx => (by cases hx), fun h => absurd rfl h⟩ ?_ ?_
      · rintro done x rest ρ e ⟨w, fd, s4, s5, s6, rfl, a1, a2, a3, a4⟩
        have hx := (at_range e).2
        obtain ⟨col, hcol⟩ : ∃ col : List Int, col = res.map fun l => cvS rs l x := ⟨_, rfl⟩
        have hcne : col ≠ [] := by rw [hcol]; simpa using hne
        simp only [gev_set]
        refine ⟨by simp, ?_⟩
        refine run_seq_of (P := fun ρ => ∃ s6, ρ = [.lst (res.map (cvD size rs)), .val (.int size), .val (.int w), .val fd, .val (.int x), .lst (Js col), s6]) ?_ ?_
        · simp only [run_asg]
          refine ev_lcN (f := cvD size rs) res (by omega) (fun done acc ρ => acc = Js (done.map fun l => cvS rs l x) ∧ ∃ s6, ρ = [.lst (res.map (cvD size rs)), .val (.int size), .val (.int w), .val fd, .val (.int (0 + (x : Nat))), s5, s6]) ⟨rfl, s6, rfl⟩ ?_ ?_ ?_
          · rintro done acc ρ ⟨_, s6, rfl⟩
            rfl
          · rintro done l rest acc ρ e ⟨rfl, s6, rfl⟩
            simp [wipeE, mYes, gIx_cvD hx]
          · rintro acc ρ ⟨rfl, s6, rfl⟩
            simp [hcol]
        rintro ρ ⟨s6, rfl⟩
        obtain ⟨t1, t2⟩ := topI_mem hcne
        obtain ⟨l1, l2⟩ := lowI_mem hcne
        have bound : ∀ a ∈ res, ∀ b ∈ res, cvS rs a x - cvS rs b x ≤ topI col - lowI col := fun a ha b hb => by
          have h1 := t2 (cvS rs a x) (by rw [hcol]; exact List.mem_map_of_mem ha)
          have h2 := l2 (cvS rs b x) (by rw [hcol]; exact List.mem_map_of_mem hb)
          omega
        obtain ⟨h, ih, gh⟩ := gIndex_Js t1
        obtain ⟨k, ik, gk⟩ := gIndex_Js l1
        have gM := gMax_Js hcne
        have gm := gMin_Js hcne
        refine run_if_ev (far_c gM gm) ?_
        by_cases hw : w < topI col - lowI col
        · rw [if_pos (decide_eq_true hw)]
          refine run_seq_of (P := fun ρ => ρ = [.lst (res.map (cvD size rs)), .val (.int size), .val (.int (topI col - lowI col)), .val fd, .val (.int x), .val (.lst (Js col)), s6]) (far_1 gM gm) ?_
          rintro ρ rfl
          refine run_mono (far_2 gM gm ih ik) ?_
          rintro o rfl
          have gh' := gh
          have gk' := gk
          rw [hcol, List.getElem?_map] at gh' gk'
          cases ea : res[h]? with
          | none => rw [ea] at gh'; cases gh'
          | some a =>
            cases eb : res[k]? with
            | none => rw [eb] at gk'; cases gk'
            | some b =>
              rw [ea, Option.map_some, ← hcol] at gh'
              rw [eb, Option.map_some, ← hcol] at gk'
              injection gh' with gh'
              injection gk' with gk'
              refine ⟨_, _, _, _, _, rfl, by omega, fun z => (by cases z), fun y hy u hu v hv => ?_, fun _ => ⟨h, k, a, b, x, rfl, fun z => ?_, ea, eb, hx, by omega⟩⟩
              · rcases List.mem_append.mp hy with hy | hy
                · have := a3 y hy u hu v hv; omega
                · simp at hy; subst hy; exact bound u hu v hv
              · subst z
                rw [ea] at eb
                cases eb
                omega
        · rw [if_neg (by simpa using hw)]
          rw [run_nil]
          refine ⟨_, _, _, _, _, rfl, a1, a2, fun y hy u hu v hv => ?_, a4⟩
          rcases List.mem_append.mp hy with hy | hy
          · exact a3 y hy u hu v hv
          · simp at hy; subst hy
            have := bound u hu v hv
            omega
      · rintro ρ ⟨w, fd, s4, s5, s6, rfl, a1, a2, a3, a4⟩
        refine ⟨_, rfl, w, fd, ⟨_, _, _, rfl⟩, ?_⟩
        by_cases hf : fd = .non
        · refine .inl ⟨hf, fun x hx a ha b hb => ?_⟩
          have := a3 x (List.mem_range.mpr hx) a ha b hb
          rw [a2 hf] at this
          exact this
        · exact .inr (a4 hf)
    rintro ρ ⟨w, fd, s4, s5, s6, rfl, hf⟩
    simp
    exact hf
  obtain ⟨r, h1, fd, h2, rfl⟩ := main
  exact ⟨fd, h2, fun C => cal_of h1⟩
end L2.Fn
set_option maxRecDepth 100000
set_option maxHeartbeats 4000000
/-! LibQ3: the lots' loop. -/
namespace L2.Fn
open PySem PySem.Spec PyProof.Rows L2
theorem gev_stN {i k : Nat} {mi : ME D} {ρ : Slots} {xs : List D} {d : D} {q : Slots → Prop} (h0 : ρ[i]? = some (.lst xs)) (h1 : mi ρ = some (.ok (.int k) ρ)) (hk : k < xs.length) (h : q (ρ.set i (.lst (xs.set k d)))) : gev (gStN i mi) (.val d) ρ q := by
  refine ⟨_, ?_, h⟩
  unfold gStN
  rw [h0]
  dsimp only
  rw [h1]
  dsimp only
  rw [h0]
  dsimp only
  rw [ixN_nat hk, Option.map_some]
structure LInv (rs : List (Int × Int)) (n : Nat) (S : List Int) (res : List (List Int)) : Prop where
  len : res.length = n
  asc : ∀ l ∈ res, Asc l
  inn : ∀ l ∈ res, In rs.length l
  cnt : ∀ p, tot (fun l => bi (decide (p ∈ l))) res = bi (decide (p ∈ S))
  cov : ∀ x, tot (fun l => cvS rs l x) res = cvS rs S x
def Pot (size : Int) (rs : List (Int × Int)) (res : List (List Int)) : Int := tot (fun x : Nat => tot (fun l => cvS rs l x * cvS rs l x) res) (List.range size.toNat)
theorem bi_nn (b : Bool) : 0 ≤ bi b := by cases b <;> simp [bi]
theorem bi_le (b : Bool) : bi b ≤ 1 := by cases b <;> simp [bi]
theorem pot_nn {size : Int} {rs : List (Int × Int)} {res : List (List Int)} : 0 ≤ Pot size rs res := tot_nn fun x _ => tot_nn fun l _ => sq_nn _
/-- two lots made even -/
theorem linv_step {size : Int} {rs : List (Int × Int)} {n : Nat} {S : List Int} {res : List (List Int)} {h w : Nat} {a b A B : List Int} (I : LInv rs n S res) (hw : h ≠ w) (ha : res[h]? = some a) (hb : res[w]? = some b)
    (aA : Asc A) (aB : Asc B) (iA : In rs.length A) (iB : In rs.length B) (hc : ∀ p, bi (decide (p ∈ A)) + bi (decide (p ∈ B)) = bi (decide (p ∈ un a b))) (hx : ∀ x, cvS rs A x + cvS rs B x = cvS rs (un a b) x) :
    LInv rs n S ((res.set h A).set w B) ∧ (∀ x, cvS rs A x + cvS rs B x = cvS rs a x + cvS rs b x) := by
  have dis : ∀ p, p ∈ a → p ∉ b := fun p h1 h2 => by
    have := tot_ge2 (f := fun l => bi (decide (p ∈ l))) (l := res) (fun _ _ => bi_nn _) hw ha hb
    rw [I.cnt p] at this
    have h3 := bi_le (decide (p ∈ S))
    simp [bi, h1, h2] at this h3
    omega
  have na := (I.asc a (List.mem_of_getElem? ha)).nd
  have nb' := (I.asc b (List.mem_of_getElem? hb)).nd
  have pu : (un a b).Perm (a ++ b) := by
    have : nb a b = b := by
      unfold nb
      exact List.filter_eq_self.mpr fun p hp => by
        have := fun z => dis p z hp
        simpa using this
    unfold un
    rw [this]
    exact sortI_perm _
  have ex : ∀ x, cvS rs A x + cvS rs B x = cvS rs a x + cvS rs b x := fun x => by
    rw [hx x, cvS_perm pu, cvS_app]
  have ec : ∀ p, bi (decide (p ∈ A)) + bi (decide (p ∈ B)) = bi (decide (p ∈ a)) + bi (decide (p ∈ b)) := fun p => by
    rw [hc p]
    have : decide (p ∈ un a b) = (decide (p ∈ a) || decide (p ∈ b)) := by
      by_cases u : p ∈ a <;> by_cases v : p ∈ b <;> simp [mem_un, u, v]
    rw [this]
    by_cases u : p ∈ a
    · simp [bi, u, dis p u]
    · by_cases v : p ∈ b <;> simp [bi, u, v]
  have mem : ∀ l, l ∈ (res.set h A).set w B → l ∈ res ∨ l = A ∨ l = B := fun l hl => by
    rcases List.mem_or_eq_of_mem_set hl with hl | hl
    · rcases List.mem_or_eq_of_mem_set hl with hl | hl
      · exact .inl hl
      · exact .inr (.inl hl)
    · exact .inr (.inr hl)
  refine ⟨⟨by simpa using I.len, fun l hl => ?_, fun l hl => ?_, fun p => ?_, fun x => ?_⟩, ex⟩
  · rcases mem l hl with q | rfl | rfl
    · exact I.asc l q
    · exact aA
    · exact aB
  · rcases mem l hl with q | rfl | rfl
    · exact I.inn l q
    · exact iA
    · exact iB
  · rw [tot_set2 _ _ _ _ _ _ _ _ hw ha hb, I.cnt p]
    have := ec p
    omega
  · rw [tot_set2 _ _ _ _ _ _ _ _ hw ha hb, I.cov x]
    have := ex x
    omega
theorem pot_lt {size : Int} {rs : List (Int × Int)} {res : List (List Int)} {h w : Nat} {a b A B : List Int} {x0 : Nat} (hw : h ≠ w) (ha : res[h]? = some a) (hb : res[w]? = some b) (ex : ∀ x, cvS rs A x + cvS rs B x = cvS rs a x + cvS rs b x) (hn : ∀ x, -1 ≤ cvS rs A x - cvS rs B x ∧ cvS rs A x - cvS rs B x ≤ 1)
    (hx : x0 < size.toNat) (h2 : 2 ≤ cvS rs a x0 - cvS rs b x0) : Pot size rs ((res.set h A).set w B) < Pot size rs res := by
  have one : ∀ x : Nat, tot (fun l => cvS rs l x * cvS rs l x) ((res.set h A).set w B) ≤ tot (fun l => cvS rs l x * cvS rs l x) res := fun x => by
    rw [tot_set2 _ _ _ _ _ _ _ _ hw ha hb]
    have := sq_le (ex x) (hn x).1 (hn x).2
    omega
  refine tot_lt (a := x0) (fun x _ => one x) (List.mem_range.mpr hx) ?_
  rw [tot_set2 _ _ _ _ _ _ _ _ hw ha hb]
  have := sq_lt (ex x0) (hn x0).1 (hn x0).2 h2
  omega
def lBody : MS := (sSeq (sAsg (mWarm (mVar 8)) (gTupM 2 (gConsM (gSetM 9) (gConsM (gSetM 10) gNilM))))
  (sSeq (sAsg (mCall f__halves [] (aCons (mVar 0) (aCons (mCold (mCall f_both [] (aCons (mIxN 4 (mVar 9)) (aCons (mIxN 4 (mVar 10)) aNil)))) aNil))) (gTupM 2 (gConsM (gSetM 11) (gConsM (gSetM 12) gNilM))))
  (sSeq (sAsg (mWarm (mTup (mCons (mVar 11) (mCons (mVar 12) mNil)))) (gTupM 2 (gConsM (gStN 4 (mVar 9)) (gConsM (gStN 4 (mVar 10)) gNilM))))
  (sSeq (sAsg (mCall f_cover [] (aCons (mVar 0) (aCons (mVar 11) aNil))) (gStN 6 (mVar 9)))
  (sSeq (sAsg (mCall f_cover [] (aCons (mVar 0) (aCons (mVar 12) aNil))) (gStN 6 (mVar 10)))
  (sAsg (mCall f__far [] (mIo 6 (aCons (mFldN KS "size" 0) aNil))) (gSetM 8)))))))
theorem map_set2 {α β : Type} (f : α → β) (l : List α) (i j : Nat) (u v : α) : ((l.map f).set i (f u)).set j (f v) = ((l.set i u).set j v).map f := by
  rw [List.map_set, List.map_set]
theorem lots_while {K : Str} {size : Int} {rs : List (Int × Int)} {gone Z : List Int} {n : Nat} (hK : K ∈ KS) (hs : 1 ≤ size) (hs2 : size ≤ 30) (hin : InRow size rs) (hn : rs.length ≤ 31) (h1 : 1 ≤ n) (h50 : n ≤ 50) :
    ∀ (k : Nat) (res : List (List Int)) (fd : D), LInv rs n Z res → Far size rs res fd → (Pot size rs res).toNat < k →
      ∃ res', LInv rs n Z res' ∧ (∀ x : Nat, x < size.toNat → ∀ a ∈ res', ∀ b ∈ res', cvS rs a x - cvS rs b x ≤ 1) ∧
        ∀ s1 s2 s3 s5 s7 s9 s10 s11 s12 : S, run (sWhile (mTest (mOp gNotN (mVar 8) (ret .non))) lBody k) [.val (.obj K (mkt K size rs gone)), s1, s2, s3, .lst (res.map tp), s5, .lst (res.map (cvD size rs)), s7, .val fd, s9, s10, s11, s12] fun o => ∃ s5 s6 s7 s8 s9 s10 s11 s12, o = .nx [.val (.obj K (mkt K size rs gone)), s1, s2, s3, .lst (res'.map tp), s5, s6, s7, s8, s9, s10, s11, s12]
  | 0, _, _, _, _, hk => by omega
  | k + 1, res, fd, I, hf, hk => by
    rcases hf with ⟨rfl, hf⟩ | ⟨h, w, a, b, x0, rfl, hw, ha, hb, hx0, h2⟩
    · refine ⟨res, I, hf, fun s1 s2 s3 s5 s7 s9 s10 s11 s12 => while_exit rfl ⟨_, _, _, _, _, _, _, _, rfl⟩⟩
    · have am := List.mem_of_getElem? ha
      have bm := List.mem_of_getElem? hb
      have au : Asc (un a b) := by
        have h2 := un_nd (I.asc a am).nd (I.asc b bm).nd
        have h1 := sortI_sorted (a ++ nb a b)
        exact (List.Pairwise.and h1 h2).imp fun ⟨a, b⟩ => by omega
      have iu : In rs.length (un a b) := fun p hp => by
        rcases mem_un.mp hp with hp | hp
        · exact I.inn a am p hp
        · exact I.inn b bm p hp
      obtain ⟨A, B, ⟨aA, aB⟩, ⟨iA, iB⟩, hc, hx, hnr, cal_h⟩ := c_halvesS (size := size) (gone := gone) hK hs2 hin hn iu au
      obtain ⟨I', ex⟩ := linv_step (size := size) I hw ha hb aA aB iA iB hc hx
      have hlt := pot_lt (size := size) hw ha hb ex hnr hx0 h2
      have hne : (res.set h A).set w B ≠ [] := fun e => by have := I'.len; rw [e] at this; simp at this; omega
      obtain ⟨fd', hf', cal_f⟩ := c_far (size := size) (rs := rs) (res := (res.set h A).set w B) hs hs2 hne (by rw [I'.len]; omega)
      have hp0 := pot_nn (size := size) (rs := rs) (res := (res.set h A).set w B)
      obtain ⟨res', J1, J2, J3⟩ := lots_while hK hs hs2 hin hn h1 h50 k ((res.set h A).set w B) fd' I' hf' (by omega)
      refine ⟨res', J1, J2, fun s1 s2 s3 s5 s7 s9 s10 s11 s12 => ?_⟩
      have hl : h < res.length := (List.getElem?_eq_some_iff.mp ha).1
      have wl : w < res.length := (List.getElem?_eq_some_iff.mp hb).1
      have la := range_len (I.asc a am).nd (I.inn a am)
      have lb := range_len (I.asc b bm).nd (I.inn b bm)
      have gh : gIx (.lst (res.map tp)) (.int (h : Int)) = some (tp a) := atI_nat (by rw [List.getElem?_map, ha]; rfl)
      have gw : gIx (.lst (res.map tp)) (.int (w : Int)) = some (tp b) := atI_nat (by rw [List.getElem?_map, hb]; rfl)
      have cb := fun C => c_both (a := a) (b := b) (C := C) (I.asc a am).nd (I.asc b bm).nd (by omega) (by omega)
      have cA := fun C => c_coverS (C := C) (gone := gone) hK hs hs2 hin (by omega) (dp := tp A) (l := A) (.inr rfl) aA.nd iA
      have cB := fun C => c_coverS (C := C) (gone := gone) hK hs hs2 hin (by omega) (dp := tp B) (l := B) (.inr rfl) aB.nd iB
      rw [covs_sort] at cA cB
      have body : ∀ {R : Out → Prop}, R (.nx [.val (.obj K (mkt K size rs gone)), s1, s2, s3, .lst (((res.set h A).set w B).map tp), s5, .lst (((res.set h A).set w B).map (cvD size rs)), s7, .val fd', .val (.int h), .val (.int w), .val (tp A), .val (tp B)]) → run lBody [.val (.obj K (mkt K size rs gone)), s1, s2, s3, .lst (res.map tp), s5, .lst (res.map (cvD size rs)), s7, .val (.tup [.int h, .int w]), s9, s10, s11, s12] R := by
        intro R hR
        unfold lBody
        refine run_seq_of (P := fun ρ => ρ = [.val (.obj K (mkt K size rs gone)), s1, s2, s3, .lst (res.map tp), s5, .lst (res.map (cvD size rs)), s7, .val (.tup [.int h, .int w]), .val (.int h), .val (.int w), s11, s12]) (by simp) ?_
        rintro ρ rfl
        refine run_seq_of (P := fun ρ => ρ = [.val (.obj K (mkt K size rs gone)), s1, s2, s3, .lst (res.map tp), s5, .lst (res.map (cvD size rs)), s7, .val (.tup [.int h, .int w]), .val (.int h), .val (.int w), .val (tp A), .val (tp B)]) ?_ ?_
        · simp [gh, gw, cb, cal_h]
        rintro ρ rfl
        refine run_seq_of (P := fun ρ => ρ = [.val (.obj K (mkt K size rs gone)), s1, s2, s3, .lst (((res.set h A).set w B).map tp), s5, .lst (res.map (cvD size rs)), s7, .val (.tup [.int h, .int w]), .val (.int h), .val (.int w), .val (tp A), .val (tp B)]) ?_ ?_
        · simp only [run_asg, ev_warm, ev_tup, ev_consL, ev_nilL, ev_var, List.getElem?_cons_succ, List.getElem?_cons_zero, okx_ok]
          refine ⟨by simp, ?_⟩
          simp only [gev_tup, gevs_cons]
          refine ⟨by simp, ?_⟩
          refine gev_stN rfl rfl (by simpa using hl) ?_
          refine gev_stN rfl rfl (by simpa using wl) ?_
          simp only [gevs_nil, List.set_cons_succ, List.set_cons_zero]
          refine ⟨_, rfl, ?_⟩
          rw [map_set2 tp]
        rintro ρ rfl
        refine run_seq_of (P := fun ρ => ρ = [.val (.obj K (mkt K size rs gone)), s1, s2, s3, .lst (((res.set h A).set w B).map tp), s5, .lst ((res.map (cvD size rs)).set h (cvD size rs A)), s7, .val (.tup [.int h, .int w]), .val (.int h), .val (.int w), .val (tp A), .val (tp B)]) ?_ ?_
        · simp only [run_asg]
          simp [cA]
          refine gev_stN rfl rfl (by simpa using hl) ?_
          rfl
        rintro ρ rfl
        refine run_seq_of (P := fun ρ => ρ = [.val (.obj K (mkt K size rs gone)), s1, s2, s3, .lst (((res.set h A).set w B).map tp), s5, .lst (((res.set h A).set w B).map (cvD size rs)), s7, .val (.tup [.int h, .int w]), .val (.int h), .val (.int w), .val (tp A), .val (tp B)]) ?_ ?_
        · simp only [run_asg]
          simp [cB, -List.map_set]
          refine gev_stN rfl rfl (by simpa using wl) ?_
          simp only [List.set_cons_succ, List.set_cons_zero]
          rw [← map_set2 (cvD size rs)] <;> rfl
        rintro ρ rfl
        simp [gFld_size hK, lk_size, hK, cal_f, -List.map_set]
        exact hR
      obtain ⟨r, e1, e2⟩ := body (R := fun o => ∃ ρ', o = .nx ρ' ∧ run (sWhile (mTest (mOp gNotN (mVar 8) (ret .non))) lBody k) ρ' fun o => ∃ s5 s6 s7 s8 s9 s10 s11 s12, o = .nx [.val (.obj K (mkt K size rs gone)), s1, s2, s3, .lst (res'.map tp), s5, s6, s7, s8, s9, s10, s11, s12]) ⟨_, rfl, J3 _ _ _ _ _ _ _ _ _⟩
      obtain ⟨ρ', rfl, r2, e3, e4⟩ := e2
      refine ⟨r2, ?_, e4⟩
      unfold sWhile ME.thn
      have ec : mTest (mOp gNotN (mVar 8) (ret .non)) [.val (.obj K (mkt K size rs gone)), s1, s2, s3, .lst (res.map tp), s5, .lst (res.map (cvD size rs)), s7, .val (.tup [.int h, .int w]), s9, s10, s11, s12] = some (.ok true [.val (.obj K (mkt K size rs gone)), s1, s2, s3, .lst (res.map tp), s5, .lst (res.map (cvD size rs)), s7, .val (.tup [.int h, .int w]), s9, s10, s11, s12]) := rfl
      rw [ec]
      dsimp only
      rw [if_pos rfl, e1]
      exact e3
end L2.Fn
set_option maxRecDepth 100000
set_option maxHeartbeats 4000000
/-! LibQ4: lots. -/
namespace L2.Fn
open PySem PySem.Spec PyProof.Rows L2
theorem cvS_bd {size : Int} {rs : List (Int × Int)} (hin : InRow size rs) (x : Int) : ∀ {l : List Int}, In rs.length l → 0 ≤ cvS rs l x ∧ cvS rs l x ≤ l.length
  | [], _ => by simp [cvS]
  | p :: l, h => by
    have hp := h p List.mem_cons_self
    have ih := cvS_bd hin x (l := l) fun q hq => h q (List.mem_cons_of_mem _ hq)
    have e : cvS rs (p :: l) x = (bi (decide (rb rs p ≤ x)) - bi (decide (re rs p ≤ x))) + cvS rs l x := by simp [cvS]
    have hn : p.toNat < rs.length := by omega
    have hr := hin rs[p.toNat] (List.getElem_mem hn)
    have eb : rb rs p = rs[p.toNat].1 := by simp [rb, List.getD, hn]
    have ee : re rs p = rs[p.toNat].2 := by simp [re, List.getD, hn]
    rw [e, eb, ee]
    simp only [List.length_cons]
    by_cases a : rs[p.toNat].1 ≤ x <;> by_cases b : rs[p.toNat].2 ≤ x <;> simp [bi, a, b] <;> omega
theorem tot_bd {α : Type} {f : α → Int} {c : Int} : ∀ {l : List α}, (∀ a ∈ l, f a ≤ c) → tot f l ≤ c * l.length
  | [], _ => by simp
  | a :: l, h => by
    have h1 := h a List.mem_cons_self
    have ih := tot_bd (l := l) fun b hb => h b (List.mem_cons_of_mem _ hb)
    simp [Int.mul_add]; omega
theorem tot_rep {α : Type} {f : α → Int} {a : α} (h : f a = 0) : ∀ n, tot f (List.replicate n a) = 0
  | 0 => rfl
  | n + 1 => by rw [List.replicate_succ, tot_cons, tot_rep h n, h]; rfl
/-- the lots to begin with -/
def res0 (n : Nat) (Z : List Int) : List (List Int) := Z :: List.replicate (n - 1) []
theorem linv0 {rs : List (Int × Int)} {n : Nat} {Z : List Int} (h1 : 1 ≤ n) (aZ : Asc Z) (iZ : In rs.length Z) : LInv rs n Z (res0 n Z) where
  len := by simp [res0]; omega
  asc := fun l hl => by
    rcases List.mem_cons.mp hl with rfl | hl
    · exact aZ
    · rw [(List.mem_replicate.mp hl).2]; exact .nil
  inn := fun l hl => by
    rcases List.mem_cons.mp hl with rfl | hl
    · exact iZ
    · rw [(List.mem_replicate.mp hl).2]; exact fun p hp => by cases hp
  cnt := fun p => by
    unfold res0
    rw [tot_cons, tot_rep (by simp [bi])]
    omega
  cov := fun x => by
    unfold res0
    rw [tot_cons, tot_rep (f := fun l => cvS rs l x) (a := []) rfl]
    omega
theorem pot0 {size : Int} {rs : List (Int × Int)} {n : Nat} {Z : List Int} (hs2 : size ≤ 30) (hin : InRow size rs) (iZ : In rs.length Z) (hl : Z.length ≤ 31) : (Pot size rs (res0 n Z)).toNat < 100000 := by
  have h1 : Pot size rs (res0 n Z) ≤ 961 * ((List.range size.toNat).length : Int) := by
    refine tot_bd fun x _ => ?_
    unfold res0
    rw [tot_cons, tot_rep (f := fun l => cvS rs l (x : Int) * cvS rs l (x : Int)) (a := []) rfl]
    have hb := cvS_bd hin (x : Int) iZ
    have h1 : cvS rs Z x * cvS rs Z x ≤ 31 * 31 := Int.mul_le_mul (by omega) (by omega) (by omega) (by omega)
    omega
  simp at h1
  omega
theorem c_lots {K : Str} {size : Int} {rs : List (Int × Int)} {gone l : List Int} {n : Nat} (hK : K ∈ KS) (hs : 1 ≤ size) (hs2 : size ≤ 30) (hin : InRow size rs) (hn : rs.length ≤ 31) (h1 : 1 ≤ n) (h50 : n ≤ 50) (hnd : l.Nodup) (hl : In rs.length l) :
    ∃ res, LInv rs n (sortI l) res ∧ (∀ x : Nat, x < size.toNat → ∀ a ∈ res, ∀ b ∈ res, cvS rs a x - cvS rs b x ≤ 1) ∧
      ∀ dp, Parts dp l → ∀ C : CR → Prop, cal f_lots [.val (.obj K (mkt K size rs gone)), .val dp, .val (.int n)] C ↔ C (.ret (.lst (res.map tp)) [.val (.obj K (mkt K size rs gone)), .val dp, .val (.int n)]) := by
  have aZ := asc_sort hnd
  have iZ : In rs.length (sortI l) := fun p h => hl p (mem_sort.mp h)
  have lZ := range_len aZ.nd iZ
  have I0 := linv0 (n := n) h1 aZ iZ
  have hne : res0 n (sortI l) ≠ [] := by simp [res0]
  obtain ⟨fd, hf, cal_f⟩ := c_far (size := size) (rs := rs) (res := res0 n (sortI l)) hs hs2 hne (by rw [I0.len]; omega)
  have hp := pot0 (n := n) hs2 hin iZ (by omega)
  obtain ⟨res, J1, J2, J3⟩ := lots_while (gone := gone) hK hs hs2 hin hn h1 h50 100000 (res0 n (sortI l)) fd I0 hf hp
  refine ⟨res, J1, J2, fun dp hdp C => cal_of (of_cal ?_)⟩
  unfold f_lots
  rw [cal_def]
  simp only [m_lots]
  have hset := fun C => c_set_of (C := C) (many := rs.length) hdp hnd hl (Nat.le_trans (range_len hnd hl) (by omega)) (by omega)
  have hlen : gLen (.tup (Rs rs)) = some rs.length := by simp [gLen]
  refine run_seq_of (P := fun ρ => ρ = [.val (.obj K (mkt K size rs gone)), .val dp, .val (.int n), .val (tp (sortI l)), .no, .no, .no, .no, .no, .no, .no, .no, .no]) (by simp [gFld_runs hK, hlen, hset]) ?_
  rintro ρ rfl
  refine run_seq_of (P := fun ρ => ρ = [.val (.obj K (mkt K size rs gone)), .val dp, .val (.int n), .val (tp (sortI l)), .no, .no, .no, .no, .no, .no, .no, .no, .no]) (by simp [c_check2 (v := n) (least := 1) (most := 50) (by omega) (by omega)]) ?_
  rintro ρ rfl
  refine run_seq_of (P := fun ρ => ∃ s5, ρ = [.val (.obj K (mkt K size rs gone)), .val dp, .val (.int n), .val (tp (sortI l)), .lst ((res0 n (sortI l)).map tp), s5, .no, .no, .no, .no, .no, .no, .no]) ?_ ?_
  · simp only [run_asg]
    refine ev_lc ?_
    simp
    refine ⟨rg_of (by omega) (by omega), le_size (by simp [rangeD]; omega), ?_⟩
    obtain ⟨acc, ρ'', e1, e2, s5, e3⟩ := ev_lcI (f := fun i : Nat => D.int (0 + (i : Nat))) (g := gSetM 5) (tt := mYes) (te := mCold (mIf (mTest (mOp gEq (mVar 5) (ret (.int 0)))) (mWarm (mVar 3)) (mWarm (mTup mNil)))) (vs := [5]) (ρ := [.val (.obj K (mkt K size rs gone)), .val dp, .val (.int n), .val (tp (sortI l)), .no, .no, .no, .no, .no, .no, .no, .no, .no]) (List.range n) (fun done acc ρ => acc = ((res0 n (sortI l)).take done.length).map tp ∧ ∃ s5, ρ = [.val (.obj K (mkt K size rs gone)), .val dp, .val (.int n), .val (tp (sortI l)), .no, s5, .no, .no, .no, .no, .no, .no, .no]) ⟨by simp, .no, rfl⟩ (by
      rintro done x rest acc ρ e ⟨rfl, s5, rfl⟩
      obtain ⟨hx, hlt⟩ := at_range e
      by_cases h0 : x = 0
      · subst h0
        have hd : done = [] := List.eq_nil_of_length_eq_zero hx.symm
        subst hd
        simp [wipeE, mYes, res0]
      · have hx' : ¬ ((x : Int) = 0) := by omega
        simp [wipeE, mYes, hx']
        rw [if_neg h0]
        try rw [← hx]
        have : (res0 n (sortI l))[x]? = some [] := by
          unfold res0
          obtain ⟨y, rfl⟩ : ∃ y, x = y + 1 := ⟨x - 1, by omega⟩
          rw [List.getElem?_cons_succ, List.getElem?_replicate, if_pos (by omega)]
        rw [List.take_add_one, List.getElem?_map, this]
        simp [tp])
    subst e2 e3
    simp only [List.length_range] at e1
    have et : (res0 n (sortI l)).take n = res0 n (sortI l) := List.take_of_length_le (by rw [I0.len]; omega)
    rw [et] at e1
    exact ⟨_, _, e1, by simp⟩
  rintro ρ ⟨s5, rfl⟩
  refine run_seq_of (P := fun ρ => ∃ s7, ρ = [.val (.obj K (mkt K size rs gone)), .val dp, .val (.int n), .val (tp (sortI l)), .lst ((res0 n (sortI l)).map tp), s5, .lst ((res0 n (sortI l)).map (cvD size rs)), s7, .no, .no, .no, .no, .no]) ?_ ?_
  · simp only [run_asg]
    refine ev_lcN (f := tp) (res0 n (sortI l)) (by rw [I0.len]; omega) (fun done acc ρ => acc = done.map (cvD size rs) ∧ ∃ s7, ρ = [.val (.obj K (mkt K size rs gone)), .val dp, .val (.int n), .val (tp (sortI l)), .lst ((res0 n (sortI l)).map tp), s5, .no, s7, .no, .no, .no, .no, .no]) ⟨rfl, .no, rfl⟩ ?_ ?_ ?_
    · rintro done acc ρ ⟨_, s7, rfl⟩
      rfl
    · rintro done x rest acc ρ e ⟨rfl, s7, rfl⟩
      have hx : x ∈ res0 n (sortI l) := by rw [e]; simp
      have cx := fun C => c_coverS (C := C) (gone := gone) hK hs hs2 hin (by omega) (dp := tp x) (l := x) (.inr rfl) (I0.asc x hx).nd (I0.inn x hx)
      rw [covs_sort] at cx
      simp [wipeE, mYes, cx]
      rfl
    · rintro acc ρ ⟨rfl, s7, rfl⟩
      simp
  rintro ρ ⟨s7, rfl⟩
  refine run_seq_of (P := fun ρ => ρ = [.val (.obj K (mkt K size rs gone)), .val dp, .val (.int n), .val (tp (sortI l)), .lst ((res0 n (sortI l)).map tp), s5, .lst ((res0 n (sortI l)).map (cvD size rs)), s7, .val fd, .no, .no, .no, .no]) ?_ ?_
  · simp [gFld_size hK, cal_f]
  rintro ρ rfl
  rw [run_seq]
  obtain ⟨r, e1, s5, s6, s7, s8, s9, s10, s11, s12, rfl⟩ := J3 (.val dp) (.val (.int n)) (.val (tp (sortI l))) s5 s7 .no .no .no .no
  refine ⟨_, e1, ?_⟩
  rw [nxt_nx]
  simp
end L2.Fn
set_option maxRecDepth 100000
set_option maxHeartbeats 4000000
/-! LibQ5: the lots, checked. -/
namespace L2.Fn
open PySem PySem.Spec PyProof.Rows L2
@[simp] theorem run_aug {i : Nat} {g : D → D → Option D} {m : ME D} {ρ : Slots} {R : Out → Prop} : run (sAug i g m) ρ R ↔ (match ρ[i]? with
    | some (.val x) => ev m ρ (okx (fun y ρ' => opx (g x y) fun z => i < ρ'.length ∧ R (.nx (ρ'.set i (.val z)))) fun C fs ρ' => R (.ex C fs ρ'))
    | _ => False) := by
  unfold sAug
  have key : ∀ x, run (m.thn fun y ρ' => match g x y with
    | some z => if i < ρ'.length then some (.nx (ρ'.set i (.val z))) else none
    | none => none) ρ R ↔ ev m ρ (okx (fun y ρ' => opx (g x y) fun z => i < ρ'.length ∧ R (.nx (ρ'.set i (.val z)))) fun C fs ρ' => R (.ex C fs ρ')) := fun x => by
    rw [run_thn]
    refine ev_congr fun y ρ' => ?_
    unfold run
    cases q : g x y with
    | none => simp
    | some z => by_cases h : i < ρ'.length <;> simp [h]
  unfold run at key ⊢
  cases h : ρ[i]? with
  | none => simp [h]
  | some s =>
    cases s with
    | val d => simp only [h]; exact key d
    | _ => simp [h]
/-- for over a name's list or tuple -/
theorem run_forN {γ : Type} {f : γ → D} {j : Nat} {g : MG} {b : MS} {ρ : Slots} {R : Out → Prop} {told : S} (xs : List γ) (I : List γ → Slots → Prop) (ht : told = .lst (xs.map f) ∨ ∃ d, told = .val d ∧ itemsD d = some (xs.map f)) (h0 : I [] ρ) (hj : ∀ done ρ, I done ρ → ρ[j]? = some told)
    (hs : ∀ done x rest ρ, xs = done ++ x :: rest → I done ρ → gev g (.val (f x)) ρ fun ρ1 => run b ρ1 fun o => ∃ ρ', o = .nx ρ' ∧ I (done ++ [x]) ρ')
    (he : ∀ ρ, I xs ρ → R (.nx ρ)) : run (sForN j g b) ρ R := by
  have h00 := hj _ _ h0
  rcases ht with rfl | ⟨d, rfl, hd⟩
  · have key : ∀ rest done ρ, xs = done ++ rest → I done ρ → run (sLoopN j g b (rest.length + 1) done.length) ρ R := by
      intro rest
      induction rest with
      | nil =>
        intro done ρ e i
        have hk : (xs.map f)[done.length]? = none := List.getElem?_eq_none (by rw [e]; simp)
        rw [List.append_nil] at e
        subst e
        refine ⟨_, ?_, he ρ i⟩
        unfold sLoopN
        rw [hj _ _ i]
        dsimp only
        rw [hk]
      | cons x rest ih =>
        intro done ρ e i
        obtain ⟨ρ1, h1, r, h2, ρ', rfl, h3⟩ := hs done x rest ρ e i
        have hk : (xs.map f)[done.length]? = some (f x) := by rw [e]; simp
        obtain ⟨r2, h4, h5⟩ := ih (done ++ [x]) ρ' (by simp [e]) h3
        refine ⟨r2, ?_, h5⟩
        have el : (x :: rest).length + 1 = (rest.length + 1) + 1 := by simp
        rw [el]
        unfold sLoopN
        rw [hj _ _ i]
        dsimp only
        rw [hk]
        dsimp only
        rw [h1]
        dsimp only
        rw [h2]
        dsimp only
        rw [← h4]
        simp
    obtain ⟨r, h1, h2⟩ := key xs [] ρ rfl h0
    refine ⟨r, ?_, h2⟩
    unfold sForN lenAt
    rw [h00]
    dsimp only
    rw [List.length_map]
    exact h1
  · have := run_loop (f := f) (g := g) (b := b) (ρ := ρ) (R := R) xs I h0 (fun done x rest ρ e i => by
      obtain ⟨ρ1, h1, r, h2, ρ', rfl, h3⟩ := hs done x rest ρ e i
      exact ⟨ρ1, h1, _, h2, h3⟩) he
    obtain ⟨r, h1, h2⟩ := this
    refine ⟨r, ?_, h2⟩
    unfold sForN
    rw [h00]
    dsimp only
    rw [hd]
    exact h1
/-! ### the parts of all lots -/
theorem count_flat (p : Int) : ∀ res : List (List Int), (∀ l ∈ res, l.Nodup) → ((res.flatten.count p : Nat) : Int) = tot (fun l => bi (decide (p ∈ l))) res
  | [], _ => rfl
  | l :: res, h => by
    have ih := count_flat p res fun m hm => h m (List.mem_cons_of_mem _ hm)
    rw [List.flatten_cons, List.count_append, tot_cons, ← ih, (h l List.mem_cons_self).count]
    by_cases q : p ∈ l <;> simp [bi, q]
theorem flat_perm {res : List (List Int)} {Z : List Int} (h : ∀ l ∈ res, l.Nodup) (hz : Z.Nodup) (hc : ∀ p, tot (fun l => bi (decide (p ∈ l))) res = bi (decide (p ∈ Z))) : res.flatten.Perm Z := by
  rw [List.perm_iff_count]
  intro p
  have h1 := count_flat p res h
  rw [hc p] at h1
  rw [hz.count]
  by_cases q : p ∈ Z
  · simp [bi, q] at h1 ⊢
    omega
  · simp [bi, q] at h1 ⊢
    omega
/-- a list or a tuple of lots -/
def Told (told : S) (res : List (List Int)) : Prop := told = .lst (res.map tp) ∨ ∃ d, told = .val d ∧ itemsD d = some (res.map tp) ∧ gLen d = some res.length
theorem Told.it {told : S} {res : List (List Int)} (h : Told told res) : told = .lst (res.map tp) ∨ ∃ d, told = .val d ∧ itemsD d = some (res.map tp) := by
  rcases h with h | ⟨d, h1, h2, _⟩
  · exact .inl h
  · exact .inr ⟨d, h1, h2⟩
theorem inD_Js (neg : Bool) (p : Int) (l : List Int) : inD neg (.int p) (Js l) = some (.val (.bl (if neg = true then !decide (p ∈ l) else decide (p ∈ l)))) := by
  unfold inD
  rw [flatsD_Js]
  show some (S.val (.bl (if neg = true then !inV (.int p) (l.map V.int) else inV (.int p) (l.map V.int)))) = _
  rw [inV_int]
theorem gNin_parts {p : Int} {l : List Int} {d : D} (h : Parts d l) : gIn true (.int p) d = some (.val (.bl (!decide (p ∈ l)))) := by
  have : itemsD d = some (Js l) := by rcases h with rfl | rfl <;> rfl
  unfold gIn
  rw [this, Option.bind_some, inD_Js]
  rfl
theorem c_parted {told : S} {res : List (List Int)} {P : List Int} {dp : D} {m : Nat} {C : CR → Prop} (ht : Told told res) (hp : Parts dp P) (hP : P.Nodup) (hlen : P.length ≤ 1000) (ha : ∀ l ∈ res, Asc l) (hi : ∀ l ∈ res, In m l) (hc : ∀ p, tot (fun l => bi (decide (p ∈ l))) res = bi (decide (p ∈ P))) :
    cal f__law_parted [told, .val dp, .val (.int m)] C ↔ C (.ret (.val (.bl true)) [told, .val dp, .val (.int m)]) := by
  have pf := flat_perm (fun l h => (ha l h).nd) hP hc
  have hF : res.flatten.Nodup := (pf.nodup_iff).mpr hP
  have hL : res.flatten.length ≤ 1000 := by rw [pf.length_eq]; exact hlen
  refine cal_of (of_cal ?_)
  unfold f__law_parted
  rw [cal_def]
  simp only [m__law_parted]
  refine run_seq_of (P := fun ρ => ρ = [told, .val dp, .val (.int m), .lst (Js []), .no, .no]) (by simp) ?_
  rintro ρ rfl
  refine run_seq_of (P := fun ρ => ∃ s4 s5, ρ = [told, .val dp, .val (.int m), .lst (Js res.flatten), s4, s5]) ?_ ?_
  · refine run_forN (f := tp) res (fun done ρ => ∃ s4 s5, ρ = [told, .val dp, .val (.int m), .lst (Js done.flatten), s4, s5]) ht.it ⟨.no, .no, rfl⟩ ?_ ?_ ?_
    · rintro done ρ ⟨s4, s5, rfl⟩
      rfl
    · rintro done l rest ρ e ⟨s4, s5, rfl⟩
      have hl : l ∈ res := by rw [e]; simp
      have hset := fun C => c_law_set (C := C) (ha l hl) (hi l hl)
      simp only [gev_set]
      refine ⟨by simp, ?_⟩
      refine run_seq_of (P := fun ρ => ρ = [told, .val dp, .val (.int m), .lst (Js done.flatten), .val (tp l), s5]) (by simp [hset]) ?_
      rintro ρ rfl
      simp only [run_for]
      simp
      refine run_loop' l (fun dl ρ => ∃ s5, ρ = [told, .val dp, .val (.int m), .lst (Js (done.flatten ++ dl)), .val (tp l), s5]) ⟨s5, by simp⟩ ?_ ?_
      · rintro dl p rl ρ el ⟨s5, rfl⟩
        have hfl : res.flatten = (done.flatten ++ dl) ++ p :: (rl ++ rest.flatten) := by rw [e, el]; simp
        have hnp : p ∉ done.flatten ++ dl := fun z => by
          rw [hfl] at hF
          exact (List.nodup_append.mp hF).2.2 p z p List.mem_cons_self rfl
        have hpp : p ∈ P := pf.subset (by rw [hfl]; simp)
        have hsz : (done.flatten ++ dl).length < sizeLine := lt_size (by
          have := congrArg List.length hfl
          rw [List.length_append] at this
          omega)
        refine ⟨[told, .val dp, .val (.int m), .lst (Js (done.flatten ++ dl ++ [p])), .val (tp l), .val (.int p)], ?_, .val (.int p), by simp⟩
        simp only [gev_set]
        refine ⟨by simp, ?_⟩
        refine run_seq_of (P := fun ρ => ρ = [told, .val dp, .val (.int m), .lst (Js (done.flatten ++ dl)), .val (tp l), .val (.int p)]) ?_ ?_
        · simp only [List.mem_append, not_or] at hnp
          simp [-Js_append, inD_Js, gNin_parts hp, hpp, hnp]
        rintro ρ rfl
        simp [-Js_append]
        refine ⟨by simpa using hsz, ?_⟩
        rw [show done.flatten ++ (dl ++ [p]) = (done.flatten ++ dl) ++ [p] by simp]
        rw [Js_append (done.flatten ++ dl)]
        rfl
      · rintro ρ ⟨s5, rfl⟩
        refine ⟨_, rfl, .val (tp l), s5, ?_⟩
        simp
    · rintro ρ ⟨s4, s5, rfl⟩
      exact ⟨_, rfl, s4, s5, rfl⟩
  rintro ρ ⟨s4, s5, rfl⟩
  have gl : gLen dp = some P.length := by rcases hp with rfl | rfl <;> simp [gLen]
  simp only [run_ret, ev_op, ev_lenN, List.getElem?_cons_succ, List.getElem?_cons_zero, okx_ok, Js_length]
  simp [gl, pf.length_eq]
end L2.Fn
set_option maxRecDepth 100000
set_option maxHeartbeats 4000000
/-! LibQ6: evenness, checked. -/
namespace L2.Fn
open PySem PySem.Spec PyProof.Rows L2
theorem ev_lcNT {γ : Type} {f : γ → D} {j : Nat} {g : MG} {tt : ME Bool} {te : ME D} {vs : List Nat} {ρ : Slots} {Q : Ex S → Prop} {told : S} (xs : List γ) (hx : xs.length ≤ 10000) (ht : told = .lst (xs.map f) ∨ ∃ d, told = .val d ∧ itemsD d = some (xs.map f)) (I : List γ → List D → Slots → Prop) (h0 : I [] [] ρ) (hj : ∀ done acc ρ, I done acc ρ → ρ[j]? = some told)
    (hs : ∀ done x rest acc ρ, xs = done ++ x :: rest → I done acc ρ → gev g (.val (f x)) (wipeE ρ vs) fun ρ1 => ev tt ρ1 (okx (fun b ρ2 => if b = true then ev te ρ2 (okx (fun y ρ3 => I (done ++ [x]) (acc ++ [y]) (wipeE ρ3 vs)) fun _ _ _ => False) else I (done ++ [x]) acc (wipeE ρ2 vs)) fun _ _ _ => False))
    (he : ∀ acc ρ, I xs acc ρ → Q (.ok (.lst acc) ρ)) : ev (mLcN j g tt te vs) ρ Q := by
  rcases ht with rfl | ⟨d, rfl, hd⟩
  · exact ev_lcN xs hx I h0 hj hs he
  · have hj0 := hj _ _ _ h0
    have e : mLcN j g tt te vs ρ = mLc (mItems (mVar j)) g tt te vs ρ := by
      unfold mLcN
      rw [hj0]
    unfold ev
    rw [e]
    refine ev_lc ?_
    obtain ⟨acc, ρ', h1, h2⟩ := ev_lcI (f := f) (g := g) (tt := tt) (te := te) (vs := vs) xs I h0 hs
    simp only [ev_items, ev_var, hj0, okx_ok, hd, opx_some]
    exact ⟨le_size (by rw [List.length_map]; omega), acc, ρ', h1, he _ _ h2⟩
theorem covs_at {size : Int} {rs : List (Int × Int)} {l : List Int} {k : Nat} (h : k < size.toNat) : gIx (.lst (Js (covs size rs l))) (.int (k : Int)) = some (.int (cvS rs l k)) := gIx_covs h
def cvL (size : Int) (rs : List (Int × Int)) (l : List Int) : D := .lst (Js (covs size rs l))
theorem cvL_at {size : Int} {rs : List (Int × Int)} {l : List Int} {k : Nat} (h : k < size.toNat) : gIx (cvL size rs l) (.int (k : Int)) = some (.int (cvS rs l k)) := gIx_covs h
theorem even_row {size : Int} {rs : List (Int × Int)} {res : List (List Int)} {x : Nat} {fl_ : Int} {s0 s1 s2 s3 s4 s5 s6 s7 s11 : S} (hx : x < size.toNat) (h : ∀ l ∈ res, cvS rs l x = fl_ ∨ cvS rs l x = fl_ + 1) (R : Out → Prop)
    (hR : ∀ s11, R (.nx [s0, s1, s2, s3, s4, s5, s6, s7, .val (.int x), .val (.int fl_), .val (.int (tot (fun l => cvS rs l x - fl_) res)), s11])) :
    run (sLoop (gSetM 11) (sSeq (sIf (mAnd (mTest (mOp gNe (mIxN 11 (mVar 8)) (mVar 9))) (mTest (mOp gNe (mIxN 11 (mVar 8)) (mCold (mOp gAdd (mVar 9) (ret (.int 1))))))) (sRet (mWarm (ret (.bl false)))) sNil)
  (sAug 10 gAddI (mCold (mOp gSub (mIxN 11 (mVar 8)) (mVar 9))))) (res.map (cvL size rs))) [s0, s1, s2, s3, s4, s5, s6, s7, .val (.int x), .val (.int fl_), .val (.int 0), s11] R := by
  refine run_loop' res (fun done ρ => ∃ s11, ρ = [s0, s1, s2, s3, s4, s5, s6, s7, .val (.int x), .val (.int fl_), .val (.int (tot (fun l => cvS rs l x - fl_) done)), s11]) ⟨s11, rfl⟩ ?_ ?_
  · rintro done l rest ρ e ⟨s11, rfl⟩
    have hl := h l (by rw [e]; simp)
    refine ⟨[s0, s1, s2, s3, s4, s5, s6, s7, .val (.int x), .val (.int fl_), .val (.int (tot (fun l => cvS rs l x - fl_) (done ++ [l]))), .val (cvL size rs l)], ?_, _, rfl⟩
    rw [tot_app]
    simp only [gev_set]
    refine ⟨by simp, ?_⟩
    rcases hl with hl | hl
    · refine run_seq_of (P := fun ρ => ρ = [s0, s1, s2, s3, s4, s5, s6, s7, .val (.int x), .val (.int fl_), .val (.int (tot (fun l => cvS rs l x - fl_) done)), .val (cvL size rs l)]) (by simp [cvL_at hx, hl]) ?_
      rintro ρ rfl
      simp [cvL_at hx]
    · have h2 : ¬ fl_ + 1 = fl_ := by omega
      refine run_seq_of (P := fun ρ => ρ = [s0, s1, s2, s3, s4, s5, s6, s7, .val (.int x), .val (.int fl_), .val (.int (tot (fun l => cvS rs l x - fl_) done)), .val (cvL size rs l)]) (by simp [cvL_at hx, hl, h2]) ?_
      rintro ρ rfl
      simp [cvL_at hx]
  · rintro ρ ⟨s11, rfl⟩
    exact hR _
theorem tot_sub {α : Type} (f : α → Int) (c : Int) : ∀ l : List α, tot (fun a => f a - c) l = tot f l - c * l.length
  | [] => by simp
  | a :: l => by
    have := tot_sub f c l
    simp [Int.mul_add, this]; omega
theorem tot_map {α β : Type} (f : β → Int) (g : α → β) (l : List α) : tot f (l.map g) = tot (fun a => f (g a)) l := by simp [tot, Function.comp_def]
theorem c_even {told : S} {size : Int} {rs : List (Int × Int)} {res : List (List Int)} {P : List Int} {dp : D} {C : CR → Prop} (hs : 1 ≤ size) (hs2 : size ≤ 30) (hin : InRow size rs) (hn : rs.length ≤ 100) (ht : Told told res) (hp : Parts dp P) (hP : P.Nodup) (iP : In rs.length P) (h1 : 1 ≤ res.length) (h50 : res.length ≤ 50)
    (ha : ∀ l ∈ res, Asc l) (hi : ∀ l ∈ res, In rs.length l) (hc : ∀ x, tot (fun l => cvS rs l x) res = cvS rs P x) (hnr : ∀ x : Nat, x < size.toNat → ∀ a ∈ res, ∀ b ∈ res, cvS rs a x - cvS rs b x ≤ 1) :
    cal f__law_even [.val (.int size), .val (.lst (Rs rs)), told, .val dp] C ↔ C (.ret (.val (.bl true)) [.val (.int size), .val (.lst (Rs rs)), told, .val dp]) := by
  refine cal_of (of_cal ?_)
  unfold f__law_even
  rw [cal_def]
  simp only [m__law_even]
  have cP := fun C => c_law_coverP (C := C) hp hs hs2 hin iP
  refine run_seq_of (P := fun ρ => ρ = [.val (.int size), .val (.lst (Rs rs)), told, .val dp, .val (.int res.length), .no, .no, .no, .no, .no, .no, .no]) ?_ ?_
  · rcases ht with rfl | ⟨d, rfl, _, hl⟩
    · simp
    · simp [hl]
  rintro ρ rfl
  refine run_seq_of (P := fun ρ => ρ = [.val (.int size), .val (.lst (Rs rs)), told, .val dp, .val (.int res.length), .lst (Js (covs size rs P)), .no, .no, .no, .no, .no, .no]) (by simp [cP]) ?_
  rintro ρ rfl
  refine run_seq_of (P := fun ρ => ∃ s7, ρ = [.val (.int size), .val (.lst (Rs rs)), told, .val dp, .val (.int res.length), .lst (Js (covs size rs P)), .lst (res.map (cvL size rs)), s7, .no, .no, .no, .no]) ?_ ?_
  · simp only [run_asg]
    refine ev_lcNT (f := tp) (told := told) res (by omega) ht.it (fun done acc ρ => acc = done.map (cvL size rs) ∧ ∃ s7, ρ = [.val (.int size), .val (.lst (Rs rs)), told, .val dp, .val (.int res.length), .lst (Js (covs size rs P)), .no, s7, .no, .no, .no, .no]) ⟨rfl, .no, rfl⟩ ?_ ?_ ?_
    · rintro done acc ρ ⟨_, s7, rfl⟩
      rfl
    · rintro done l rest acc ρ e ⟨rfl, s7, rfl⟩
      have hl := hi l (by rw [e]; simp)
      have cl := fun C => c_law_cover (C := C) hs hs2 hin hl
      simp [wipeE, mYes, cl]
      rfl
    · rintro acc ρ ⟨rfl, s7, rfl⟩
      simp
  rintro ρ ⟨s7, rfl⟩
  refine run_seq_of (P := fun ρ => ∃ s6 s8 s9 s10 s11, ρ = [.val (.int size), .val (.lst (Rs rs)), told, .val dp, .val (.int res.length), .lst (Js (covs size rs P)), s6, s7, s8, s9, s10, s11]) ?_ ?_
  · simp only [run_for]
    simp
    refine ⟨rg_of (by omega) (by omega), ?_⟩
    show run (sLoop _ _ ((List.range size.toNat).map fun i => D.int (0 + (i : Nat)))) _ _
    refine run_loop _ (fun done ρ => ∃ s6 s8 s9 s10 s11, ρ = [.val (.int size), .val (.lst (Rs rs)), told, .val dp, .val (.int res.length), .lst (Js (covs size rs P)), s6, s7, s8, s9, s10, s11] ∧ (s6 = .lst (res.map (cvL size rs)) ∨ s6 = .val (.lst (res.map (cvL size rs))))) ⟨_, _, _, _, _, rfl, .inl rfl⟩ ?_ ?_
    · rintro done x rest ρ e ⟨s6, s8, s9, s10, s11, rfl, q6⟩
      have hx := (at_range e).2
      obtain ⟨fl_, hfl⟩ : ∃ f, f = cvS rs P x / (res.length : Int) := ⟨_, rfl⟩
      have rows : ∀ l ∈ res, cvS rs l x = fl_ ∨ cvS rs l x = fl_ + 1 := fun l hl => by
        have := near_floor (l := res.map fun l => cvS rs l x) (n := res.length) (by simp) (by omega) (fun a ha b hb => by
          obtain ⟨u, hu, rfl⟩ := List.mem_map.mp ha
          obtain ⟨v, hv, rfl⟩ := List.mem_map.mp hb
          exact hnr x hx u hu v hv) (cvS rs l x) (List.mem_map_of_mem hl)
        rw [tot_map] at this
        have e : tot (fun a => id (cvS rs a x)) res = cvS rs P x := hc x
        rw [e, ← hfl] at this
        exact this
      have hb := cvS_bd hin (x : Int) iP
      have lP := range_len hP iP
      have f0 : 0 ≤ fl_ := by rw [hfl]; exact Int.ediv_nonneg hb.1 (by omega)
      have f1 : fl_ ≤ cvS rs P x := by rw [hfl]; exact Int.ediv_le_self _ hb.1
      have gd : gDiv (.int (cvS rs P x)) (.int (res.length : Int)) = some (.val (.int fl_)) := by
        rw [hfl]
        exact gDiv_int (by omega) (by omega)
      have gm : gMul (.int fl_) (.int (res.length : Int)) = some (.val (.int (fl_ * res.length))) := gMul_of (by omega) (by omega)
      have hsum : tot (fun l => cvS rs l x - fl_) res = cvS rs P x - fl_ * res.length := by rw [tot_sub, hc x]
      simp only [gev_set]
      refine ⟨by simp, ?_⟩
      refine run_seq_of (P := fun ρ => ρ = [.val (.int size), .val (.lst (Rs rs)), told, .val dp, .val (.int res.length), .lst (Js (covs size rs P)), s6, s7, .val (.int x), .val (.int fl_), s10, s11]) (by simp [covs_at hx, gd]) ?_
      rintro ρ rfl
      refine run_seq_of (P := fun ρ => ρ = [.val (.int size), .val (.lst (Rs rs)), told, .val dp, .val (.int res.length), .lst (Js (covs size rs P)), s6, s7, .val (.int x), .val (.int fl_), .val (.int 0), s11]) (by simp) ?_
      rintro ρ rfl
      refine run_seq_of (P := fun ρ => ∃ s11, ρ = [.val (.int size), .val (.lst (Rs rs)), told, .val dp, .val (.int res.length), .lst (Js (covs size rs P)), .val (.lst (res.map (cvL size rs))), s7, .val (.int x), .val (.int fl_), .val (.int (cvS rs P x - fl_ * res.length)), s11]) ?_ ?_
      · rw [← hsum]
        simp only [run_for]
        rcases q6 with rfl | rfl
        · simp [itemsD]
          exact even_row hx rows _ fun s11 => ⟨_, rfl, _, rfl⟩
        · simp [itemsD]
          exact even_row hx rows _ fun s11 => ⟨_, rfl, _, rfl⟩
      rintro ρ ⟨s11, rfl⟩
      have gn : gNe (.int (cvS rs P x - fl_ * res.length)) (.int (cvS rs P x - fl_ * res.length)) = some (.val (.bl false)) := by simp
      simp [covs_at hx, gm, -gNe_int, gn]
    · rintro ρ ⟨s6, s8, s9, s10, s11, rfl, _⟩
      exact ⟨_, rfl, _, _, _, _, _, rfl⟩
  rintro ρ ⟨s6, s8, s9, s10, s11, rfl⟩
  simp
end L2.Fn
set_option maxRecDepth 100000
set_option maxHeartbeats 4000000
/-! LibQ7: what lots and halves refuse. -/
namespace L2.Fn
open PySem PySem.Spec PyProof.Rows L2
theorem e_is_int_bl {b : Bool} : f_is_int [.val (.bl b)] = some (.ret (.val (.bl false)) [.val (.bl b)]) := of_cal (by
  unfold f_is_int
  rw [cal_def]
  simp [m_is_int])
@[simp] theorem c_is_int_bl {b : Bool} {C : CR → Prop} : cal f_is_int [.val (.bl b)] C ↔ C (.ret (.val (.bl false)) [.val (.bl b)]) := cal_of e_is_int_bl
/-- no number from 1 to 50 -/
def BadW (w : D) : Prop := (∃ v : Int, w = .int v ∧ (v < 1 ∨ 50 < v)) ∨ w = .non ∨ ∃ b, w = .bl b
theorem x_check_bad {w : D} {nm : Str} {C : CR → Prop} (hw : BadW w) (h : ∀ ss, C (.exc "BadNumber" [("name", .str nm)] ss)) : cal f_check_number [.val w, .val (.str nm), .val (.int 1), .val (.int 50)] C := by
  unfold f_check_number
  rw [cal_def]
  rcases hw with ⟨v, rfl, hv⟩ | rfl | ⟨b, rfl⟩
  · by_cases h1 : v < 1
    · simp [m_check_number, h1]
      exact h _
    · have h2 : 50 < v := by omega
      simp [m_check_number, h1, h2]
      exact h _
  · simp [m_check_number]
    exact h _
  · simp [m_check_number]
    exact h _
section
variable {K : Str} {size : Int} {rs : List (Int × Int)} {gone l : List Int} {d dp w : D} {n : Nat}
theorem c_halvesP (hK : K ∈ KS) (hs2 : size ≤ 30) (hin : InRow size rs) (hn : rs.length ≤ 31) (hnd : l.Nodup) (hl : In rs.length l) :
    ∃ A B : List Int, (Asc A ∧ Asc B) ∧ (In rs.length A ∧ In rs.length B) ∧ (∀ p, bi (decide (p ∈ A)) + bi (decide (p ∈ B)) = bi (decide (p ∈ l))) ∧ (∀ x, cvS rs A x + cvS rs B x = cvS rs l x) ∧ (∀ x, -1 ≤ cvS rs A x - cvS rs B x ∧ cvS rs A x - cvS rs B x ≤ 1) ∧
      ∀ dp, Parts dp l → ∀ C : CR → Prop, cal f_halves [.val (.obj K (mkt K size rs gone)), .val dp] C ↔ C (.ret (.val (.tup [tp A, tp B])) [.val (.obj K (mkt K size rs gone)), .val dp]) := by
  obtain ⟨A, B, h1, h2, h3, h4, h5, h6⟩ := c_halvesS (size := size) (gone := gone) hK hs2 hin hn (l := sortI l) (fun p h => hl p (mem_sort.mp h)) (asc_sort hnd)
  refine ⟨A, B, h1, h2, fun p => by rw [h3 p]; simp only [mem_sort], fun x => by rw [h4 x, cvS_perm (sortI_perm l)], h5, fun dp hp C => cal_of (of_cal ?_)⟩
  unfold f_halves
  rw [cal_def]
  have hset := fun C => c_set_of (C := C) (many := rs.length) hp hnd hl (Nat.le_trans (range_len hnd hl) (by omega)) (by omega)
  simp [m_halves, gFld_runs hK, show gLen (.tup (Rs rs)) = some rs.length by simp [gLen], hset, h6]
theorem x_halves_bad (hK : K ∈ KS) (hd : BadP rs.length d) (hl : l.Nodup) (hi : In rs.length l) (hn : rs.length ≤ 1000) : cal f_halves [.val (.obj K (mkt K size rs gone)), .val (.lst (Js l ++ [d]))] fun c => ∃ ss, c = .exc "BadSet" [("place", .int l.length)] ss := by
  unfold f_halves
  rw [cal_def]
  simp only [m_halves]
  have hlen : gLen (.tup (Rs rs)) = some rs.length := by simp [gLen]
  simp [gFld_runs hK, hlen]
  refine c_set_bad hd hl hi (Nat.le_trans (range_len hl hi) (by omega)) (by omega) fun ss => ?_
  simp
theorem x_halves_none (hK : K ∈ KS) : cal f_halves [.val (.obj K (mkt K size rs gone)), .val .non] fun c => ∃ ss, c = .exc "BadSet" [("place", .int (-1))] ss := by
  unfold f_halves
  rw [cal_def]
  simp only [m_halves]
  have hlen : gLen (.tup (Rs rs)) = some rs.length := by simp [gLen]
  have s1 := fun C => c_set_none (C := C) (many := rs.length) (by omega)
  simp [gFld_runs hK, hlen, s1]
theorem x_halves_refused {dm d : D} {n : Int} {C : CR → Prop} (h1 : cal f_halves [.val dm, .val d] fun c => ∃ ss, c = .exc "BadSet" [("place", .int n)] ss) (h : ∀ ss, C (.ret (.val (.int n)) ss)) : cal f__law_halves_refused [.val dm, .val d] C := by
  unfold f__law_halves_refused
  rw [cal_def]
  simp only [m__law_halves_refused]
  refine run_seq_of (P := fun ρ => ρ = [.val dm, .val d, .val (.int (-7)), .no]) (by simp) ?_
  rintro ρ rfl
  refine run_seq_of (P := fun ρ => ρ = [.val dm, .val d, .val (.int n), .no]) ?_ ?_
  · obtain ⟨r, k1, ss, rfl⟩ := h1
    have h2 : run (sDrop (mCall f_halves [] (aCons (mVar 0) (aCons (mVar 1) aNil)))) [.val dm, .val d, .val (.int (-7)), .no] (fun o => o = .ex "BadSet" [("place", .int n)] [.val dm, .val d, .val (.int (-7)), .no]) := by
      simp
      rw [cal_of k1]
      simp
    have h3 : run (sAsg (mWarm (mErr 3 "BadSet" "place")) (gSetM 2)) [.val dm, .val d, .val (.int (-7)), .err "BadSet" [("place", .int n)]] (fun o => o = .nx [.val dm, .val d, .val (.int n), .err "BadSet" [("place", .int n)]]) := by
      simp
    obtain ⟨_, h2, rfl⟩ := h2
    obtain ⟨_, h3, rfl⟩ := h3
    exact run_try_ex h2 (by simp [notErr]) (by simp [SUB_BadSet]) (by simp) h3 (by simp [notErr]) ⟨_, rfl, rfl⟩
  rintro ρ rfl
  simp
  exact h _
theorem x_lots_badset (hK : K ∈ KS) (hd : BadP rs.length d) (hl : l.Nodup) (hi : In rs.length l) (hn : rs.length ≤ 1000) : cal f_lots [.val (.obj K (mkt K size rs gone)), .val (.lst (Js l ++ [d])), .val w] fun c => ∃ ss, c = .exc "BadSet" [("place", .int l.length)] ss := by
  unfold f_lots
  rw [cal_def]
  simp only [m_lots]
  have hlen : gLen (.tup (Rs rs)) = some rs.length := by simp [gLen]
  rw [run_seq]
  simp [gFld_runs hK, hlen]
  refine c_set_bad hd hl hi (Nat.le_trans (range_len hl hi) (by omega)) (by omega) fun ss => ?_
  simp
theorem x_lots_badnum (hK : K ∈ KS) (hp : Parts dp l) (hl : l.Nodup) (hi : In rs.length l) (hn : rs.length ≤ 1000) (hw : BadW w) : cal f_lots [.val (.obj K (mkt K size rs gone)), .val dp, .val w] fun c => ∃ ss, c = .exc "BadNumber" [("name", .str "number")] ss := by
  unfold f_lots
  rw [cal_def]
  simp only [m_lots]
  have hlen : gLen (.tup (Rs rs)) = some rs.length := by simp [gLen]
  have hset := fun C => c_set_of (C := C) (many := rs.length) hp hl hi (Nat.le_trans (range_len hl hi) (by omega)) (by omega)
  refine run_seq_of (P := fun ρ => ρ = [.val (.obj K (mkt K size rs gone)), .val dp, .val w, .val (tp (sortI l)), .no, .no, .no, .no, .no, .no, .no, .no, .no]) (by simp [gFld_runs hK, hlen, hset]) ?_
  rintro ρ rfl
  rw [run_seq]
  simp
  refine x_check_bad hw fun ss => ?_
  simp
end
/-! ### the tries -/
theorem run_tryL_ex {i : Nat} {mb : MS} {hs : List Hdl} {ρ ρ1 : Slots} {C : Str} {fs : List (Str × D)} {R : Out → Prop} {o : Out} (h1 : mb ρ = some (.ex C fs ρ1)) (h2 : ρ1.all notErr = true) (h3 : sHand i C fs ρ1 hs = some o) (h : R o) : run (sTryL i mb hs) ρ R := by
  refine ⟨_, ?_, h⟩
  unfold sTryL
  rw [h1]
  dsimp only
  rw [if_pos h2, h3]
theorem hand_yes {i : Nat} {C : Str} {fs : List (Str × D)} {ρ1 ρ2 : Slots} {sub : Str → Option Bool} {ms : MS} {hs : List Hdl} (h3 : sub C = some true) (h4 : i < ρ1.length) (h5 : ms (ρ1.set i (.err C fs)) = some (.nx ρ2)) (h6 : (ρ2.set i .no).all notErr = true) : sHand i C fs ρ1 ((sub, ms) :: hs) = some (.nx (ρ2.set i .no)) := by
  unfold sHand
  dsimp only
  rw [h3]
  dsimp only
  rw [if_pos h4, h5]
  unfold hEnd
  dsimp only
  rw [if_pos h6]
theorem hand_no {i : Nat} {C : Str} {fs : List (Str × D)} {ρ1 : Slots} {sub : Str → Option Bool} {ms : MS} {hs : List Hdl} (h3 : sub C = some false) : sHand i C fs ρ1 ((sub, ms) :: hs) = sHand i C fs ρ1 hs := by
  conv => lhs; unfold sHand
  dsimp only
  rw [h3]
theorem sub_yes : subOf ["BadNumber", "BadSet"] "BadNumber" "BadNumber" = some true := by decide
theorem sub_no : subOf ["BadNumber", "BadSet"] "BadNumber" "BadSet" = some false := by decide
theorem sub_yes2 : subOf ["BadNumber", "BadSet"] "BadSet" "BadSet" = some true := by decide
theorem gAdd_str {a b : Str} (h : a.length + b.length ≤ 10000) : gAdd (.str a) (.str b) = some (.val (.str (a ++ b))) := by
  show (if _ then _ else _) = _
  rw [if_pos (le_size (by omega))]
/-- what is told of a wrong number -/
def numW : Str := ("number" : Str) ++ ("True" : Str) ++ ("False" : Str)
theorem x_number_refused {dm d w : D} {C : CR → Prop} (h1 : cal f_lots [.val dm, .val d, .val w] fun c => ∃ ss, c = .exc "BadNumber" [("name", .str "number")] ss) (h : ∀ ss, C (.ret (.val (.str numW)) ss)) : cal f__law_number_refused [.val dm, .val d, .val w] C := by
  unfold f__law_number_refused
  rw [cal_def]
  simp only [m__law_number_refused]
  refine run_seq_of (P := fun ρ => ρ = [.val dm, .val d, .val w, .val (.str "none"), .no]) (by simp) ?_
  rintro ρ rfl
  refine run_seq_of (P := fun ρ => ρ = [.val dm, .val d, .val w, .val (.str numW), .no]) ?_ ?_
  · obtain ⟨r, k1, ss, rfl⟩ := h1
    have h2 : run (sDrop (mCall f_lots [] (aCons (mVar 0) (aCons (mVar 1) (aCons (mVar 2) aNil))))) [.val dm, .val d, .val w, .val (.str "none"), .no] (fun o => o = .ex "BadNumber" [("name", .str "number")] [.val dm, .val d, .val w, .val (.str "none"), .no]) := by
      simp
      rw [cal_of k1]
      simp
    have g1 : gStrB (.bl true) = some (.val (.str "True")) := rfl
    have g2 : gStrB (.bl false) = some (.val (.str "False")) := rfl
    have g3 : gAdd (.str "number") (.str "True") = some (.val (.str (("number" : Str) ++ ("True" : Str)))) := gAdd_str (by decide)
    have g4 : gAdd (.str (("number" : Str) ++ ("True" : Str))) (.str "False") = some (.val (.str numW)) := gAdd_str (by decide)
    have h3 : run (sAsg (mOp gAdd (mCold (mOp gAdd (mErr 4 "BadNumber" "name") (mCold (mB1 gStrB (mCold (mIsErr 4 "BadNumber" true)))))) (mCold (mB1 gStrB (mCold (mIsErr 4 "BadNumber" false))))) (gSetM 3)) [.val dm, .val d, .val w, .val (.str "none"), .err "BadNumber" [("name", .str "number")]] (fun o => o = .nx [.val dm, .val d, .val w, .val (.str numW), .err "BadNumber" [("name", .str "number")]]) := by
      simp [g1, g2, g3, g4]
    obtain ⟨_, h2, rfl⟩ := h2
    obtain ⟨_, h3, rfl⟩ := h3
    exact run_tryL_ex h2 (by simp [notErr]) (hand_yes sub_yes (by simp) h3 (by simp [notErr])) ⟨_, rfl, rfl⟩
  rintro ρ rfl
  simp
  exact h _
/-- the text of a number; what is told of a wrong part -/
def strN (n : Nat) : Str := Str.ofString (toString (n : Int))
def setW (n : Nat) : Str := ("set" : Str) ++ strN n
theorem strN_len (n : Nat) : (strN n).length ≤ n + 2 := by
  have := len_str_of_int (n : Int)
  unfold strN
  omega
theorem gStr1_nat {n : Nat} (h : n ≤ 1000) : gStr1 (.int (n : Int)) = some (.val (.str (strN n))) := by
  show (if _ then _ else _) = _
  rw [if_pos (by have := Nat.log2_le_self n; simp only [Int.natAbs_natCast]; omega)] <;> rfl
theorem x_set_refused {dm d w : D} {n : Nat} {C : CR → Prop} (hn : n ≤ 1000) (h1 : cal f_lots [.val dm, .val d, .val w] fun c => ∃ ss, c = .exc "BadSet" [("place", .int n)] ss) (h : ∀ ss, C (.ret (.val (.str (setW n))) ss)) : cal f__law_number_refused [.val dm, .val d, .val w] C := by
  unfold f__law_number_refused
  rw [cal_def]
  simp only [m__law_number_refused]
  refine run_seq_of (P := fun ρ => ρ = [.val dm, .val d, .val w, .val (.str "none"), .no]) (by simp) ?_
  rintro ρ rfl
  refine run_seq_of (P := fun ρ => ρ = [.val dm, .val d, .val w, .val (.str (setW n)), .no]) ?_ ?_
  · obtain ⟨r, k1, ss, rfl⟩ := h1
    have h2 : run (sDrop (mCall f_lots [] (aCons (mVar 0) (aCons (mVar 1) (aCons (mVar 2) aNil))))) [.val dm, .val d, .val w, .val (.str "none"), .no] (fun o => o = .ex "BadSet" [("place", .int n)] [.val dm, .val d, .val w, .val (.str "none"), .no]) := by
      simp
      rw [cal_of k1]
      simp
    have g1 := gStr1_nat hn
    have g2 : gAdd (.str "set") (.str (strN n)) = some (.val (.str (setW n))) := gAdd_str (by
      have h1 := strN_len n
      have h2 : ("set" : Str).length = 3 := by decide
      rw [h2]
      omega)
    have h3 : run (sAsg (mOp gAdd (ret (.str "set")) (mCold (mB1 gStr1 (mErr 4 "BadSet" "place")))) (gSetM 3)) [.val dm, .val d, .val w, .val (.str "none"), .err "BadSet" [("place", .int n)]] (fun o => o = .nx [.val dm, .val d, .val w, .val (.str (setW n)), .err "BadSet" [("place", .int n)]]) := by
      simp only [run_asg, ev_op, ev_ret, okx_ok, ev_cold, ev_b1, ev_err, List.getElem?_cons_succ, List.getElem?_cons_zero, if_true]
      simp [g1, g2]
    obtain ⟨_, h2, rfl⟩ := h2
    obtain ⟨_, h3, rfl⟩ := h3
    have h4 := hand_yes (hs := []) sub_yes2 (i := 4) (ρ1 := [.val dm, .val d, .val w, .val (.str "none"), .no]) (by simp) h3 (by simp [notErr])
    exact run_tryL_ex h2 (by simp [notErr]) ((hand_no sub_no).trans h4) ⟨_, rfl, rfl⟩
  rintro ρ rfl
  simp
  exact h _
end L2.Fn
set_option maxRecDepth 100000
set_option maxHeartbeats 4000000
/-! LibQ8: turned sets; a stock of chains. -/
namespace L2.Fn
open PySem PySem.Spec PyProof.Rows L2
/-- lots as told: all that is checked of them -/
structure Lots (rs : List (Int × Int)) (size : Int) (P : List Int) (res : List (List Int)) : Prop where
  asc : ∀ l ∈ res, Asc l
  inn : ∀ l ∈ res, In rs.length l
  cnt : ∀ p, tot (fun l => bi (decide (p ∈ l))) res = bi (decide (p ∈ P))
  cov : ∀ x, tot (fun l => cvS rs l x) res = cvS rs P x
  near : ∀ x : Nat, x < size.toNat → ∀ a ∈ res, ∀ b ∈ res, cvS rs a x - cvS rs b x ≤ 1
theorem Lots.of {rs : List (Int × Int)} {size : Int} {n : Nat} {P Q : List Int} {res : List (List Int)} (I : LInv rs n Q res) (h : ∀ x : Nat, x < size.toNat → ∀ a ∈ res, ∀ b ∈ res, cvS rs a x - cvS rs b x ≤ 1) (hp : Q.Perm P) : Lots rs size P res :=
  ⟨I.asc, I.inn, fun p => by rw [I.cnt p]; simp only [hp.mem_iff], fun x => by rw [I.cov x, cvS_perm hp], h⟩
theorem Lots.two {rs : List (Int × Int)} {size : Int} {P A B : List Int} (h1 : Asc A ∧ Asc B) (h2 : In rs.length A ∧ In rs.length B) (h3 : ∀ p, bi (decide (p ∈ A)) + bi (decide (p ∈ B)) = bi (decide (p ∈ P))) (h4 : ∀ x, cvS rs A x + cvS rs B x = cvS rs P x) (h5 : ∀ x, -1 ≤ cvS rs A x - cvS rs B x ∧ cvS rs A x - cvS rs B x ≤ 1) : Lots rs size P [A, B] where
  asc := fun l hl => by
    rcases List.mem_cons.mp hl with rfl | hl
    · exact h1.1
    · rw [List.mem_singleton.mp hl]; exact h1.2
  inn := fun l hl => by
    rcases List.mem_cons.mp hl with rfl | hl
    · exact h2.1
    · rw [List.mem_singleton.mp hl]; exact h2.2
  cnt := fun p => by rw [← h3 p]; simp
  cov := fun x => by rw [← h4 x]; simp
  near := fun x _ a ha b hb => by
    have := h5 x
    have ha' : a = A ∨ a = B := by simpa using ha
    have hb' : b = A ∨ b = B := by simpa using hb
    rcases ha' with q | q <;> rcases hb' with r | r <;> rw [q, r] <;> omega
theorem Lots.turn {rs : List (Int × Int)} {size : Int} {P Q : List Int} {res : List (List Int)} (h : Lots rs size P res) (hp : P.Perm Q) : Lots rs size Q res :=
  { h with cnt := fun p => by rw [h.cnt p]; simp only [hp.mem_iff], cov := fun x => by rw [h.cov x, cvS_perm hp] }
section
variable {K : Str} {size : Int} {rs : List (Int × Int)} {gone P : List Int} {n : Nat} {C : CR → Prop}
theorem c_turned_right (hK : K ∈ KS) (hs : 1 ≤ size) (hs2 : size ≤ 30) (hin : InRow size rs) (hn : rs.length ≤ 31) (h1 : 1 ≤ n) (h50 : n ≤ 50) (hP : P.Nodup) (iP : In rs.length P) (h : ∀ ss, C (.ret (.val (.bl true)) ss)) :
    cal f__law_turned_right [.val (.obj K (mkt K size rs gone)), .val (.int size), .val (.lst (Rs rs)), .val (.lst (Js P)), .val (.int n)] C := by
  have lP := range_len hP iP
  have pr : P.reverse.Perm P := List.reverse_perm P
  have nT := rev_nd hP
  have iT : In rs.length P.reverse := fun p hp => iP p (List.mem_reverse.mp hp)
  obtain ⟨A, B, a1, a2, a3, a4, a5, ch⟩ := c_halvesP (size := size) (gone := gone) hK hs2 hin hn nT iT
  obtain ⟨r1, b1, b2, b3⟩ := c_lots (size := size) (gone := gone) hK hs hs2 hin hn h1 h50 nT iT
  obtain ⟨r2, c1, c2, c3⟩ := c_lots (size := size) (gone := gone) hK hs hs2 hin hn (n := 50) (by omega) (by omega) nT iT
  have ps : (sortI P.reverse).Perm P := (sortI_perm _).trans pr
  have L0 := (Lots.two (size := size) a1 a2 a3 a4 a5).turn pr
  have L1 := Lots.of b1 b2 ps
  have L2 := Lots.of c1 c2 ps
  unfold f__law_turned_right
  rw [cal_def]
  simp only [m__law_turned_right]
  have gl : gLen (.lst (Js P)) = some P.length := by simp [gLen]
  refine run_seq_of (P := fun ρ => ∃ s6, ρ = [.val (.obj K (mkt K size rs gone)), .val (.int size), .val (.lst (Rs rs)), .val (.lst (Js P)), .val (.int n), .lst (Js P.reverse), s6, .no, .no, .no, .no, .no]) ?_ ?_
  · simp only [run_asg]
    refine ev_lc ?_
    simp [gl]
    refine ⟨rg_of (by omega) (by omega), le_size (by simp [rangeD]; omega), ?_⟩
    obtain ⟨ρ', h1, s, rfl⟩ := rev_lc (l := P) (i := 3) (j := 6) (ρ := [.val (.obj K (mkt K size rs gone)), .val (.int size), .val (.lst (Rs rs)), .val (.lst (Js P)), .val (.int n), .no, .no, .no, .no, .no, .no, .no]) (by simp) (by omega) rfl (by omega)
    exact ⟨_, _, h1, by simp⟩
  rintro ρ ⟨s6, rfl⟩
  have glist : gList (.lst (Js P.reverse)) = some (.lst (Js P.reverse)) := rfl
  refine run_seq_of (P := fun ρ => ρ = [.val (.obj K (mkt K size rs gone)), .val (.int size), .val (.lst (Rs rs)), .val (.lst (Js P)), .val (.int n), .val (.lst (Js P.reverse)), s6, .lst (Js P.reverse), .no, .no, .no, .no]) (by simp [glist]) ?_
  rintro ρ rfl
  have pt : Parts (.lst (Js P.reverse)) P.reverse := .inl rfl
  refine run_seq_of (P := fun ρ => ρ = [.val (.obj K (mkt K size rs gone)), .val (.int size), .val (.lst (Rs rs)), .val (.lst (Js P)), .val (.int n), .val (.lst (Js P.reverse)), s6, .lst (Js P.reverse), .val (.tup [tp A, tp B]), .no, .no, .no]) (by simp [ch _ pt]) ?_
  rintro ρ rfl
  refine run_seq_of (P := fun ρ => ρ = [.val (.obj K (mkt K size rs gone)), .val (.int size), .val (.lst (Rs rs)), .val (.lst (Js P)), .val (.int n), .val (.lst (Js P.reverse)), s6, .lst (Js P.reverse), .val (.tup [tp A, tp B]), .lst (r1.map tp), .no, .no]) (by simp [b3 _ pt]) ?_
  rintro ρ rfl
  have c3' := fun C => c3 _ pt C
  refine run_seq_of (P := fun ρ => ρ = [.val (.obj K (mkt K size rs gone)), .val (.int size), .val (.lst (Rs rs)), .val (.lst (Js P)), .val (.int n), .val (.lst (Js P.reverse)), s6, .lst (Js P.reverse), .val (.tup [tp A, tp B]), .lst (r1.map tp), .lst (r2.map tp), .no]) ?_ ?_
  · have e50 : ((50 : Nat) : Int) = 50 := rfl
    rw [e50] at c3'
    simp [c3']
  rintro ρ rfl
  have nk : gNe (.lst (Js P.reverse)) (.lst (Js P.reverse)) = some (.val (.bl false)) := gNe_self (sh_Jl (k := 59))
  have g2 : gLen (.tup [tp A, tp B]) = some 2 := rfl
  refine run_seq_of (P := fun ρ => ρ = [.val (.obj K (mkt K size rs gone)), .val (.int size), .val (.lst (Rs rs)), .val (.lst (Js P)), .val (.int n), .val (.lst (Js P.reverse)), s6, .val (.lst (Js P.reverse)), .val (.tup [tp A, tp B]), .lst (r1.map tp), .lst (r2.map tp), .no]) (by simp [nk, g2, b1.len, c1.len]) ?_
  rintro ρ rfl
  have chk : ∀ (d : D) (res : List (List Int)), itemsD d = some (res.map tp) → gLen d = some res.length → 1 ≤ res.length → res.length ≤ 50 → Lots rs size P res →
      (∀ C : CR → Prop, cal f__law_parted [.val d, .val (.lst (Js P)), .val (.int rs.length)] C ↔ C (.ret (.val (.bl true)) [.val d, .val (.lst (Js P)), .val (.int rs.length)])) ∧
      (∀ C : CR → Prop, cal f__law_even [.val (.int size), .val (.lst (Rs rs)), .val d, .val (.lst (Js P))] C ↔ C (.ret (.val (.bl true)) [.val (.int size), .val (.lst (Rs rs)), .val d, .val (.lst (Js P))])) := fun d res e1 e2 e3 e4 L =>
    ⟨fun C => c_parted (.inr ⟨d, rfl, e1, e2⟩) (.inl rfl) hP (by omega) L.asc L.inn L.cnt, fun C => c_even hs hs2 hin (by omega) (.inr ⟨d, rfl, e1, e2⟩) (.inl rfl) hP iP e3 e4 L.asc L.inn L.cov L.near⟩
  have k0 := chk (.tup [tp A, tp B]) [A, B] rfl rfl (by simp) (by simp) L0
  have k1 := chk (.lst (r1.map tp)) r1 rfl (by simp [gLen]) (by rw [b1.len]; exact h1) (by rw [b1.len]; exact h50) L1
  have k2 := chk (.lst (r2.map tp)) r2 rfl (by simp [gLen]) (by rw [c1.len]; omega) (by rw [c1.len]; omega) L2
  have lr : gLen (.lst (Rs rs)) = some rs.length := by simp [gLen]
  refine run_seq_of (P := fun ρ => ∃ s11, ρ = [.val (.obj K (mkt K size rs gone)), .val (.int size), .val (.lst (Rs rs)), .val (.lst (Js P)), .val (.int n), .val (.lst (Js P.reverse)), s6, .val (.lst (Js P.reverse)), .val (.tup [tp A, tp B]), .val (.lst (r1.map tp)), .val (.lst (r2.map tp)), s11]) ?_ ?_
  · simp only [run_for]
    simp [itemsD]
    show run (sLoop _ _ ([D.tup [tp A, tp B], .lst (r1.map tp), .lst (r2.map tp)].map id)) _ _
    refine run_loop' _ (fun done ρ => ∃ s11, ρ = [.val (.obj K (mkt K size rs gone)), .val (.int size), .val (.lst (Rs rs)), .val (.lst (Js P)), .val (.int n), .val (.lst (Js P.reverse)), s6, .val (.lst (Js P.reverse)), .val (.tup [tp A, tp B]), .val (.lst (r1.map tp)), .val (.lst (r2.map tp)), s11]) ⟨_, rfl⟩ ?_ ?_
    · rintro done d rest ρ e ⟨s11, rfl⟩
      have hd : d ∈ [D.tup [tp A, tp B], .lst (r1.map tp), .lst (r2.map tp)] := by rw [e]; simp
      have kd : (∀ C : CR → Prop, cal f__law_parted [.val d, .val (.lst (Js P)), .val (.int rs.length)] C ↔ C (.ret (.val (.bl true)) [.val d, .val (.lst (Js P)), .val (.int rs.length)])) ∧
          (∀ C : CR → Prop, cal f__law_even [.val (.int size), .val (.lst (Rs rs)), .val d, .val (.lst (Js P))] C ↔ C (.ret (.val (.bl true)) [.val (.int size), .val (.lst (Rs rs)), .val d, .val (.lst (Js P))])) := by
        rcases List.mem_cons.mp hd with rfl | hd
        · exact k0
        · rcases List.mem_cons.mp hd with rfl | hd
          · exact k1
          · rw [List.mem_singleton.mp hd]; exact k2
      refine ⟨[.val (.obj K (mkt K size rs gone)), .val (.int size), .val (.lst (Rs rs)), .val (.lst (Js P)), .val (.int n), .val (.lst (Js P.reverse)), s6, .val (.lst (Js P.reverse)), .val (.tup [tp A, tp B]), .val (.lst (r1.map tp)), .val (.lst (r2.map tp)), .val d], ?_, _, rfl⟩
      simp [lr, kd.1, kd.2]
    · rintro ρ ⟨s11, rfl⟩
      exact ⟨_, rfl, _, rfl⟩
  rintro ρ ⟨s11, rfl⟩
  have ga := gAdd_Jsd (a := P.reverse) (d := .int (-1)) (by simp; omega)
  simp [ga, gl]
  refine x_halves_refused (x_halves_bad hK (.inr ⟨-1, rfl, .inl (by omega)⟩) nT iT (by omega)) fun ss => ?_
  simp [gl]
  refine x_halves_refused (x_halves_none hK) fun ss => ?_
  simp
  exact h _
end
end L2.Fn
set_option maxRecDepth 100000
set_option maxHeartbeats 4000000
/-! LibQ9: chains that make a stock. -/
namespace L2.Fn
open PySem PySem.Spec PyProof.Rows L2
def bChain9 : MS := (sIf (mTest (mOp gLt (mVar 6) (mVar 2))) (sSeq (sAsg (mOp gMin2 (mVar 2) (mCold (mOp gAdd (mCold (mOp gAdd (mVar 6) (ret (.int 1)))) (mCold (mCall f__law_take [] (mIo 0 (aCons (mVar 2) aNil))))))) (gSetM 8))
  (sSeq (sDrop (mAppN 3 (mTup (mCons (mVar 6) (mCons (mVar 8) mNil)))))
  (sAsg (mWarm (mVar 8)) (gSetM 6)))) sNil)
theorem cn_one {a b x : Int} : cn [(a, b)] x = if a ≤ x ∧ x < b then 1 else 0 := by
  by_cases h : a ≤ x ∧ x < b
  · simp [cn, h]
  · rw [if_neg h]
    unfold cn
    have : (decide (a ≤ x) && decide (x < b)) = false := by
      simp; omega
    simp [this]
theorem chain9 {ds : List Int} {size : Int} {rs : List (Int × Int)} {s1 s4 s5 s7 s8 s9 : S} {R : Out → Prop} (hs : 0 < size) (hs2 : size ≤ 8) (hl : rs.length ≤ 100)
    (h : ∀ nw ds' s6 s7 s8, InRow size nw → (nw.length : Int) ≤ 8 → (∀ x, 0 ≤ x → x < size → cn nw x = 1) → R (.nx [.lst (Js ds'), s1, .val (.int size), .lst (Rs (rs ++ nw)), s4, s5, s6, s7, s8, s9])) :
    run (sLoop (gSetM 7) bChain9 (rangeD 0 size.toNat)) [.lst (Js ds), s1, .val (.int size), .lst (Rs rs), s4, s5, .val (.int 0), s7, s8, s9] R := by
  show run (sLoop _ _ ((List.range size.toNat).map fun i => D.int (0 + (i : Nat)))) _ _
  refine run_loop' _ (fun done ρ => ∃ nw ds' start s7 s8, ρ = [.lst (Js ds'), s1, .val (.int size), .lst (Rs (rs ++ nw)), s4, s5, .val (.int start), s7, s8, s9] ∧ InRow size nw ∧ (nw.length : Int) ≤ start ∧ (start = size ∨ (done.length : Int) ≤ start) ∧ 0 ≤ start ∧ start ≤ size ∧
      (∀ x : Int, cn nw x = if 0 ≤ x ∧ x < start then 1 else 0)) ⟨[], ds, 0, s7, s8, by simp, InRow.nil, by simp, .inr (by simp), by omega, by omega, fun x => (if_neg (show ¬ (0 ≤ x ∧ x < 0) by omega)).symm⟩ ?_ ?_
  · rintro done i rest ρ e ⟨nw, ds', start, s7, s8, rfl, a1, a2, a3, a4, a5, a6⟩
    by_cases hc : start < size
    · have hd := dr_range (ds := ds') hs
      have hlen : (rs ++ nw).length < sizeLine := lt_size (by simp; omega)
      obtain ⟨stop, hst⟩ : ∃ stop, (if start + 1 + dr ds' size < size then start + 1 + dr ds' size else size) = stop := ⟨_, rfl⟩
      have hb : start < stop ∧ stop ≤ size := by
        rw [← hst]; split <;> omega
      refine ⟨[.lst (Js ds'.dropLast), s1, .val (.int size), .lst (Rs (rs ++ (nw ++ [(start, stop)]))), s4, s5, .val (.int stop), .val (.int (0 + (i : Nat))), .val (.int stop), s9], ?_, nw ++ [(start, stop)], ds'.dropLast, stop, _, _, rfl, ?_, by simp; omega, by simp; omega, by omega, by omega, fun x => ?_⟩
      · have hl2 : rs.length + nw.length < sizeLine := by simpa using hlen
        simp [bChain9, hc, c_take hs, hst, hl2, Rs, rn]
      · refine a1.append fun r hr => ?_
        simp at hr; subst hr
        exact ⟨by simp; omega, by simp; omega, by simp; omega⟩
      · rw [cn_app, a6 x, cn_one]
        split <;> split <;> split <;> omega
    · exact ⟨[.lst (Js ds'), s1, .val (.int size), .lst (Rs (rs ++ nw)), s4, s5, .val (.int start), .val (.int (0 + (i : Nat))), s8, s9], by simp [bChain9, hc], nw, ds', start, _, _, rfl, a1, a2, by omega, a4, a5, a6⟩
  · rintro ρ ⟨nw, ds', start, s7, s8, rfl, a1, a2, a3, a4, a5, a6⟩
    have e : start = size := by
      rcases a3 with a3 | a3
      · exact a3
      · simp at a3; omega
    subst e
    exact h nw ds' _ _ _ a1 (by omega) fun x h1 h2 => by rw [a6 x, if_pos ⟨h1, h2⟩]
theorem cut_drop {α : Type} {xs : List α} {t : Nat} (h : t ≤ xs.length) : cutL xs (some (t : Int)) none = xs.drop t := by
  unfold cutL
  rw [HT.sIx_nat, HT.sIx_none, Nat.min_eq_left h]
  exact List.take_of_length_le (by rw [List.length_drop]; omega)
theorem cut_take {α : Type} {xs : List α} {t : Nat} (h : t ≤ xs.length) : cutL xs none (some (t : Int)) = xs.take t := by
  unfold cutL
  rw [HT.sIx_nat, HT.sIx_none, Nat.min_eq_left h]
  simp
theorem x_chain_stock {ds : List Int} {k : Str} {size : Int} {C : CR → Prop} (hk : k ∈ kinds) (hs : 1 ≤ size) (hs2 : size ≤ 8)
    (h : ∀ (n : Nat) rs ds' (ex : Int), 1 ≤ n → n ≤ 3 → InRow size rs → rs.length ≤ 25 → 1 ≤ rs.length → 0 ≤ ex → (k = "join" → ex = 0) → (∀ x, 0 ≤ x → x < size → cn rs x = n + ex) → C (.ret (.lst [.int n, .lst (Rs rs)]) [.lst (Js ds'), .val (.str k), .val (.int size)])) :
    cal f__law_chain_stock [.lst (Js ds), .val (.str k), .val (.int size)] C := by
  unfold f__law_chain_stock
  rw [cal_def]
  simp only [m__law_chain_stock]
  refine run_seq_of (P := fun ρ => ρ = [.lst (Js ds), .val (.str k), .val (.int size), .lst (Rs []), .no, .no, .no, .no, .no, .no]) (by simp) ?_
  rintro ρ rfl
  refine run_seq_of (P := fun ρ => ∃ (ds : List Int) (n : Nat), ρ = [.lst (Js ds), .val (.str k), .val (.int size), .lst (Rs []), .val (.int n), .no, .no, .no, .no, .no] ∧ 1 ≤ n ∧ n ≤ 3) ?_ ?_
  · have hd := dr_range (ds := ds) (show (0 : Int) < 3 by omega)
    simp [c_take (show (0 : Int) < 3 by omega)]
    exact ⟨_, (1 + dr ds 3).toNat, ⟨rfl, by omega⟩, by omega, by omega⟩
  rintro ρ ⟨ds, n, rfl, n1, n3⟩
  refine run_seq_of (P := fun ρ => ∃ (ds : List Int) (rs : List (Int × Int)) (s5 s6 s7 s8 : S), ρ = [.lst (Js ds), .val (.str k), .val (.int size), .lst (Rs rs), .val (.int n), s5, s6, s7, s8, .no] ∧ InRow size rs ∧ rs.length ≤ 24 ∧ ∀ x, 0 ≤ x → x < size → cn rs x = n) ?_ ?_
  · simp only [run_for]
    simp
    refine ⟨rg_of (by omega) (by omega), ?_⟩
    show run (sLoop _ _ ((List.range n).map fun i => D.int (0 + (i : Nat)))) _ _
    refine run_loop _ (fun done ρ => ∃ (ds : List Int) (rs : List (Int × Int)) (s5 s6 s7 s8 : S), ρ = [.lst (Js ds), .val (.str k), .val (.int size), .lst (Rs rs), .val (.int n), s5, s6, s7, s8, .no] ∧ InRow size rs ∧ rs.length ≤ 8 * done.length ∧ ∀ x, 0 ≤ x → x < size → cn rs x = done.length) ⟨ds, [], _, _, _, _, rfl, InRow.nil, by simp, fun x _ _ => rfl⟩ ?_ ?_
    · rintro done i rest ρ e ⟨ds, rs, s5, s6, s7, s8, rfl, a1, a2, a3⟩
      have hi := at_range e
      simp only [gev_set]
      refine ⟨by simp, ?_⟩
      refine run_seq_of (P := fun ρ => ρ = [.lst (Js ds), .val (.str k), .val (.int size), .lst (Rs rs), .val (.int n), .val (.int i), .val (.int 0), s7, s8, .no]) (by simp) ?_
      rintro ρ rfl
      simp only [run_for]
      simp
      refine ⟨rg_of (by omega) (by omega), ?_⟩
      refine chain9 (by omega) hs2 (by omega) fun nw ds' s6 s7 s8 b1 b2 b3 => ?_
      refine ⟨ds', rs ++ nw, ⟨_, _, _, _, rfl⟩, a1.append b1, by simp; omega, fun x h1 h2 => ?_⟩
      rw [cn_app, a3 x h1 h2, b3 x h1 h2]
    · rintro ρ ⟨ds, rs, s5, s6, s7, s8, rfl, a1, a2, a3⟩
      refine ⟨_, rfl, ds, rs, ⟨s5, s6, s7, s8, rfl⟩, a1, ?_, fun x h1 h2 => ?_⟩
      · simp at a2; omega
      · rw [a3 x h1 h2]; simp
  rintro ρ ⟨ds, rs, s5, s6, s7, s8, rfl, a1, a2, a3⟩
  refine run_seq_of (P := fun ρ => ∃ (ds : List Int) (rs : List (Int × Int)) (ex : Int), ρ = [.lst (Js ds), .val (.str k), .val (.int size), .lst (Rs rs), .val (.int n), s5, s6, s7, s8, .no] ∧ InRow size rs ∧ rs.length ≤ 25 ∧ 0 ≤ ex ∧ (k = "join" → ex = 0) ∧ ∀ x, 0 ≤ x → x < size → cn rs x = n + ex) ?_ ?_
  · by_cases hl : k = "lap"
    · have e1 : gEq (.str k) (.str "lap") = some (.val (.bl true)) := by rw [gEq_lap hk]; simp [hl]
      simp [e1, c_take (show (0 : Int) < 2 by omega)]
      have hsz : rs.length < sizeLine := lt_size (by omega)
      split
      · simp [hsz]
        refine ⟨_, rs ++ [(0, size)], ⟨rfl, by simp [Rs, rn]⟩, a1.append fun q hq => ?_, by simp; omega, 1, by omega, fun h => absurd h (not_lap hl), fun x h1 h2 => ?_⟩
        · simp at hq; subst hq; exact ⟨by simp, by simp; omega, by simp⟩
        · rw [cn_app, a3 x h1 h2, cn_one, if_pos ⟨h1, h2⟩]
      · exact ⟨_, rs, ⟨rfl, rfl⟩, a1, by omega, 0, by omega, fun _ => rfl, fun x h1 h2 => by rw [a3 x h1 h2]; omega⟩
    · have e1 : gEq (.str k) (.str "lap") = some (.val (.bl false)) := by rw [gEq_lap hk]; simp [hl]
      simp [e1]
      exact ⟨_, rs, ⟨rfl, rfl⟩, a1, by omega, 0, by omega, fun _ => rfl, fun x h1 h2 => by rw [a3 x h1 h2]; omega⟩
  clear a1 a2 a3
  rintro ρ ⟨ds, rs, ex, rfl, a1, a2, e0, ej, a3⟩
  have hpos : 1 ≤ rs.length := by
    have := a3 0 (by omega) (by omega)
    rcases Nat.eq_zero_or_pos rs.length with z | z
    · have : rs = [] := List.eq_nil_of_length_eq_zero z
      subst this
      rw [cn_nil] at *
      omega
    · omega
  have hm : (0 : Int) < rs.length := by omega
  have hd := dr_range (ds := ds) hm
  obtain ⟨t, ht⟩ : ∃ t : Nat, dr ds rs.length = t := ⟨(dr ds rs.length).toNat, by omega⟩
  have htl : t ≤ rs.length := by omega
  refine run_seq_of (P := fun ρ => ρ = [.lst (Js ds.dropLast), .val (.str k), .val (.int size), .lst (Rs rs), .val (.int n), s5, s6, s7, s8, .val (.int t)]) (by simp [c_take hm, ht]) ?_
  rintro ρ rfl
  have ga := gAdd_Rs (a := rs.drop t) (b := rs.take t) (by simp; omega)
  have e1 := cut_Rs rs (some (t : Int)) none
  have e2 := cut_Rs rs none (some (t : Int))
  rw [cut_drop htl] at e1
  rw [cut_take htl] at e2
  simp only [run_ret, ev_lst, ev_consL, ev_nilL, ev_var, List.getElem?_cons_succ, List.getElem?_cons_zero, okx_ok, ev_cold, ev_op, ev_sl, ev_part, ev_noPart, cold_lst, List.set_cons_succ, List.set_cons_zero, e1, e2, ga, opx_some]
  refine ⟨by simp, ?_⟩
  simp
  refine h n (rs.drop t ++ rs.take t) _ ex n1 n3 ((a1.sub fun x hx => List.mem_of_mem_drop hx).append (a1.sub fun x hx => List.mem_of_mem_take hx)) (by simp; omega) (by simp; omega) e0 ej fun x h1 h2 => ?_
  rw [← a3 x h1 h2, cn_app]
  have := cn_app (rs.take t) (rs.drop t) x
  rw [List.take_append_drop] at this
  omega
end L2.Fn
set_option maxRecDepth 100000
set_option maxHeartbeats 4000000
/-! LibQ10: the lots of a stock (printed by p_q10.py). -/
namespace L2.Fn
open PySem PySem.Spec PyProof.Rows L2
@[simp] theorem ev_isTN {f : String → Bool} {j : Nat} {ρ : Slots} {Q : Ex S → Prop} : ev (mIsTN f j) ρ Q ↔ (match ρ[j]? with
    | some (.val d) => opx (gIsT f d) fun s => Q (.ok s ρ)
    | some (.lst _) => Q (.ok (.val (.bl (f "list"))) ρ)
    | _ => False) := by
  unfold mIsTN
  cases h : ρ[j]? with
  | none => unfold ev; simp [h]
  | some s =>
    cases s with
    | val d =>
      have := @ev_opt S ρ (gIsT f d) Q
      unfold ev at this ⊢
      simp only [h]
      exact this
    | lst xs => unfold ev; simp [h]
    | _ => unfold ev; simp [h]
theorem tot_one {α : Type} : ∀ l : List α, tot (fun _ => (1 : Int)) l = l.length
  | [] => rfl
  | a :: l => by rw [tot_cons, tot_one l]; simp; omega
/-- the lots of chains are stocks of size 1 -/
theorem lots_one {k : Str} {size : Int} {rs : List (Int × Int)} {n : Nat} {ex : Int} {P : List Int} {res : List (List Int)} (L : Lots rs size P res) (hl : res.length = n) (e0 : 0 ≤ ex) (ej : k = "join" → ex = 0) (hc : ∀ x : Nat, x < size.toNat → cvS rs P x = n + ex) :
    ∀ l ∈ res, ∀ x : Nat, x < size.toNat → 1 ≤ cvS rs l x ∧ (k = "join" → cvS rs l x = 1) := by
  intro l h x hx
  have hsum := L.cov x
  rw [hc x hx] at hsum
  have h1 := tot_one res
  rw [hl] at h1
  have low : 1 ≤ cvS rs l x := by
    rcases Int.lt_or_le (cvS rs l x) 1 with z | z
    · have := tot_lt (f := fun l => cvS rs l (x : Int)) (g := fun _ => (1 : Int)) (l := res) (a := l) (fun a ha => by have := L.near x hx a ha l h; omega) h z
      rw [hsum, h1] at this
      omega
    · exact z
  refine ⟨low, fun j => ?_⟩
  have j0 := ej j
  rcases Int.lt_or_le 1 (cvS rs l x) with z | z
  · have := tot_lt (f := fun _ => (1 : Int)) (g := fun l => cvS rs l (x : Int)) (l := res) (a := l) (fun a ha => by have := L.near x hx l h a ha; omega) h z
    rw [hsum, h1] at this
    omega
  · omega
theorem x_stock_lots {ds : List Int} {k : Str} {size : Int} {C : CR → Prop} (hk : k ∈ kinds) (hs : 1 ≤ size) (hs2 : size ≤ 8) (h : ∀ ss, C (.ret (.val (.bl true)) ss)) : cal f__law_stock_lots [.lst (Js ds), .val (.str k), .val (.int size)] C := by
  unfold f__law_stock_lots
  rw [cal_def]
  simp only [m__law_stock_lots]
  have hK := cls_KS hk
  refine run_seq_of (P := fun ρ => ∃ (ds : List Int) (n : Nat) (rs : List (Int × Int)) (ex : Int), ρ = [.lst (Js ds), .val (.str k), .val (.int size), .lst [.int n, .lst (Rs rs)], .no, .no, .no, .no, .no, .no, .no, .no] ∧ 1 ≤ n ∧ n ≤ 3 ∧ InRow size rs ∧ rs.length ≤ 25 ∧ 0 ≤ ex ∧ (k = "join" → ex = 0) ∧ ∀ x, 0 ≤ x → x < size → cn rs x = n + ex) ?_ ?_
  · simp
    refine x_chain_stock hk hs hs2 fun n rs ds' ex a1 a2 a3 a4 a5 a6 a7 a8 => ?_
    simp
    exact ⟨_, n, rs, ⟨rfl, rfl, rfl⟩, a1, a2, a3, a4, ex, a6, a7, a8⟩
  rintro ρ ⟨ds, n, rs, ex, rfl, n1, n3, hin, hl, e0, ej, hcn⟩
  have g0 : gIx (.lst [.int n, .lst (Rs rs)]) (.int 0) = some (.int n) := rfl
  have g1 : gIx (.lst [.int n, .lst (Rs rs)]) (.int 1) = some (.lst (Rs rs)) := rfl
  have lr : gLen (.lst (Rs rs)) = some rs.length := by simp [gLen]
  have s0 : sortI [] = [] := by simp [sortI]
  refine run_seq_of (P := fun ρ => ρ = [.lst (Js ds), .val (.str k), .val (.int size), .lst [.int n, .lst (Rs rs)], .val (.int n), .no, .no, .no, .no, .no, .no, .no]) (by simp [g0]) ?_
  rintro ρ rfl
  refine run_seq_of (P := fun ρ => ρ = [.lst (Js ds), .val (.str k), .val (.int size), .lst [.int n, .lst (Rs rs)], .val (.int n), .val (.lst (Rs rs)), .no, .no, .no, .no, .no, .no]) (by simp [g1]) ?_
  rintro ρ rfl
  refine run_seq_of (P := fun ρ => ρ = [.lst (Js ds), .val (.str k), .val (.int size), .lst [.int n, .lst (Rs rs)], .val (.int n), .val (.lst (Rs rs)), .ins (clsOf k) (mkt (clsOf k) size rs []), .no, .no, .no, .no, .no]) ?_ ?_
  · have hb := fun C => c_built (C := C) (gone := []) (dg := .lst []) hk hs (by omega) hin (by omega) (.inl rfl) .nil (fun x hx => by cases hx) (by simp)
    rw [s0] at hb
    simp [hb]
  rintro ρ rfl
  obtain ⟨P, hP⟩ : ∃ P, P = rgI 0 rs.length := ⟨_, rfl⟩
  have aP : Asc P := by rw [hP]; exact rgI_asc _ _
  have iP : In rs.length P := fun p hp => by rw [hP] at hp; have := rgI_mem.mp hp; omega
  have lP : P.length ≤ 25 := by rw [hP, rgI_len]; exact hl
  have cP : ∀ x : Nat, x < size.toNat → cvS rs P x = n + ex := fun x hx => by
    have := cvS_seg (A := []) (M := rs) (B := []) hin x
    rw [← hcn x (by omega) (by omega), ← this, hP]
    simp
  refine run_seq_of (P := fun ρ => ρ = [.lst (Js ds), .val (.str k), .val (.int size), .lst [.int n, .lst (Rs rs)], .val (.int n), .val (.lst (Rs rs)), .ins (clsOf k) (mkt (clsOf k) size rs []), .lst (Js P), .no, .no, .no, .no]) ?_ ?_
  · have g := rgOk_of (i := 0) (j := (rs.length : Int)) (by omega) (by omega) (by omega) (by omega)
    rw [show ((rs.length : Int) - 0).toNat = rs.length by omega, ← hP] at g
    simp [lr, g]
  rintro ρ rfl
  obtain ⟨res, b1, b2, b3⟩ := c_lots (size := size) (gone := []) hK hs (by omega) hin (by omega) n1 (by omega) aP.nd iP
  have L := Lots.of b1 b2 (sortI_perm P)
  have pp : Parts (.lst (Js P)) P := .inl rfl
  have b3' := fun C => b3 _ pp C
  refine run_seq_of (P := fun ρ => ρ = [.lst (Js ds), .val (.str k), .val (.int size), .lst [.int n, .lst (Rs rs)], .val (.int n), .val (.lst (Rs rs)), .val (.obj (clsOf k) (mkt (clsOf k) size rs [])), .val (.lst (Js P)), .lst (res.map tp), .no, .no, .no]) (by simp [b3']) ?_
  rintro ρ rfl
  have cp := fun C => c_parted (C := C) (told := .lst (res.map tp)) (m := rs.length) (.inl rfl) pp aP.nd (by omega) L.asc L.inn L.cnt
  refine run_seq_of (P := fun ρ => ρ = [.lst (Js ds), .val (.str k), .val (.int size), .lst [.int n, .lst (Rs rs)], .val (.int n), .val (.lst (Rs rs)), .val (.obj (clsOf k) (mkt (clsOf k) size rs [])), .val (.lst (Js P)), .lst (res.map tp), .no, .no, .no]) (by simp [b1.len, lr, cp]) ?_
  rintro ρ rfl
  refine run_seq_of (P := fun ρ => ρ = [.lst (Js ds), .val (.str k), .val (.int size), .lst [.int n, .lst (Rs rs)], .val (.int n), .val (.lst (Rs rs)), .val (.obj (clsOf k) (mkt (clsOf k) size rs [])), .val (.lst (Js P)), .lst (res.map tp), .lst (Js []), .no, .no]) (by simp) ?_
  rintro ρ rfl
  refine run_seq_of (P := fun ρ => ρ = [.lst (Js ds), .val (.str k), .val (.int size), .lst [.int n, .lst (Rs rs)], .val (.int n), .val (.lst (Rs rs)), .val (.obj (clsOf k) (mkt (clsOf k) size rs [])), .val (.lst (Js P)), .lst (res.map tp), .lst (Js []), .val (.int 0), .no]) (by simp) ?_
  rintro ρ rfl
  have one := lots_one (k := k) L b1.len e0 ej cP
  have pf := flat_perm (fun l h => (L.asc l h).nd) aP.nd L.cnt
  refine run_seq_of (P := fun ρ => ∃ (ds : List Int) (cs : List Int) (t : Nat) (s11 : S), ρ = [.lst (Js ds), .val (.str k), .val (.int size), .lst [.int n, .lst (Rs rs)], .val (.int n), .val (.lst (Rs rs)), .val (.obj (clsOf k) (mkt (clsOf k) size rs [])), .val (.lst (Js P)), .val (.lst (res.map tp)), .lst (Js cs), .val (.int t), s11] ∧ cs.Sublist res.flatten ∧ ∀ x : Nat, x < size.toNat → (t : Int) ≤ cvS rs cs x ∧ (k = "join" → cvS rs cs x = t)) ?_ ?_
  · simp only [run_for]
    simp [itemsD]
    refine run_loop res (fun done ρ => ∃ (ds : List Int) (cs : List Int) (t : Nat) (s11 : S), ρ = [.lst (Js ds), .val (.str k), .val (.int size), .lst [.int n, .lst (Rs rs)], .val (.int n), .val (.lst (Rs rs)), .val (.obj (clsOf k) (mkt (clsOf k) size rs [])), .val (.lst (Js P)), .val (.lst (res.map tp)), .lst (Js cs), .val (.int t), s11] ∧ cs.Sublist done.flatten ∧ ∀ x : Nat, x < size.toNat → (t : Int) ≤ cvS rs cs x ∧ (k = "join" → cvS rs cs x = t)) ⟨ds, [], 0, .no, rfl, List.Sublist.refl _, fun x _ => ⟨Int.le_refl _, fun _ => rfl⟩⟩ ?_ ?_
    · rintro done l rest ρ e ⟨ds, cs, t, s11, rfl, a1, a2⟩
      have hl' : l ∈ res := by rw [e]; simp
      have hll := range_len (L.asc l hl').nd (L.inn l hl')
      have ks := fun C => c_is_stock (C := C) (gone := []) (d := List.replicate size.toNat 1) (dm := .int 1) (dp := tp l) hk hK hs (by omega) hin (by omega) (.inl ⟨1, rfl, rfl⟩) (.inr rfl) (L.asc l hl').nd (L.inn l hl') (by omega) rfl (fits_of fun i hi' e he => by
        rw [rep_get he]
        exact one l hl' i hi')
      have hcs : cs.length ≤ 25 := by
        have h1 := a1.length_le
        have h2 := congrArg (fun r : List (List Int) => r.flatten.length) e
        have h3 := pf.length_eq
        simp only [List.flatten_append, List.length_append] at h2
        omega
      have gl : gList (tp l) = some (.lst (Js l)) := rfl
      have ga := gAdd_Js (a := cs) (b := l) (by omega)
      simp only [gev_set]
      refine ⟨by simp, ?_⟩
      refine run_seq_of (P := fun ρ => ρ = [.lst (Js ds), .val (.str k), .val (.int size), .lst [.int n, .lst (Rs rs)], .val (.int n), .val (.lst (Rs rs)), .val (.obj (clsOf k) (mkt (clsOf k) size rs [])), .val (.lst (Js P)), .val (.lst (res.map tp)), .lst (Js cs), .val (.int t), .val (tp l)]) (by simp [ks]) ?_
      rintro ρ rfl
      have hd := dr_range (ds := ds) (show (0 : Int) < 2 by omega)
      by_cases hq : dr ds 2 = 1
      · refine run_mono (Q := fun o => o = .nx [.lst (Js ds.dropLast), .val (.str k), .val (.int size), .lst [.int n, .lst (Rs rs)], .val (.int n), .val (.lst (Rs rs)), .val (.obj (clsOf k) (mkt (clsOf k) size rs [])), .val (.lst (Js P)), .val (.lst (res.map tp)), .lst (Js (cs ++ l)), .val (.int ((t + 1 : Nat) : Int)), .val (tp l)]) (by simp [c_take (show (0 : Int) < 2 by omega), hq, gl, ga, -Js_append]) ?_
        rintro o rfl
        refine ⟨ds.dropLast, cs ++ l, t + 1, _, rfl, ?_, fun x hx => ?_⟩
        · rw [List.flatten_append]
          exact a1.append (by simp)
        · have h1 := a2 x hx
          have h2 := one l hl' x hx
          rw [cvS_app]
          refine ⟨by omega, fun j => ?_⟩
          have h3 := h1.2 j
          have h4 := h2.2 j
          omega
      · refine run_mono (Q := fun o => o = .nx [.lst (Js ds.dropLast), .val (.str k), .val (.int size), .lst [.int n, .lst (Rs rs)], .val (.int n), .val (.lst (Rs rs)), .val (.obj (clsOf k) (mkt (clsOf k) size rs [])), .val (.lst (Js P)), .val (.lst (res.map tp)), .lst (Js cs), .val (.int t), .val (tp l)]) (by simp [c_take (show (0 : Int) < 2 by omega), hq]) ?_
        rintro o rfl
        refine ⟨ds.dropLast, cs, t, _, rfl, ?_, a2⟩
        rw [List.flatten_append]
        have := a1.append (List.nil_sublist [l].flatten)
        simpa using this
    · rintro ρ ⟨ds, cs, t, s11, rfl, a1, a2⟩
      exact ⟨_, rfl, ds, cs, t, ⟨s11, rfl⟩, a1, fun x hx => a2 x (by omega)⟩
  rintro ρ ⟨ds, cs, t, s11, rfl, a1, a2⟩
  have ncs : cs.Nodup := List.Pairwise.sublist a1 ((pf.nodup_iff).mpr aP.nd)
  have ics : In rs.length cs := fun p hp => iP p (pf.subset (a1.subset hp))
  have k1 := fun C => c_is_stock (C := C) (gone := []) (d := List.replicate size.toNat (n : Int)) (dm := .int n) (dp := .lst (Js P)) hk hK hs (by omega) hin (by omega) (.inl ⟨n, rfl, rfl⟩) (.inl rfl) aP.nd iP (by omega) rfl (fits_of fun i hi' e he => by
    rw [rep_get he, cP i hi']
    exact ⟨by omega, fun j => by have := ej j; omega⟩)
  have k2 := fun C => c_is_stock (C := C) (gone := []) (d := List.replicate size.toNat (t : Int)) (dm := .int t) (dp := .lst (Js cs)) hk hK hs (by omega) hin (by omega) (.inl ⟨t, rfl, rfl⟩) (.inl rfl) ncs ics (Nat.le_trans (range_len ncs ics) (by omega)) rfl (fits_of fun i hi' e he => by
    rw [rep_get he]
    exact a2 i hi')
  simp [k1, k2]
  exact h _
end L2.Fn
set_option maxRecDepth 100000
set_option maxHeartbeats 4000000
/-! K02p: the law k02, told (printed by p_k02.py). -/
namespace L2.Fn
open PySem PySem.Spec PyProof.Rows L2
theorem strOk_of (s : String) : PyData.strOk (Str.ofString s) = true := by
  rw [Str.ofString_eq_toList]
  unfold PyData.strOk
  rw [Array.all_eq_true]
  intro i hi
  have hi' : i < s.toList.length := by simpa using hi
  have hv := (s.toList[i]).valid
  simp only [UInt32.isValidChar, Nat.isValidChar] at hv
  have : (s.toList[i]).toNat < 0x110000 := by
    show (s.toList[i]).val.toNat < 0x110000
    omega
  simpa using this
theorem strOk_app {a b : Str} (ha : PyData.strOk a = true) (hb : PyData.strOk b = true) : PyData.strOk (a ++ b) = true := by
  unfold PyData.strOk at *
  show ((a.cps ++ b.cps).all fun x => decide (x < 0x110000)) = true
  rw [Array.all_append, ha, hb]
  rfl
theorem numW_eq : numW = ("numberTrueFalse" : Str) := by decide
theorem cut_last {α : Type} {xs : List α} {x : α} : cutL (xs ++ [x]) none (some (-1)) = xs := by
  unfold cutL
  rw [HT.sIx_none]
  have : HT.sIx (xs ++ [x]).length (xs ++ [x]).length (some (-1)) = xs.length := by
    show (if (-1 : Int) < 0 then ((-1 : Int) + ((xs ++ [x]).length : Int)).toNat else min (-1 : Int).toNat (xs ++ [x]).length) = _
    rw [if_pos (by omega)]
    simp
    omega
  rw [this]
  simp
theorem x_law2 (ns : List Int) (hns : ns.length ≤ 63) (C : CR → Prop) (h : ∀ ss, C (.ret (.val (.bl true)) ss)) : cal f_law_v2 [.val (.scr (Js ns))] C := by
  unfold f_law_v2
  rw [cal_def]
  simp only [m_law_v2]
  have em : f__law_market_v2 = f__law_market := rfl
  refine run_seq_of (P := fun ρ => ∃ ds : List Int, ρ = [.val (.scr (Js ns)), .lst (Js ds), .no, .no, .no, .no, .no, .no, .no, .no, .no, .no, .no, .no, .no]) ?_ ?_
  · simp
    refine s_draws ns hns _ fun ds ss _ => ?_
    simp
    exact ⟨ds, rfl⟩
  rintro ρ ⟨ds, rfl⟩
  refine run_seq_of (P := fun ρ => ∃ (ds : List Int) (k : Str), ρ = [.val (.scr (Js ns)), .lst (Js ds), .val (.str k), .no, .no, .no, .no, .no, .no, .no, .no, .no, .no, .no, .no] ∧ k ∈ kinds) ?_ ?_
  · simp
    refine x_kind fun k ds' hk => ?_
    simp
    exact ⟨_, _, ⟨rfl, rfl⟩, hk⟩
  rintro ρ ⟨ds, k, rfl, hk⟩
  have hK := cls_KS hk
  refine run_seq_of (P := fun ρ => ∃ (ds : List Int) (size : Int) (rs : List (Int × Int)) (gone : List Int), ρ = [.val (.scr (Js ns)), .lst (Js ds), .val (.str k), .lst [.int size, .lst (Rs rs), .lst (Js gone)], .no, .no, .no, .no, .no, .no, .no, .no, .no, .no, .no] ∧ 1 ≤ size ∧ size ≤ 8 ∧ InRow size rs ∧ rs.length ≤ 9 ∧ gone.Nodup ∧ (∀ x ∈ gone, 0 ≤ x ∧ x < (rs.length : Int)) ∧ gone.length ≤ 1) ?_ ?_
  · simp only [em]
    simp
    refine x_market (most := 9) (by omega) fun size rs gone ds' a1 a2 a3 a4 a5 a6 a7 => ?_
    simp
    exact ⟨_, size, rs, gone, ⟨rfl, rfl, rfl, rfl⟩, a1, a2, a3, a4, a5, a6, a7⟩
  rintro ρ ⟨ds, size, rs, gone, rfl, hs, hs2, hin, a4, a5, a6, a7⟩
  have g0 : gIx (.lst [.int size, .lst (Rs rs), .lst (Js gone)]) (.int 0) = some (.int size) := rfl
  have g1 : gIx (.lst [.int size, .lst (Rs rs), .lst (Js gone)]) (.int 1) = some (.lst (Rs rs)) := rfl
  have g2 : gIx (.lst [.int size, .lst (Rs rs), .lst (Js gone)]) (.int 2) = some (.lst (Js gone)) := rfl
  have lr : gLen (.lst (Rs rs)) = some rs.length := by simp [gLen]
  refine run_seq_of (P := fun ρ => ρ = [.val (.scr (Js ns)), .lst (Js ds), .val (.str k), .lst [.int size, .lst (Rs rs), .lst (Js gone)], .val (.int size), .no, .no, .no, .no, .no, .no, .no, .no, .no, .no]) (by simp [g0]) ?_
  rintro ρ rfl
  refine run_seq_of (P := fun ρ => ρ = [.val (.scr (Js ns)), .lst (Js ds), .val (.str k), .lst [.int size, .lst (Rs rs), .lst (Js gone)], .val (.int size), .val (.lst (Rs rs)), .no, .no, .no, .no, .no, .no, .no, .no, .no]) (by simp [g1]) ?_
  rintro ρ rfl
  refine run_seq_of (P := fun ρ => ρ = [.val (.scr (Js ns)), .lst (Js ds), .val (.str k), .lst [.int size, .lst (Rs rs), .lst (Js gone)], .val (.int size), .val (.lst (Rs rs)), .ins (clsOf k) (mkt (clsOf k) size rs (sortI gone)), .no, .no, .no, .no, .no, .no, .no, .no]) ?_ ?_
  · have hb := fun C => c_built (C := C) (gone := gone) (dg := .lst (Js gone)) hk hs (by omega) hin (by omega) (.inl rfl) a5 a6 (by omega)
    have gl : gList (.lst (Rs rs)) = some (.lst (Rs rs)) := rfl
    simp [g2, gl, hb]
  rintro ρ rfl
  refine run_seq_of (P := fun ρ => ∃ (ds P : List Int), ρ = [.val (.scr (Js ns)), .lst (Js ds), .val (.str k), .lst [.int size, .lst (Rs rs), .lst (Js gone)], .val (.int size), .val (.lst (Rs rs)), .ins (clsOf k) (mkt (clsOf k) size rs (sortI gone)), .lst (Js P), .no, .no, .no, .no, .no, .no, .no] ∧ Asc P ∧ In rs.length P) ?_ ?_
  · simp [lr]
    refine x_parts (by omega) (by omega) fun l ds' b1 b2 => ?_
    simp
    exact ⟨_, l, ⟨rfl, rfl⟩, b1, b2⟩
  rintro ρ ⟨ds, P, rfl, b1, b2⟩
  refine run_seq_of (P := fun ρ => ∃ (ds P : List Int), ρ = [.val (.scr (Js ns)), .lst (Js ds), .val (.str k), .lst [.int size, .lst (Rs rs), .lst (Js gone)], .val (.int size), .val (.lst (Rs rs)), .ins (clsOf k) (mkt (clsOf k) size rs (sortI gone)), .lst (Js P), .no, .no, .no, .no, .no, .no, .no] ∧ Asc P ∧ In rs.length P) ?_ ?_
  · by_cases q : dr ds 4 = 0
    · have g := rgOk_of (i := 0) (j := (rs.length : Int)) (by omega) (by omega) (by omega) (by omega)
      rw [show ((rs.length : Int) - 0).toNat = rs.length by omega] at g
      simp [c_take (show (0 : Int) < 4 by omega), q, lr, g]
      exact ⟨_, rgI 0 rs.length, ⟨rfl, rfl⟩, rgI_asc _ _, fun p hp => (by have := rgI_mem.mp hp; omega)⟩
    · simp [c_take (show (0 : Int) < 4 by omega), q]
      exact ⟨_, P, ⟨rfl, rfl⟩, b1, b2⟩
  clear b1 b2
  rintro ρ ⟨ds, P, rfl, aP, iP⟩
  have lP := range_len aP.nd iP
  refine run_seq_of (P := fun ρ => ∃ (ds : List Int) (n : Nat), ρ = [.val (.scr (Js ns)), .lst (Js ds), .val (.str k), .lst [.int size, .lst (Rs rs), .lst (Js gone)], .val (.int size), .val (.lst (Rs rs)), .ins (clsOf k) (mkt (clsOf k) size rs (sortI gone)), .lst (Js P), .val (.int n), .no, .no, .no, .no, .no, .no] ∧ 1 ≤ n ∧ n ≤ 6) ?_ ?_
  · have hd := dr_range (ds := ds) (show (0 : Int) < 6 by omega)
    simp [c_take (show (0 : Int) < 6 by omega)]
    exact ⟨_, (1 + dr ds 6).toNat, ⟨rfl, by omega⟩, by omega, by omega⟩
  rintro ρ ⟨ds, n, rfl, n1, n6⟩
  have glP : gList (.lst (Js P)) = some (.lst (Js P)) := rfl
  have lPd : gLen (.lst (Js P)) = some P.length := by simp [gLen]
  refine run_seq_of (P := fun ρ => ρ = [.val (.scr (Js ns)), .lst (Js ds), .val (.str k), .lst [.int size, .lst (Rs rs), .lst (Js gone)], .val (.int size), .val (.lst (Rs rs)), .ins (clsOf k) (mkt (clsOf k) size rs (sortI gone)), .val (.lst (Js P)), .val (.int n), .lst (Js P), .no, .no, .no, .no, .no]) (by simp [glP]) ?_
  rintro ρ rfl
  have pl : Parts (.lst (Js P)) P := .inl rfl
  have pt : Parts (tp P) P := .inr rfl
  obtain ⟨A, B, h1, h2, h3, h4, h5, ch⟩ := c_halvesP (size := size) (gone := sortI gone) hK (by omega) hin (by omega) aP.nd iP
  have L0 := Lots.two (size := size) h1 h2 h3 h4 h5
  have ch' := fun C => ch _ pl C
  refine run_seq_of (P := fun ρ => ρ = [.val (.scr (Js ns)), .lst (Js ds), .val (.str k), .lst [.int size, .lst (Rs rs), .lst (Js gone)], .val (.int size), .val (.lst (Rs rs)), .val (.obj (clsOf k) (mkt (clsOf k) size rs (sortI gone))), .val (.lst (Js P)), .val (.int n), .val (.lst (Js P)), .val (.tup [tp A, tp B]), .no, .no, .no, .no]) (by simp [ch']) ?_
  rintro ρ rfl
  have ht0 : Told (.val (.tup [tp A, tp B])) [A, B] := .inr ⟨_, rfl, rfl, rfl⟩
  have cp0 := fun C => c_parted (C := C) (m := rs.length) ht0 pl aP.nd (by omega) L0.asc L0.inn L0.cnt
  have ce0 := fun C => c_even (C := C) hs (by omega) hin (by omega) ht0 pl aP.nd iP (by simp) (by simp) L0.asc L0.inn L0.cov L0.near
  have l2 : gLen (.tup [tp A, tp B]) = some 2 := rfl
  refine run_seq_of (P := fun ρ => ρ = [.val (.scr (Js ns)), .lst (Js ds), .val (.str k), .lst [.int size, .lst (Rs rs), .lst (Js gone)], .val (.int size), .val (.lst (Rs rs)), .val (.obj (clsOf k) (mkt (clsOf k) size rs (sortI gone))), .val (.lst (Js P)), .val (.int n), .val (.lst (Js P)), .val (.tup [tp A, tp B]), .no, .no, .no, .no]) (by simp [l2, lr, cp0]) ?_
  rintro ρ rfl
  refine run_seq_of (P := fun ρ => ρ = [.val (.scr (Js ns)), .lst (Js ds), .val (.str k), .lst [.int size, .lst (Rs rs), .lst (Js gone)], .val (.int size), .val (.lst (Rs rs)), .val (.obj (clsOf k) (mkt (clsOf k) size rs (sortI gone))), .val (.lst (Js P)), .val (.int n), .val (.lst (Js P)), .val (.tup [tp A, tp B]), .no, .no, .no, .no]) (by simp [ce0]) ?_
  rintro ρ rfl
  obtain ⟨r1, i1, i2, i3⟩ := c_lots (size := size) (gone := sortI gone) hK hs (by omega) hin (by omega) n1 (by omega) aP.nd iP
  have L1 := Lots.of i1 i2 (sortI_perm P)
  have i3' := fun C => i3 _ pl C
  refine run_seq_of (P := fun ρ => ρ = [.val (.scr (Js ns)), .lst (Js ds), .val (.str k), .lst [.int size, .lst (Rs rs), .lst (Js gone)], .val (.int size), .val (.lst (Rs rs)), .val (.obj (clsOf k) (mkt (clsOf k) size rs (sortI gone))), .val (.lst (Js P)), .val (.int n), .val (.lst (Js P)), .val (.tup [tp A, tp B]), .lst (r1.map tp), .no, .no, .no]) (by simp [i3']) ?_
  rintro ρ rfl
  have ht1 : Told (.lst (r1.map tp)) r1 := .inl rfl
  have cp1 := fun C => c_parted (C := C) (m := rs.length) ht1 pl aP.nd (by omega) L1.asc L1.inn L1.cnt
  have ce1 := fun C => c_even (C := C) hs (by omega) hin (by omega) ht1 pl aP.nd iP (by rw [i1.len]; exact n1) (by rw [i1.len]; omega) L1.asc L1.inn L1.cov L1.near
  refine run_seq_of (P := fun ρ => ρ = [.val (.scr (Js ns)), .lst (Js ds), .val (.str k), .lst [.int size, .lst (Rs rs), .lst (Js gone)], .val (.int size), .val (.lst (Rs rs)), .val (.obj (clsOf k) (mkt (clsOf k) size rs (sortI gone))), .val (.lst (Js P)), .val (.int n), .val (.lst (Js P)), .val (.tup [tp A, tp B]), .lst (r1.map tp), .no, .no, .no]) (by simp [i1.len, lr, cp1]) ?_
  rintro ρ rfl
  have nP : gNe (.lst (Js P)) (.lst (Js P)) = some (.val (.bl false)) := gNe_self (sh_Jl (k := 59))
  refine run_seq_of (P := fun ρ => ρ = [.val (.scr (Js ns)), .lst (Js ds), .val (.str k), .lst [.int size, .lst (Rs rs), .lst (Js gone)], .val (.int size), .val (.lst (Rs rs)), .val (.obj (clsOf k) (mkt (clsOf k) size rs (sortI gone))), .val (.lst (Js P)), .val (.int n), .val (.lst (Js P)), .val (.tup [tp A, tp B]), .lst (r1.map tp), .no, .no, .no]) (by simp [ce1, nP]) ?_
  rintro ρ rfl
  have hsz : r1.length < sizeLine := lt_size (by rw [i1.len]; omega)
  refine run_seq_of (P := fun ρ => ρ = [.val (.scr (Js ns)), .lst (Js ds), .val (.str k), .lst [.int size, .lst (Rs rs), .lst (Js gone)], .val (.int size), .val (.lst (Rs rs)), .val (.obj (clsOf k) (mkt (clsOf k) size rs (sortI gone))), .val (.lst (Js P)), .val (.int n), .val (.lst (Js P)), .val (.tup [tp A, tp B]), .lst ((r1 ++ [[]]).map tp), .no, .no, .no]) (by simp [hsz, tp]) ?_
  rintro ρ rfl
  have gtP : gTuple (.lst (Js P)) = some (.val (tp P)) := rfl
  have i3t := fun C => i3 _ pt C
  refine run_seq_of (P := fun ρ => ρ = [.val (.scr (Js ns)), .lst (Js ds), .val (.str k), .lst [.int size, .lst (Rs rs), .lst (Js gone)], .val (.int size), .val (.lst (Rs rs)), .val (.obj (clsOf k) (mkt (clsOf k) size rs (sortI gone))), .val (.lst (Js P)), .val (.int n), .val (.lst (Js P)), .val (.tup [tp A, tp B]), .lst ((r1 ++ [[]]).map tp), .lst (r1.map tp), .no, .no]) (by simp [gtP, i3t]) ?_
  rintro ρ rfl
  have sh1 : ∀ x ∈ r1.map tp, Sh 59 x := fun x hx => by
    obtain ⟨l, _, rfl⟩ := List.mem_map.mp hx
    exact sh_tp (k := 58)
  have nr1 : gNe (.lst (r1.map tp)) (.lst (r1.map tp)) = some (.val (.bl false)) := gNe_self (sh_lst (k := 59) sh1)
  have ecut : cutD ((r1 ++ [[]]).map tp) none (some (-1)) = r1.map tp := by
    rw [List.map_append]
    have : cutD (r1.map tp ++ [tp []]) none (some (-1)) = cutL (r1.map tp ++ [tp []]) none (some (-1)) := rfl
    show cutD (r1.map tp ++ [tp []]) none (some (-1)) = _
    rw [this, cut_last]
  refine run_seq_of (P := fun ρ => ρ = [.val (.scr (Js ns)), .lst (Js ds), .val (.str k), .lst [.int size, .lst (Rs rs), .lst (Js gone)], .val (.int size), .val (.lst (Rs rs)), .val (.obj (clsOf k) (mkt (clsOf k) size rs (sortI gone))), .val (.lst (Js P)), .val (.int n), .val (.lst (Js P)), .val (.tup [tp A, tp B]), .val (.lst ((r1 ++ [[]]).map tp)), .val (.lst (r1.map tp)), .no, .no]) ?_ ?_
  · simp only [run_if, ev_test, ev_op, ev_var, ev_cold, ev_sl, ev_noPart, ev_part, ev_un, ev_ret, okx_ok, List.getElem?_cons_succ, List.getElem?_cons_zero, List.set_cons_succ, List.set_cons_zero, cold_lst, gNeg_int, opx_some, ecut, nr1]
    simp
  rintro ρ rfl
  refine run_seq_of (P := fun ρ => ρ = [.val (.scr (Js ns)), .lst (Js ds), .val (.str k), .lst [.int size, .lst (Rs rs), .lst (Js gone)], .val (.int size), .val (.lst (Rs rs)), .val (.obj (clsOf k) (mkt (clsOf k) size rs (sortI gone))), .val (.lst (Js P)), .val (.int n), .val (.lst (Js P)), .val (.tup [tp A, tp B]), .val (.lst ((r1 ++ [[]]).map tp)), .val (.lst (r1.map tp)), .no, .no]) ?_ ?_
  · simp
    refine c_turned_right hK hs (by omega) hin (by omega) n1 (by omega) aP.nd iP fun ss => ?_
    simp
  rintro ρ rfl
  obtain ⟨r3, j1, j2, j3⟩ := c_lots (size := size) (gone := sortI gone) hK hs (by omega) hin (by omega) (n := 1) (by omega) (by omega) aP.nd iP
  have er3 : r3 = [P] := by
    obtain ⟨l, rfl⟩ := List.length_eq_one_iff.mp j1.len
    have hm : ∀ p, p ∈ l ↔ p ∈ P := fun p => by
      have := j1.cnt p
      simp only [tot_cons, tot_nil, mem_sort] at this
      by_cases u : p ∈ l <;> by_cases v : p ∈ P <;> simp [bi, u, v] at this ⊢
    rw [asc_ext (j1.asc l (by simp)) aP hm]
  have j3' := fun C => j3 _ pl C
  rw [er3] at j3'
  have e1n : ((1 : Nat) : Int) = 1 := rfl
  rw [e1n] at j3'
  refine run_seq_of (P := fun ρ => ρ = [.val (.scr (Js ns)), .lst (Js ds), .val (.str k), .lst [.int size, .lst (Rs rs), .lst (Js gone)], .val (.int size), .val (.lst (Rs rs)), .val (.obj (clsOf k) (mkt (clsOf k) size rs (sortI gone))), .val (.lst (Js P)), .val (.int n), .val (.lst (Js P)), .val (.tup [tp A, tp B]), .val (.lst ((r1 ++ [[]]).map tp)), .val (.lst (r1.map tp)), .lst [tp P], .no]) (by simp [j3']) ?_
  rintro ρ rfl
  have nPt : gNe (.lst [tp P]) (.lst [tp P]) = some (.val (.bl false)) := gNe_self (sh_lst (k := 59) (fun x hx => by rw [List.mem_singleton.mp hx]; exact sh_tp (k := 58)))
  have cc := fun C => c_coverS (C := C) (gone := sortI gone) hK hs (by omega) hin (by omega) pl aP.nd iP
  rw [covs_sort] at cc
  have cl := fun C => c_law_coverP (C := C) pl hs (by omega) hin iP
  have gtc : gTuple (.lst (Js (covs size rs P))) = some (.val (tp (covs size rs P))) := rfl
  have nc : gNe (tp (covs size rs P)) (tp (covs size rs P)) = some (.val (.bl false)) := gNe_self (sh_tp (k := 59))
  refine run_seq_of (P := fun ρ => ρ = [.val (.scr (Js ns)), .lst (Js ds), .val (.str k), .lst [.int size, .lst (Rs rs), .lst (Js gone)], .val (.int size), .val (.lst (Rs rs)), .val (.obj (clsOf k) (mkt (clsOf k) size rs (sortI gone))), .val (.lst (Js P)), .val (.int n), .val (.lst (Js P)), .val (.tup [tp A, tp B]), .val (.lst ((r1 ++ [[]]).map tp)), .val (.lst (r1.map tp)), .val (.lst [tp P]), .no]) (by simp [gtP, nPt, cc, cl, gtc, nc]) ?_
  rintro ρ rfl
  refine run_seq_of (P := fun ρ => ∃ (ds : List Int) (w : D), ρ = [.val (.scr (Js ns)), .lst (Js ds), .val (.str k), .lst [.int size, .lst (Rs rs), .lst (Js gone)], .val (.int size), .val (.lst (Rs rs)), .val (.obj (clsOf k) (mkt (clsOf k) size rs (sortI gone))), .val (.lst (Js P)), .val (.int n), .val (.lst (Js P)), .val (.tup [tp A, tp B]), .val (.lst ((r1 ++ [[]]).map tp)), .val (.lst (r1.map tp)), .val (.lst [tp P]), .val w] ∧ BadW w) ?_ ?_
  · have hd := dr_range (ds := ds) (show (0 : Int) < 5 by omega)
    have h5 : dr ds 5 = 0 ∨ dr ds 5 = 1 ∨ dr ds 5 = 2 ∨ dr ds 5 = 3 ∨ dr ds 5 = 4 := by omega
    have gi : ∃ w, gIx (.lst [.int 0, .int (-1), .int 51, .non, .bl true]) (.int (dr ds 5)) = some w ∧ BadW w := by
      rcases h5 with h | h | h | h | h <;> rw [h]
      · exact ⟨_, rfl, .inl ⟨0, rfl, by omega⟩⟩
      · exact ⟨_, rfl, .inl ⟨-1, rfl, by omega⟩⟩
      · exact ⟨_, rfl, .inl ⟨51, rfl, by omega⟩⟩
      · exact ⟨_, rfl, .inr (.inl rfl)⟩
      · exact ⟨_, rfl, .inr (.inr ⟨true, rfl⟩)⟩
    obtain ⟨w, gw, bw⟩ := gi
    have l5 : (5 : Nat) ≤ sizeLine := le_size (by omega)
    simp [c_take (show (0 : Int) < 5 by omega), gw, l5]
    exact ⟨_, w, ⟨rfl, rfl⟩, bw⟩
  rintro ρ ⟨ds, w, rfl, bw⟩
  have nW : gNe (.str numW) (.str "numberTrueFalse") = some (.val (.bl false)) := by
    rw [numW_eq]
    exact gNe_self (sh_str (strOk_of _))
  refine run_seq_of (P := fun ρ => ρ = [.val (.scr (Js ns)), .lst (Js ds), .val (.str k), .lst [.int size, .lst (Rs rs), .lst (Js gone)], .val (.int size), .val (.lst (Rs rs)), .val (.obj (clsOf k) (mkt (clsOf k) size rs (sortI gone))), .val (.lst (Js P)), .val (.int n), .val (.lst (Js P)), .val (.tup [tp A, tp B]), .val (.lst ((r1 ++ [[]]).map tp)), .val (.lst (r1.map tp)), .val (.lst [tp P]), .val w]) ?_ ?_
  · simp
    refine x_number_refused (x_lots_badnum hK pl aP.nd iP (by omega) bw) fun ss => ?_
    simp [nW]
  rintro ρ rfl
  have ga := gAdd_Jsd (a := P) (d := .int (rs.length : Int)) (by omega)
  have gs := gStr1_nat (n := P.length) (by omega)
  have gset : gAdd (.str "set") (.str (strN P.length)) = some (.val (.str (setW P.length))) := gAdd_str (by
    have h1 := strN_len P.length
    have h2 : ("set" : Str).length = 3 := by decide
    rw [h2]
    omega)
  have nS : gNe (.str (setW P.length)) (.str (setW P.length)) = some (.val (.bl false)) := gNe_self (sh_str (strOk_app (strOk_of _) (strOk_of _)))
  refine run_seq_of (P := fun ρ => ρ = [.val (.scr (Js ns)), .lst (Js ds), .val (.str k), .lst [.int size, .lst (Rs rs), .lst (Js gone)], .val (.int size), .val (.lst (Rs rs)), .val (.obj (clsOf k) (mkt (clsOf k) size rs (sortI gone))), .val (.lst (Js P)), .val (.int n), .val (.lst (Js P)), .val (.tup [tp A, tp B]), .val (.lst ((r1 ++ [[]]).map tp)), .val (.lst (r1.map tp)), .val (.lst [tp P]), .val w]) ?_ ?_
  · simp [ga, lr]
    refine x_set_refused (n := P.length) (by omega) (x_lots_badset hK (.inr ⟨rs.length, rfl, .inr (by omega)⟩) aP.nd iP (by omega)) fun ss => ?_
    simp [lPd, gs, gset, nS]
  rintro ρ rfl
  simp
  refine x_stock_lots hk hs hs2 fun ss => ?_
  simp
  exact h _
theorem k02_plain (ns : List Int) (h : ns.length ≤ 63) : ∃ ss, L2.Fn.f_law_v2 [.val (.scr (ns.map D.int))] = some (.ret (.val (.bl true)) ss) := by
  obtain ⟨r, h1, ss, rfl⟩ := x_law2 ns h (fun c => ∃ ss, c = .ret (.val (.bl true)) ss) fun ss => ⟨ss, rfl⟩
  exact ⟨ss, h1⟩
end L2.Fn
set_option maxRecDepth 100000
set_option maxHeartbeats 0
open PySem PySem.W PySem.Calls PyProof.Rows L2.Fn
theorem k02_join (hlaw : ∀ ns : List Int, ns.length ≤ 63 → ∃ ss, L2.Fn.f_law_v2 [.val (.scr (ns.map D.int))] = some (.ret (.val (.bl true)) ss)) : PySem.Challenge.rw_keptparts_k02_halves_and_lots.Holds := by
  w_on; o_law
  refine HandSHeadRun.head_any (r := OpenLaw.row PySem.Challenge.rw_keptparts_k02_halves_and_lots) (q := view (OpenLaw.row PySem.Challenge.rw_keptparts_k02_halves_and_lots).prog [62]) (H := K02.hk) (ob := K02.ob) (M := 20000) (loose := K02.names) (d := HandSHeadRun.topDef (OpenLaw.row PySem.Challenge.rw_keptparts_k02_halves_and_lots).prog 62) (kwd := []) K02.ob_eq
    (by kernel_rfl) (fun s => by kernel_rfl) K02.run (by kernel_rfl) (by kernel_rfl) (by kernel_rfl) (by rfl) (by first | assumption | decide +kernel) (by decide +kernel) ⟨rfl, rfl, rfl, rfl, rfl, by decide +kernel⟩ ?hw ?hc
  case hw => w_witness2
  case hc =>
    refine L2.walk_ofE (l := PySem.Challenge.rw_keptparts_k02_halves_and_lots) (n := 63) (k := 10) (x := "_law_script") (CX := L2.CX0) rfl (by decide) (by kernel_rfl) ⟨rfl, by decide, by decide⟩ ?F (fun _ _ _ _ z => z)
    intro w mg fa h Y G hmg0
    obtain ⟨K, KX, c⟩ := Y
    have hmg : mg ("law" : PySem.Str) = some (.ref fa) := by
      have e : (HandSHeadRun.topDef (OpenLaw.row PySem.Challenge.rw_keptparts_k02_halves_and_lots).prog 62).name = ("law" : PySem.Str) := by kernel_rfl
      rw [← e]
      exact hmg0
    have e := hmg.symm.trans (He.glo_ok KX G (c.d.fact 36 (f := .glo "law") rfl))
    cases e
    obtain ⟨fd, hb, hF⟩ := K02.asm (w := w) KX G c
    refine ⟨K, fd, spNo (spOf K (cmOf K) 1 f_law_v2), KX, hb, fun H a ns hl _ hS => ?_, fun base hK hN => fn_cx0 (hF base hK hN)⟩
    obtain ⟨ss, hs⟩ := hlaw ns hl
    exact law_sp hS hs

set_option maxRecDepth 100000 in
set_option maxHeartbeats 0 in
theorem PySem.Challenge.cw_keptparts_k02_halves_and_lots_holds : PySem.Challenge.rw_keptparts_k02_halves_and_lots.Holds := by
  exact k02_join L2.Fn.k02_plain
