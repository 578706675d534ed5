import PyProof.Rows.All
import Wide.All
import OpenK.AllK
import Wide.FinOn
import HandS.ForMost
import HandS.Exc
import HandS.TryMany
import HandS.CallSlots
import HandS.WordsExc
import HandS.ExcInit
import HandS.Defaults
import HandS.NoneIn
import HandS.ExcOwn
import HandS.IsInst
import HandS.Star
import HandS.SortInts
import HandS.Conv
import HandS.DictComp
import HandS.ExcField
import HandS.ExcIs
import KE.KExcIs
import KE.KSuper
import HandS.MakeKwOnly
import HandS.MakeKw
import KE.GoesMore
import HandS.Iter
import HandS.TupSets
import HandS.HeadHook4
import HandS.HeadEnd
import HandS.Head0
import HandS.Head1
import HandS.Head2
import HandS.Sort
import KE.KIsAll
import HandS.SlotsOwn
import HandS.GenBody
import PyProof.GenComp
import PyProof.ForAny
import HandS.GenYield
import HandS.GenCall
import HandS.GenList
import HandS.TupLe
import HandS.FStr
import HandS.Text
import KE.KIntText
import HandS.RaiseFrom
import HandS.OwnEq
import PySem.Challenge.RW_keptparts_k01_texts_and_back
set_option Elab.async false
set_option linter.all false
set_option maxRecDepth 100000
set_option maxHeartbeats 4000000
/-! FnA: plain data, what it is in the heap, the slots of a def, what changes. -/
namespace L2.Fn
open PySem PySem.Spec PyProof.Rows L2

inductive D where
  | non
  | bl (b : Bool)
  | int (i : Int)
  | str (x : Str)
  | tup (xs : List D)
  | ktp (xs : List D)
  | lst (xs : List D)
  | scr (xs : List D)
  | dK (kvs : List (Key × D))
  | dT (kvs : List (List Key × D))
  | obj (C : Str) (fs : List (Str × D))
  | rng (lo hi : Int)
  deriving Inhabited

section
variable (K : PySem.W.Frag) (cm : Str → Addr) (F : Hp)
mutual
inductive Rep : V → D → Prop where
  | non : Rep .non .non
  | bl {b} : Rep (.bl b) (.bl b)
  | int {i} : Rep (.int i) (.int i)
  | str {x} : Rep (.str x) (.str x)
  | tup {a vs xs} : F a = some (.tup vs) → RepL vs xs → Rep (.ref a) (.tup xs)
  | ktp {a vs xs} : SqT K F a vs → RepL vs xs → Rep (.ref a) (.ktp xs)
  | lst {a vs xs} : F a = some (.lst vs) → RepL vs xs → Rep (.ref a) (.lst xs)
  | scr {a vs xs} : SqL K F a vs → RepL vs xs → Rep (.ref a) (.scr xs)
  | dK {a vs xs} : F a = some (.dK vs) → RepK vs xs → Rep (.ref a) (.dK xs)
  | dT {a vs xs} : F a = some (.dT vs) → RepT vs xs → Rep (.ref a) (.dT xs)
  | obj {a C dx vs fs} : F a = some (.ins (cm C) dx vs) → RepF vs fs → Rep (.ref a) (.obj C fs)
  | rng {a lo hi} : F a = some (.rng lo hi) → Rep (.ref a) (.rng lo hi)
inductive RepL : List V → List D → Prop where
  | nil : RepL [] []
  | cons {v d vs ds} : Rep v d → RepL vs ds → RepL (v :: vs) (d :: ds)
inductive RepK : List (Key × V) → List (Key × D) → Prop where
  | nil : RepK [] []
  | cons {k v d vs ds} : Rep v d → RepK vs ds → RepK ((k, v) :: vs) ((k, d) :: ds)
inductive RepT : List (List Key × V) → List (List Key × D) → Prop where
  | nil : RepT [] []
  | cons {k v d vs ds} : Rep v d → RepT vs ds → RepT ((k, v) :: vs) ((k, d) :: ds)
inductive RepF : List (Str × V) → List (Str × D) → Prop where
  | nil : RepF [] []
  | cons {k v d vs ds} : Rep v d → RepF vs ds → RepF ((k, v) :: vs) ((k, d) :: ds)
end
end

section
variable {K : PySem.W.Frag} {cm : Str → Addr} {F F' : Hp}
theorem SqT.mono (m : ∀ a o, F a = some o → F' a = some o) {a : Addr} {xs : List V} (h : SqT K F a xs) : SqT K F' a xs := by
  rcases h with (h | ⟨o, h⟩) | h
  · exact .inl (.inl (m _ _ h))
  · exact .inl (.inr ⟨o, m _ _ h⟩)
  · exact .inr h
theorem SqL.mono (m : ∀ a o, F a = some o → F' a = some o) {a : Addr} {xs : List V} (h : SqL K F a xs) : SqL K F' a xs := by
  rcases h with (h | ⟨o, h⟩) | h
  · exact .inl (.inl (m _ _ h))
  · exact .inl (.inr ⟨o, m _ _ h⟩)
  · exact .inr h
mutual
theorem Rep.mono (m : ∀ a o, F a = some o → F' a = some o) {v : V} {d : D} : Rep K cm F v d → Rep K cm F' v d
  | .non => .non
  | .bl => .bl
  | .int => .int
  | .str => .str
  | .tup h r => .tup (m _ _ h) (RepL.mono m r)
  | .ktp h r => .ktp (SqT.mono m h) (RepL.mono m r)
  | .lst h r => .lst (m _ _ h) (RepL.mono m r)
  | .scr h r => .scr (SqL.mono m h) (RepL.mono m r)
  | .dK h r => .dK (m _ _ h) (RepK.mono m r)
  | .dT h r => .dT (m _ _ h) (RepT.mono m r)
  | .obj h r => .obj (m _ _ h) (RepF.mono m r)
  | .rng h => .rng (m _ _ h)
theorem RepL.mono (m : ∀ a o, F a = some o → F' a = some o) {v : List V} {d : List D} : RepL K cm F v d → RepL K cm F' v d
  | .nil => .nil
  | .cons h r => .cons (Rep.mono m h) (RepL.mono m r)
theorem RepK.mono (m : ∀ a o, F a = some o → F' a = some o) {v : List (Key × V)} {d : List (Key × D)} : RepK K cm F v d → RepK K cm F' v d
  | .nil => .nil
  | .cons h r => .cons (Rep.mono m h) (RepK.mono m r)
theorem RepT.mono (m : ∀ a o, F a = some o → F' a = some o) {v : List (List Key × V)} {d : List (List Key × D)} : RepT K cm F v d → RepT K cm F' v d
  | .nil => .nil
  | .cons h r => .cons (Rep.mono m h) (RepT.mono m r)
theorem RepF.mono (m : ∀ a o, F a = some o → F' a = some o) {v : List (Str × V)} {d : List (Str × D)} : RepF K cm F v d → RepF K cm F' v d
  | .nil => .nil
  | .cons h r => .cons (Rep.mono m h) (RepF.mono m r)
end
theorem RepL.length {vs : List V} {ds : List D} (h : RepL K cm F vs ds) : vs.length = ds.length := by
  induction vs generalizing ds with
  | nil => cases h; rfl
  | cons v vs ih => cases h with | cons a b => simp [ih b]
theorem RepL.get {vs : List V} {ds : List D} (h : RepL K cm F vs ds) {i : Nat} {d : D} (e : ds[i]? = some d) : ∃ v, vs[i]? = some v ∧ Rep K cm F v d := by
  induction vs generalizing ds i with
  | nil => cases h; simp at e
  | cons v vs ih =>
    cases h with
    | cons a b =>
      cases i with
      | zero => simp at e; subst e; exact ⟨v, by simp, a⟩
      | succ i => simp at e; obtain ⟨v', h1, h2⟩ := ih b e; exact ⟨v', by simpa using h1, h2⟩
theorem RepL.append {vs ws : List V} {ds es : List D} (h : RepL K cm F vs ds) (g : RepL K cm F ws es) : RepL K cm F (vs ++ ws) (ds ++ es) := by
  induction vs generalizing ds with
  | nil => cases h; exact g
  | cons v vs ih => cases h with | cons a b => exact .cons a (ih b)
theorem RepL.one {v : V} {d : D} (h : Rep K cm F v d) : RepL K cm F [v] [d] := .cons h .nil
theorem RepL.take {vs : List V} {ds : List D} (h : RepL K cm F vs ds) (n : Nat) : RepL K cm F (vs.take n) (ds.take n) := by
  induction vs generalizing ds n with
  | nil => cases h; simp; exact .nil
  | cons v vs ih =>
    cases h with
    | cons a b => cases n with
      | zero => exact .nil
      | succ n => exact .cons a (ih b n)
theorem RepL.drop {vs : List V} {ds : List D} (h : RepL K cm F vs ds) (n : Nat) : RepL K cm F (vs.drop n) (ds.drop n) := by
  induction vs generalizing ds n with
  | nil => cases h; simp; exact .nil
  | cons v vs ih =>
    cases h with
    | cons a b => cases n with
      | zero => exact .cons a b
      | succ n => exact ih b n
theorem RepL.set {vs : List V} {ds : List D} (h : RepL K cm F vs ds) {v : V} {d : D} (r : Rep K cm F v d) (n : Nat) : RepL K cm F (vs.set n v) (ds.set n d) := by
  induction vs generalizing ds n with
  | nil => cases h; simp; exact .nil
  | cons w vs ih =>
    cases h with
    | cons a b => cases n with
      | zero => exact .cons r b
      | succ n => exact .cons a (ih b n)
theorem RepL.reverse {vs : List V} {ds : List D} (h : RepL K cm F vs ds) : RepL K cm F vs.reverse ds.reverse := by
  induction vs generalizing ds with
  | nil => cases h; exact .nil
  | cons w vs ih =>
    cases h with
    | cons a b => simp only [List.reverse_cons]; exact (ih b).append (.one a)
theorem RepL.dropLast {vs : List V} {ds : List D} (h : RepL K cm F vs ds) : RepL K cm F vs.dropLast ds.dropLast := by
  have e := h.length
  rw [List.dropLast_eq_take, List.dropLast_eq_take, e]
  exact h.take _
theorem RepF.look {vs : List (Str × V)} {ds : List (Str × D)} (h : RepF K cm F vs ds) {f : Str} {d : D} (e : ds.lookup f = some d) : ∃ v, vs.lookup f = some v ∧ Rep K cm F v d := by
  induction vs generalizing ds with
  | nil => cases h; simp at e
  | cons w vs ih =>
    cases h with
    | @cons k v d' vs ds' a b =>
      rw [List.lookup_cons] at e ⊢
      cases q : (f == k) with
      | true => rw [q] at e; cases e; exact ⟨v, rfl, a⟩
      | false => rw [q] at e; exact ih b e
theorem RepF.lookN {vs : List (Str × V)} {ds : List (Str × D)} (h : RepF K cm F vs ds) {f : Str} (e : ds.lookup f = none) : vs.lookup f = none := by
  induction vs generalizing ds with
  | nil => rfl
  | cons w vs ih =>
    cases h with
    | @cons k v d' vs ds' a b =>
      rw [List.lookup_cons] at e ⊢
      cases q : (f == k) with
      | true => rw [q] at e; cases e
      | false => rw [q] at e; exact ih b e
theorem RepF.length {vs : List (Str × V)} {ds : List (Str × D)} (h : RepF K cm F vs ds) : vs.length = ds.length := by
  induction vs generalizing ds with
  | nil => cases h; rfl
  | cons v vs ih => cases h with | cons a b => simp [ih b]
end

/-- an exception's own dict -/
def ExR (K : PySem.W.Frag) (cm : Str → Addr) (F : Hp) (od : Option Addr) (fs : List (Str × D)) : Prop := (od = none ∧ fs = []) ∨ ∃ dd ws, od = some dd ∧ F dd = some (.xd ws) ∧ RepF K cm F ws fs
/-! ### slots -/
inductive S where
  | no
  | val (d : D)
  | lst (xs : List D)
  | dK (kvs : List (Key × D))
  | dT (kvs : List (List Key × D))
  | ins (C : Str) (fs : List (Str × D))
  | err (C : Str) (fs : List (Str × D))
  deriving Inhabited
/-- where the classes stand; a caught error -/
structure Wd where
  cls : Str → Addr
  err : Hp → Addr → Str → List (Str × D) → Prop
instance : CoeFun Wd (fun _ => Str → Addr) := ⟨Wd.cls⟩
instance : Coe Wd (Str → Addr) := ⟨Wd.cls⟩
abbrev Slots := List S
def S.own : S → Bool
  | .no => false
  | .val _ => false
  | .err _ _ => false
  | _ => true
/-- an own object given up: plain data -/
def S.cold : S → Option D
  | .no => none
  | .val d => some d
  | .lst xs => some (.lst xs)
  | .dK k => some (.dK k)
  | .dT k => some (.dT k)
  | .ins C fs => some (.obj C fs)
  | .err _ _ => none

section
variable (K : PySem.W.Frag) (cm : Wd) (F H : Hp)
inductive RepO : HO → S → Prop where
  | lst {vs xs} : RepL K cm F vs xs → RepO (.lst vs) (.lst xs)
  | dK {vs xs} : RepK K cm F vs xs → RepO (.dK vs) (.dK xs)
  | dT {vs xs} : RepT K cm F vs xs → RepO (.dT vs) (.dT xs)
  | ins {C dx vs fs} : RepF K cm F vs fs → RepO (.ins (cm C) dx vs) (.ins C fs)
inductive RepS : V → S → Prop where
  | val {v d} : Rep K cm F v d → RepS v (.val d)
  | own {a o s} : H a = some o → F a = none → RepO K cm F o s → RepS (.ref a) s
  | err {a C fs F0} : (∀ b o, F0 b = some o → F b = some o) → cm.err F0 a C fs → RepS (.ref a) (.err C fs)
end
def ownAt (σ : St) (ρ : Slots) (i : Nat) (a : Addr) : Prop := ∃ s, ρ[i]? = some s ∧ s.own = true ∧ σ[i]? = some (some (.ref a))
def owns (σ : St) (ρ : Slots) (a : Addr) : Prop := ∃ i, ownAt σ ρ i a
structure Rel (K : PySem.W.Frag) (cm : Wd) (F : Hp) (σ : St) (H : Hp) (ρ : Slots) : Prop where
  len : σ.length = ρ.length
  sub : ∀ a o, F a = some o → H a = some o
  slot : ∀ (i : Nat) (s : S), ρ[i]? = some s → s ≠ .no → ∃ v, σ[i]? = some (some v) ∧ RepS K cm F H v s
  sep : ∀ (i j : Nat) (a : Addr), ownAt σ ρ i a → ownAt σ ρ j a → i = j
structure Post (K : PySem.W.Frag) (cm : Wd) (P : Nat → Bool) (F : Hp) (σ : St) (H : Hp) (ρ : Slots) (F' : Hp) (σ' : St) (H' : Hp) (ρ' : Slots) : Prop where
  rel : Rel K cm F' σ' H' ρ'
  mono : ∀ a o, F a = some o → F' a = some o
  lim : ∀ a, F' a ≠ none → F a ≠ none ∨ owns σ ρ a ∨ H a = none
  keep : ∀ a o, H a = some o → ¬ owns σ ρ a → H' a = some o
  new : ∀ a, owns σ' ρ' a → owns σ ρ a ∨ H a = none
  pin : ∀ i, P i = true → σ'[i]? = σ[i]?
  sl : σ'.length = σ.length

section
variable {K : PySem.W.Frag} {cm : Wd} {P : Nat → Bool} {F F' F'' : Hp} {σ σ' σ'' : St} {H H' H'' : Hp} {ρ ρ' ρ'' : Slots} {a b : Addr} {v : V} {s : S} {o : HO} {i j : Nat}
theorem RepO.own (h : RepO K cm F o s) : s.own = true := by cases h <;> rfl
theorem RepO.mono (m : ∀ a o, F a = some o → F' a = some o) (h : RepO K cm F o s) : RepO K cm F' o s := by
  cases h with
  | lst r => exact .lst (r.mono m)
  | dK r => exact .dK (r.mono m)
  | dT r => exact .dT (r.mono m)
  | ins r => exact .ins (r.mono m)
theorem RepS.of_own (h : RepS K cm F H v s) (e : s.own = true) : ∃ a o, v = .ref a ∧ H a = some o ∧ F a = none ∧ RepO K cm F o s := by
  cases h with
  | val r => cases e
  | own h1 h2 h3 => exact ⟨_, _, rfl, h1, h2, h3⟩
  | err q r => cases e
theorem RepS.of_val {d : D} (h : RepS K cm F H v (.val d)) : Rep K cm F v d := by
  cases h with
  | val r => exact r
  | own _ _ r => cases r
theorem RepS.no (h : RepS K cm F H v .no) : False := by
  cases h with
  | own _ _ r => cases r
/-- the cold form of an own object -/
theorem RepO.cold {d : D} (h : RepO K cm F o s) (e : s.cold = some d) (h1 : F' a = some o) (m : ∀ a o, F a = some o → F' a = some o) : Rep K cm F' (.ref a) d := by
  cases h with
  | lst r => cases e; exact .lst h1 (r.mono m)
  | dK r => cases e; exact .dK h1 (r.mono m)
  | dT r => cases e; exact .dT h1 (r.mono m)
  | ins r => cases e; exact .obj h1 (r.mono m)
theorem Rel.owned (R : Rel K cm F σ H ρ) (h : ownAt σ ρ i a) : ∃ s o, ρ[i]? = some s ∧ H a = some o ∧ F a = none ∧ RepO K cm F o s := by
  obtain ⟨s, h1, h2, h3⟩ := h
  obtain ⟨v, h4, h5⟩ := R.slot i s h1 (by rintro rfl; cases h2)
  obtain ⟨a', o, rfl, h6, h7, h8⟩ := h5.of_own h2
  rw [h3] at h4
  cases h4
  exact ⟨s, o, h1, h6, h7, h8⟩
theorem Rel.owned' (R : Rel K cm F σ H ρ) (h : owns σ ρ a) : H a ≠ none ∧ F a = none := by
  obtain ⟨i, h⟩ := h
  obtain ⟨_, o, _, h1, h2, _⟩ := R.owned h
  exact ⟨by rw [h1]; simp, h2⟩
theorem Post.refl (R : Rel K cm F σ H ρ) : Post K cm P F σ H ρ F σ H ρ :=
  ⟨R, fun _ _ h => h, fun _ h => .inl h, fun _ _ h _ => h, fun _ h => .inl h, fun _ _ => rfl, rfl⟩
theorem Post.gone (p : Post K cm P F σ H ρ F' σ' H' ρ') (h : H' a = none) : owns σ ρ a ∨ H a = none := by
  by_cases q : owns σ ρ a
  · exact .inl q
  · cases e : H a with
    | none => exact .inr rfl
    | some o => rw [p.keep a o e q] at h; cases h
theorem Post.trans (p : Post K cm P F σ H ρ F' σ' H' ρ') (q : Post K cm P F' σ' H' ρ' F'' σ'' H'' ρ'') : Post K cm P F σ H ρ F'' σ'' H'' ρ'' where
  rel := q.rel
  mono := fun a o h => q.mono a o (p.mono a o h)
  lim := fun a h => by
    rcases q.lim a h with h | h | h
    · exact p.lim a h
    · exact .inr (p.new a h)
    · exact .inr (p.gone h)
  keep := fun a o h n => by
    refine q.keep a o (p.keep a o h n) fun z => ?_
    rcases p.new a z with z | z
    · exact n z
    · rw [h] at z; cases z
  new := fun a h => by
    rcases q.new a h with h | h
    · exact p.new a h
    · exact p.gone h
  pin := fun i h => (q.pin i h).trans (p.pin i h)
  sl := q.sl.trans p.sl
/-- expressions pin everything: to any pin -/
theorem Post.any {P' : Nat → Bool} (p : Post K cm P F σ H ρ F' σ H' ρ') : Post K cm P' F σ H ρ F' σ H' ρ' :=
  ⟨p.rel, p.mono, p.lim, p.keep, p.new, fun _ _ => rfl, rfl⟩
theorem RepS.post (p : Post K cm P F σ H ρ F' σ' H' ρ') (r : RepS K cm F H v s) (h : ∀ a, v = .ref a → s.own = true → ¬ owns σ ρ a) : RepS K cm F' H' v s := by
  cases r with
  | val r => exact .val (r.mono p.mono)
  | err q r => exact .err (fun b o h => p.mono b o (q b o h)) r
  | @own a o s h1 h2 h3 =>
    have n := h a rfl h3.own
    refine .own (p.keep a o h1 n) ?_ (h3.mono p.mono)
    cases e : F' a with
    | none => rfl
    | some u =>
      rcases p.lim a (by rw [e]; simp) with z | z | z
      · exact absurd h2 z
      · exact absurd z n
      · rw [h1] at z; cases z
/-- a new cold object -/
theorem Post.cold (R : Rel K cm F σ H ρ) (n : H a = none) : Post K cm P F σ H ρ (upd F a o) σ (upd H a o) ρ := by
  have nF : F a = none := by
    cases e : F a with
    | none => rfl
    | some u => rw [R.sub a u e] at n; cases n
  have m : ∀ b u, F b = some u → upd F a o b = some u := fun b u h => by rw [upd_ne (ne_of_none h nF)]; exact h
  refine ⟨⟨R.len, fun b u h => ?_, fun i s h1 h2 => ?_, R.sep⟩, m, fun b h => ?_, fun b u h _ => ?_, fun b h => .inl h, fun _ _ => rfl, rfl⟩
  · by_cases q : b = a
    · subst q; rw [upd_same] at h ⊢; exact h
    · rw [upd_ne q] at h ⊢; exact R.sub b u h
  · obtain ⟨v, h3, h4⟩ := R.slot i s h1 h2
    refine ⟨v, h3, ?_⟩
    cases h4 with
    | val r => exact .val (r.mono m)
    | err q r => exact .err (fun b o h => m b o (q b o h)) r
    | @own b o' s h5 h6 h7 =>
      have q : b ≠ a := ne_of_none h5 n
      exact .own (by rw [upd_ne q]; exact h5) (by rw [upd_ne q]; exact h6) (h7.mono m)
  · by_cases q : b = a
    · subst q; exact .inr (.inr n)
    · rw [upd_ne q] at h; exact .inl h
  · rw [upd_ne (ne_of_none h n)]; exact h
/-- a new object that is not given a place yet -/
theorem Post.warm (R : Rel K cm F σ H ρ) (n : H a = none) : Post K cm P F σ H ρ F σ (upd H a o) ρ := by
  refine ⟨⟨R.len, fun b u h => ?_, fun i s h1 h2 => ?_, R.sep⟩, fun _ _ h => h, fun b h => .inl h, fun b u h _ => ?_, fun b h => .inl h, fun _ _ => rfl, rfl⟩
  · rw [upd_ne (ne_of_none (R.sub b u h) n)]; exact R.sub b u h
  · obtain ⟨v, h3, h4⟩ := R.slot i s h1 h2
    refine ⟨v, h3, ?_⟩
    cases h4 with
    | val r => exact .val r
    | err q r => exact .err q r
    | @own b o' s h5 h6 h7 => exact .own (by rw [upd_ne (ne_of_none h5 n)]; exact h5) h6 h7
  · rw [upd_ne (ne_of_none h n)]; exact h
theorem Rel.noF (R : Rel K cm F σ H ρ) (n : H a = none) : F a = none := by
  cases e : F a with
  | none => rfl
  | some u => rw [R.sub a u e] at n; cases n
/-- an object that no slot owns is given up -/
theorem Post.chill (R : Rel K cm F σ H ρ) (h : H a = some o) (hF : F a = none) (no : ¬ owns σ ρ a) : Rel K cm (upd F a o) σ H ρ := by
  have m : ∀ b u, F b = some u → upd F a o b = some u := fun b u h => by rw [upd_ne (ne_of_none h hF)]; exact h
  refine ⟨R.len, fun b u h' => ?_, fun i s h1 h2 => ?_, R.sep⟩
  · by_cases q : b = a
    · subst q; rw [upd_same] at h'; rw [← h']; exact h
    · rw [upd_ne q] at h'; exact R.sub b u h'
  · obtain ⟨v, h3, h4⟩ := R.slot i s h1 h2
    refine ⟨v, h3, ?_⟩
    cases h4 with
    | val r => exact .val (r.mono m)
    | err q r => exact .err (fun b o h => m b o (q b o h)) r
    | @own b o' s h5 h6 h7 =>
      have q : b ≠ a := fun e => no ⟨i, s, h1, h7.own, by rw [← e]; exact h3⟩
      exact .own h5 (by rw [upd_ne q]; exact h6) (h7.mono m)
theorem ownAt_set_ne {ρ : Slots} {i j : Nat} {s : S} (h : j ≠ i) : ownAt σ (ρ.set i s) j a ↔ ownAt σ ρ j a := by
  unfold ownAt
  rw [List.getElem?_set_ne (Ne.symm h)]
/-- a slot's object given up -/
theorem Post.freeze {d : D} (R : Rel K cm F σ H ρ) (h1 : ρ[i]? = some s) (h2 : s.own = true) (h3 : s.cold = some d) :
    ∃ a F', σ[i]? = some (some (.ref a)) ∧ Post K cm P F σ H ρ F' σ H (ρ.set i (.val d)) ∧ Rep K cm F' (.ref a) d := by
  obtain ⟨v, h4, h5⟩ := R.slot i s h1 (by rintro rfl; cases h2)
  obtain ⟨a, o, rfl, h6, h7, h8⟩ := h5.of_own h2
  have hi : i < ρ.length := (List.getElem?_eq_some_iff.mp h1).1
  have m : ∀ b u, F b = some u → upd F a o b = some u := fun b u h => by rw [upd_ne (ne_of_none h h7)]; exact h
  have rd : Rep K cm (upd F a o) (.ref a) d := h8.cold h3 upd_same m
  have oi : ∀ j b, ownAt σ (ρ.set i (.val d)) j b → j ≠ i ∧ ownAt σ ρ j b := fun j b q => by
    by_cases e : j = i
    · subst e
      obtain ⟨s', q1, q2, _⟩ := q
      rw [List.getElem?_set_self hi] at q1
      cases q1; cases q2
    · exact ⟨e, (ownAt_set_ne e).mp q⟩
  refine ⟨a, upd F a o, h4, ⟨⟨by simpa using R.len, fun b u h' => ?_, fun j s' q1 q2 => ?_, fun j k b q1 q2 => R.sep j k b (oi j b q1).2 (oi k b q2).2⟩, m, fun b h' => ?_, fun b u h' _ => h', fun b ⟨j, q⟩ => .inl ⟨j, (oi j b q).2⟩, fun _ _ => rfl, rfl⟩, rd⟩
  · by_cases q : b = a
    · subst q; rw [upd_same] at h'; rw [← h']; exact h6
    · rw [upd_ne q] at h'; exact R.sub b u h'
  · by_cases e : j = i
    · subst e
      rw [List.getElem?_set_self hi] at q1
      cases q1
      exact ⟨_, h4, .val rd⟩
    · rw [List.getElem?_set_ne (Ne.symm e)] at q1
      obtain ⟨v', h9, h10⟩ := R.slot j s' q1 q2
      refine ⟨v', h9, ?_⟩
      cases h10 with
      | val r => exact .val (r.mono m)
      | err q r => exact .err (fun b o h => m b o (q b o h)) r
      | @own b o' s' h5 h6' h7' =>
        have q : b ≠ a := fun z => e (R.sep j i a ⟨s', q1, h7'.own, by rw [← z]; exact h9⟩ ⟨s, h1, h2, h4⟩)
        exact .own h5 (by rw [upd_ne q]; exact h6') (h7'.mono m)
  · by_cases q : b = a
    · subst q; exact .inr (.inl ⟨i, s, h1, h2, h4⟩)
    · rw [upd_ne q] at h'; exact .inl h'
/-- a slot's object written -/
theorem Post.write {s' : S} {o' : HO} (R : Rel K cm F σ H ρ) (h1 : ρ[i]? = some s) (h2 : s.own = true) (h4 : σ[i]? = some (some (.ref a))) (r : RepO K cm F o' s') :
    Post K cm P F σ H ρ F σ (upd H a o') (ρ.set i s') := by
  obtain ⟨v, h4', h5⟩ := R.slot i s h1 (by rintro rfl; cases h2)
  rw [h4] at h4'
  cases h4'
  obtain ⟨a', o, e, h6, h7, h8⟩ := h5.of_own h2
  cases e
  have hi : i < ρ.length := (List.getElem?_eq_some_iff.mp h1).1
  have oi : ∀ j b, ownAt σ (ρ.set i s') j b → ownAt σ ρ j b := fun j b q => by
    by_cases e : j = i
    · subst e
      obtain ⟨s'', q1, q2, q3⟩ := q
      exact ⟨s, h1, h2, q3⟩
    · exact (ownAt_set_ne e).mp q
  refine ⟨⟨by simpa using R.len, fun b u h' => ?_, fun j s'' q1 q2 => ?_, fun j k b q1 q2 => R.sep j k b (oi j b q1) (oi k b q2)⟩, fun _ _ h => h, fun b h => .inl h, fun b u h' n => ?_, fun b ⟨j, q⟩ => .inl ⟨j, oi j b q⟩, fun _ _ => rfl, rfl⟩
  · rw [upd_ne (ne_of_none h' h7)]; exact R.sub b u h'
  · by_cases e : j = i
    · subst e
      rw [List.getElem?_set_self hi] at q1
      cases q1
      exact ⟨_, h4, .own upd_same h7 r⟩
    · rw [List.getElem?_set_ne (Ne.symm e)] at q1
      obtain ⟨v', h9, h10⟩ := R.slot j s'' q1 q2
      refine ⟨v', h9, ?_⟩
      cases h10 with
      | val r => exact .val r
      | err q r => exact .err q r
      | @own b o'' s'' h5' h6' h7' =>
        have q : b ≠ a := fun z => e (R.sep j i a ⟨s'', q1, h7'.own, by rw [← z]; exact h9⟩ ⟨s, h1, h2, h4⟩)
        exact .own (by rw [upd_ne q]; exact h5') h6' h7'
  · have q : b ≠ a := fun z => n ⟨i, s, h1, h2, by rw [z]; exact h4⟩
    rw [upd_ne q]; exact h'
/-- a slot forgotten -/
theorem Rel.forget (R : Rel K cm F σ H ρ) : Rel K cm F σ H (ρ.set i .no) := by
  have oi : ∀ j b, ownAt σ (ρ.set i .no) j b → ownAt σ ρ j b := fun j b q => by
    by_cases e : j = i
    · subst e
      obtain ⟨s'', q1, q2, q3⟩ := q
      have hi : j < (ρ.set j S.no).length := (List.getElem?_eq_some_iff.mp q1).1
      rw [List.length_set] at hi
      rw [List.getElem?_set_self hi] at q1
      cases q1; cases q2
    · exact (ownAt_set_ne e).mp q
  refine ⟨by simpa using R.len, R.sub, fun j s q1 q2 => ?_, fun j k b q1 q2 => R.sep j k b (oi j b q1) (oi k b q2)⟩
  by_cases e : j = i
  · subst e
    have hi : j < (ρ.set j S.no).length := (List.getElem?_eq_some_iff.mp q1).1
    rw [List.length_set] at hi
    rw [List.getElem?_set_self hi] at q1
    cases q1; exact absurd rfl q2
  · rw [List.getElem?_set_ne (Ne.symm e)] at q1
    exact R.slot j s q1 q2
/-- a name is given a value -/
theorem Post.store (R : Rel K cm F σ H ρ) (r : RepS K cm F H v s) (hf : ∀ a, v = .ref a → s.own = true → ¬ owns σ ρ a) (hi : i < ρ.length) (hP : P i = false) :
    Rel K cm F (σ.set i (some v)) H (ρ.set i s) ∧ (∀ k, P k = true → (σ.set i (some v))[k]? = σ[k]?) ∧ ∀ a, owns (σ.set i (some v)) (ρ.set i s) a → owns σ ρ a ∨ (v = .ref a ∧ s.own = true) := by
  have hσ : i < σ.length := by rw [R.len]; exact hi
  have oi : ∀ j b, ownAt (σ.set i (some v)) (ρ.set i s) j b → (j ≠ i ∧ ownAt σ ρ j b) ∨ (j = i ∧ v = .ref b ∧ s.own = true) := fun j b q => by
    by_cases e : j = i
    · subst e
      obtain ⟨s'', q1, q2, q3⟩ := q
      rw [List.getElem?_set_self hi] at q1
      rw [List.getElem?_set_self hσ] at q3
      cases q1; cases q3
      exact .inr ⟨rfl, rfl, q2⟩
    · obtain ⟨s'', q1, q2, q3⟩ := q
      rw [List.getElem?_set_ne (Ne.symm e)] at q1 q3
      exact .inl ⟨e, s'', q1, q2, q3⟩
  refine ⟨⟨by simpa using R.len, R.sub, fun j s' q1 q2 => ?_, fun j k b q1 q2 => ?_⟩, fun k hk => ?_, fun b ⟨j, q⟩ => ?_⟩
  · by_cases e : j = i
    · subst e
      rw [List.getElem?_set_self hi] at q1
      cases q1
      exact ⟨v, List.getElem?_set_self hσ, r⟩
    · rw [List.getElem?_set_ne (Ne.symm e)] at q1
      obtain ⟨v', h9, h10⟩ := R.slot j s' q1 q2
      exact ⟨v', by rw [List.getElem?_set_ne (Ne.symm e)]; exact h9, h10⟩
  · rcases oi j b q1 with ⟨n1, z1⟩ | ⟨n1, z1, z2⟩
    · rcases oi k b q2 with ⟨n2, w1⟩ | ⟨n2, w1, w2⟩
      · exact R.sep j k b z1 w1
      · exact absurd ⟨j, z1⟩ (hf b w1 w2)
    · rcases oi k b q2 with ⟨n2, w1⟩ | ⟨n2, w1, w2⟩
      · exact absurd ⟨k, w1⟩ (hf b z1 z2)
      · rw [n1, n2]
  · rw [List.getElem?_set_ne]
    rintro rfl
    rw [hP] at hk; cases hk
  · rcases oi j b q with ⟨_, z⟩ | ⟨_, z1, z2⟩
    · exact .inl ⟨j, z⟩
    · exact .inr ⟨z1, z2⟩
end
end L2.Fn
set_option maxRecDepth 100000
set_option maxHeartbeats 4000000
/-! FnB: a reading computes; names, constants, operators, comparisons, tests. -/
namespace L2.Fn
open PySem PySem.Spec PyProof.Rows L2

/-- an expression's end: a value, or an error of a class with its fields -/
inductive Ex (α : Type) where
  | ok (a : α) (ρ : Slots)
  | ex (C : Str) (fs : List (Str × D)) (ρ : Slots)
abbrev ME (α : Type) := Slots → Option (Ex α)
def ME.bnd {α β : Type} (m : ME α) (k : α → ME β) : ME β := fun ρ =>
  match m ρ with
  | none => none
  | some (.ok a ρ') => k a ρ'
  | some (.ex C fs ρ') => some (.ex C fs ρ')
def ret {α : Type} (a : α) : ME α := fun ρ => some (.ok a ρ)
/-- a result that may not be there (then nothing is promised) -/
def opt {α : Type} (o : Option α) : ME α := fun ρ => match o with
  | none => none
  | some a => some (.ok a ρ)

abbrev pinAll : Nat → Bool := fun _ => true
/-- what a result is -/
abbrev RR (β α : Type) := Hp → St → Hp → Slots → Hp → Hp → Slots → β → α → Prop

section
variable (K : PySem.W.Frag) (cm : Wd) (W : WX)
def EPost {β α : Type} (R : RR β α) (F : Hp) (σ : St) (H : Hp) (ρ : Slots) (Q : β → Hp → Prop) : Ex α → Prop
  | .ok d ρ' => ∀ v F' H', Post K cm pinAll F σ H ρ F' σ H' ρ' → R F σ H ρ F' H' ρ' v d → Q v H'
  | .ex C fs ρ' => ∀ od F' H', Post K cm pinAll F σ H ρ F' σ H' ρ' → ExR K cm F' od fs → W (.ref (cm C)) od σ H'
def Sim {β α : Type} (R : RR β α) (t : St → Hp → (β → Hp → Prop) → Prop) (m : ME α) : Prop :=
  ∀ ρ r, m ρ = some r → ∀ F σ H Q, Rel K cm F σ H ρ → EPost K cm W R F σ H ρ Q r → t σ H Q
/-- what a relation of results leans on ahead may be moved forward -/
def Tr {β α : Type} (R : RR β α) : Prop := ∀ F σ H ρ F1 H1 ρ1 F2 H2 ρ2 v d, Post K cm pinAll F σ H ρ F1 σ H1 ρ1 → R F1 σ H1 ρ1 F2 H2 ρ2 v d → R F σ H ρ F2 H2 ρ2 v d
def RD : RR V D := fun _ _ _ _ F' _ _ v d => Rep K cm F' v d
/-- a value of one's own: plain data, or a new object that no slot owns -/
def RO : RR V S := fun F σ H ρ F' H' ρ' v s => RepS K cm F' H' v s ∧ ∀ a, v = .ref a → s.own = true → ¬ owns σ ρ' a ∧ (owns σ ρ a ∨ H a = none)
/-- a value that may be a slot's own -/
def RP : RR V S := fun _ _ _ _ F' H' _ v s => RepS K cm F' H' v s
def RB : RR Bool Bool := fun _ _ _ _ _ _ _ b c => b = c
def RDs : RR (List V) (List D) := fun _ _ _ _ F' _ _ vs ds => RepL K cm F' vs ds
def ROp : RR (Option Int) (Option Int) := fun _ _ _ _ _ _ _ b c => b = c
end

section
variable {K : PySem.W.Frag} {cm : Wd} {W : WX} {β β' α α' : Type} {R : RR β α} {R' : RR β' α'} {F F1 : Hp} {σ : St} {H H1 : Hp} {ρ ρ1 : Slots}
theorem tr_D : Tr K cm (RD K cm) := fun _ _ _ _ _ _ _ _ _ _ _ _ _ h => h
theorem tr_B : Tr K cm RB := fun _ _ _ _ _ _ _ _ _ _ _ _ _ h => h
theorem tr_Ds : Tr K cm (RDs K cm) := fun _ _ _ _ _ _ _ _ _ _ _ _ _ h => h
theorem tr_O : Tr K cm (RO K cm) := fun F σ H ρ F1 H1 ρ1 F2 H2 ρ2 v s p h => ⟨h.1, fun a e o => ⟨(h.2 a e o).1, by
  rcases (h.2 a e o).2 with z | z
  · exact p.new a z
  · exact p.gone z⟩⟩
theorem EPost.trans {Q : β → Hp → Prop} {r : Ex α} (tr : Tr K cm R) (h : EPost K cm W R F σ H ρ Q r) (p : Post K cm pinAll F σ H ρ F1 σ H1 ρ1) : EPost K cm W R F1 σ H1 ρ1 Q r := by
  cases r with
  | ok d ρ' => exact fun v F' H' q x => h v F' H' (p.trans q) (tr _ _ _ _ _ _ _ _ _ _ _ _ p x)
  | ex C fs ρ' => exact fun od F' H' q x => h od F' H' (p.trans q) x
theorem Sim.step {t : St → Hp → (β' → Hp → Prop) → Prop} {m : ME α'} {k : α' → ME α} {r : Ex α} {Q : β → Hp → Prop} {Q' : β' → Hp → Prop} (h : Sim K cm W R' t m) (e : m.bnd k ρ = some r) (hr : Rel K cm F σ H ρ) (hp : EPost K cm W R F σ H ρ Q r)
    (hQ : ∀ d ρ1 v F1 H1, k d ρ1 = some r → Post K cm pinAll F σ H ρ F1 σ H1 ρ1 → R' F σ H ρ F1 H1 ρ1 v d → Q' v H1) : t σ H Q' := by
  unfold ME.bnd at e
  cases q : m ρ with
  | none => rw [q] at e; cases e
  | some x =>
    rw [q] at e
    cases x with
    | ok a ρ' => exact h ρ _ q F σ H Q' hr fun v F' H' p x => hQ a ρ' v F' H' e p x
    | ex C fs ρ' =>
      cases e
      exact h ρ _ q F σ H Q' hr hp
theorem opt_ok {o : Option α} {r : Ex α} (e : opt o ρ = some r) : ∃ a, o = some a ∧ r = .ok a ρ := by
  unfold opt at e
  cases o with
  | none => cases e
  | some a => exact ⟨a, rfl, (Option.some.inj e).symm⟩
theorem ret_ok {a : α} {r : Ex α} (e : ret a ρ = some r) : r = .ok a ρ := (Option.some.inj e).symm
end

/-! ### judgements -/
section
variable (X : Cx) (cm : Wd) (W : WX)
/-- an expression as plain data -/
structure DE (e : Expr) (t : TE) (m : ME D) : Prop where
  pe : PE X e t
  sim : Sim X.K cm W (RD X.K cm) t m
/-- .. as a value of one's own -/
structure OE (e : Expr) (t : TE) (m : ME S) : Prop where
  pe : PE X e t
  sim : Sim X.K cm W (RO X.K cm) t m
/-- .. looked at -/
structure BE (e : Expr) (t : TE) (m : ME S) : Prop where
  pe : PE X e t
  sim : Sim X.K cm W (RP X.K cm) t m
structure TEs (e : Expr) (t : TT) (m : ME Bool) : Prop where
  pt : PT X e t
  sim : Sim X.K cm W RB t m
structure WEs (e : Expr) (t : TT) (m : ME Bool) : Prop where
  pw : PW X e t
  sim : Sim X.K cm W RB t m
structure AE (es : List Expr) (t : TA) (m : ME (List D)) : Prop where
  pa : PA X es t
  sim : Sim X.K cm W (RDs X.K cm) t m
end

section
variable {X : Cx} {cm : Wd} {W : WX} {e a b c : Expr} {t ta tb tc : TE} {m ma mb mc : ME D} {pos : Pos}
/-! ### from one to another -/
def mCold (m : ME S) : ME D := m.bnd fun s => opt s.cold
theorem de_cold {mo : ME S} (h : OE X cm W e t mo) : DE X cm W e t (mCold mo) := by
  refine ⟨h.pe, fun ρ r e F σ H Q hr hp => ?_⟩
  refine h.sim.step (Q' := Q) e hr hp fun s ρ1 v F1 H1 e1 p1 r1 => ?_
  obtain ⟨d, h1, rfl⟩ := opt_ok e1
  obtain ⟨r1, r2⟩ := r1
  cases r1 with
  | err q r => cases h1
  | val rd => cases h1; exact hp v F1 H1 p1 rd
  | @own a o s h3 h4 h5 =>
    have no := (r2 a rfl h5.own).1
    have nw := (r2 a rfl h5.own).2
    have rl := Post.chill p1.rel h3 h4 no
    have mm : ∀ b u, F1 b = some u → upd F1 a o b = some u := fun b u h => by rw [upd_ne (ne_of_none h h4)]; exact h
    refine hp _ (upd F1 a o) H1 ⟨rl, fun b u h => mm b u (p1.mono b u h), fun b h => ?_, p1.keep, p1.new, p1.pin, rfl⟩ (h5.cold h1 upd_same mm)
    by_cases q : b = a
    · subst q; exact .inr nw
    · rw [upd_ne q] at h; exact p1.lim b h
def mWarm (m : ME D) : ME S := m.bnd fun d => ret (.val d)
theorem oe_val (h : DE X cm W e t m) : OE X cm W e t (mWarm m) := by
  refine ⟨h.pe, fun ρ r e F σ H Q hr hp => ?_⟩
  refine h.sim.step (Q' := Q) e hr hp fun d ρ1 v F1 H1 e1 p1 r1 => ?_
  cases ret_ok e1
  exact hp v F1 H1 p1 ⟨.val r1, fun _ _ z => by cases z⟩
theorem be_own {mo : ME S} (h : OE X cm W e t mo) : BE X cm W e t mo :=
  ⟨h.pe, fun ρ r e F σ H Q hr hp => h.sim ρ r e F σ H Q hr (by
    cases r with
    | ok s ρ' => exact fun v F' H' p x => hp v F' H' p x.1
    | ex C fs ρ' => exact hp)⟩

/-! ### names, constants -/
def mVar (i : Nat) : ME D := fun ρ => match ρ[i]? with
  | some s => (match s with
    | .val d => some (.ok d ρ)
    | s => (match s.cold with
      | some d => some (.ok d (ρ.set i (.val d)))
      | none => none))
  | none => none
theorem de_var {i : Nat} {x : Str} (hN : X.N[i]? = some x) (hv : Vis X.env.scope x) (hd : (x == ("__debug__" : Str)) = false := by decide) (hcd : (x == ("__classdict__" : Str)) = false := by decide) : DE X cm W (.Name x pos) (tVar i) (mVar i) := by
  refine ⟨pe_var hN hv hd hcd, fun ρ r e F σ H Q hr hp => ?_⟩
  unfold mVar at e
  cases q : ρ[i]? with
  | none => rw [q] at e; cases e
  | some s =>
    rw [q] at e
    cases ho : s.own with
    | false =>
      cases s with
      | val d =>
        cases e
        obtain ⟨v, h1, h2⟩ := hr.slot i _ q (by simp)
        exact ⟨v, h1, hp v F H (Post.refl hr) h2.of_val⟩
      | no => cases e
      | err _ _ => cases e
      | _ => cases ho
    | true =>
      cases hc : s.cold with
      | none => cases s <;> simp_all [S.cold, S.own]
      | some d =>
        have e' : some (Ex.ok d (ρ.set i (.val d))) = some r := by
          cases s <;> simp_all [S.cold, S.own]
        cases e'
        obtain ⟨a, F', h1, p, rd⟩ := Post.freeze (P := pinAll) hr q ho hc
        exact ⟨_, h1, hp _ F' H p rd⟩
/-- a name's slot, looked at -/
def mPeek (i : Nat) : ME S := fun ρ => match ρ[i]? with
  | some s => (match s with
    | .no => none
    | s => some (.ok s ρ))
  | none => none
/-- a name's own object, given away (the name is not read again) -/
def mMove (i : Nat) : ME S := fun ρ => match ρ[i]? with
  | some s => (match s with
    | .no => none
    | s => some (.ok s (ρ.set i .no)))
  | none => none
theorem mMove_ok {i : Nat} {ρ : Slots} {r : Ex S} (e : mMove i ρ = some r) : ∃ s, ρ[i]? = some s ∧ s ≠ .no ∧ r = .ok s (ρ.set i .no) := by
  unfold mMove at e
  cases q : ρ[i]? with
  | none => rw [q] at e; cases e
  | some s =>
    rw [q] at e
    cases s with
    | no => cases e
    | _ => cases e; exact ⟨_, rfl, by simp, rfl⟩
theorem owns_forget {σ : St} {ρ : Slots} {i : Nat} {a : Addr} (h : owns σ (ρ.set i .no) a) : ∃ j, j ≠ i ∧ ownAt σ ρ j a := by
  obtain ⟨j, s, q1, q2, q3⟩ := h
  by_cases e : j = i
  · subst e
    have hi : j < (ρ.set j S.no).length := (List.getElem?_eq_some_iff.mp q1).1
    rw [List.length_set] at hi
    rw [List.getElem?_set_self hi] at q1
    cases q1; cases q2
  · rw [List.getElem?_set_ne (Ne.symm e)] at q1
    exact ⟨j, e, s, q1, q2, q3⟩
theorem oe_move {i : Nat} {x : Str} (hN : X.N[i]? = some x) (hv : Vis X.env.scope x) (hd : (x == ("__debug__" : Str)) = false := by decide) (hcd : (x == ("__classdict__" : Str)) = false := by decide) : OE X cm W (.Name x pos) (tVar i) (mMove i) := by
  refine ⟨pe_var hN hv hd hcd, fun ρ r e F σ H Q hr hp => ?_⟩
  obtain ⟨s, q, ns, rfl⟩ := mMove_ok e
  obtain ⟨v, h1, h2⟩ := hr.slot i s q ns
  refine ⟨v, h1, hp v F H ⟨hr.forget, fun _ _ h => h, fun _ h => .inl h, fun _ _ h _ => h, fun a h => ?_, fun _ _ => rfl, rfl⟩ ⟨h2, fun a e o => ⟨fun z => ?_, .inl ⟨i, s, q, o, by rw [h1, e]⟩⟩⟩⟩
  · obtain ⟨j, _, z⟩ := owns_forget h; exact .inl ⟨j, z⟩
  · obtain ⟨j, n, z⟩ := owns_forget z
    exact n (hr.sep j i a z ⟨s, q, o, by rw [h1, e]⟩)
theorem de_const {v : V} {d : D} (h : PE X e (tC v)) (r : ∀ F, Rep X.K cm F v d) : DE X cm W e (tC v) (ret d) := by
  refine ⟨h, fun ρ r' e F σ H Q hr hp => ?_⟩
  cases ret_ok e
  exact hp v F H (Post.refl hr) (r F)
theorem de_int {i j} : DE X cm W (.Constant (.int i) j pos) (tC (.int i)) (ret (.int i)) := de_const pe_int fun _ => .int
theorem de_bl {i j} : DE X cm W (.Constant (.bool i) j pos) (tC (.bl i)) (ret (.bl i)) := de_const pe_bl fun _ => .bl
theorem de_non {j} : DE X cm W (.Constant .none j pos) (tC .non) (ret .non) := de_const pe_non fun _ => .non
theorem de_str {x j} : DE X cm W (.Constant (.str x) j pos) (tC (.str x)) (ret (.str x)) := de_const pe_str fun _ => .str

/-! ### operators on data -/
def OpD (K : PySem.W.Frag) (cm : Wd) (r : R2) (g : D → D → Option S) : Prop := ∀ {F σ H ρ x y dx dy s Q}, Rel K cm F σ H ρ → Rep K cm F x dx → Rep K cm F y dy → g dx dy = some s →
  (∀ v F' H', Post K cm pinAll F σ H ρ F' σ H' ρ → RO K cm F σ H ρ F' H' ρ v s → Q v H') → r x y H Q
def mOp (g : D → D → Option S) (ma mb : ME D) : ME S := ma.bnd fun x => mb.bnd fun y => opt (g x y)
theorem sim_op {K : PySem.W.Frag} {r : R2} {g : D → D → Option S} (ho : OpD K cm r g) (ha : Sim K cm W (RD K cm) ta ma) (hb : Sim K cm W (RD K cm) tb mb) : Sim K cm W (RO K cm) (tOp r ta tb) (mOp g ma mb) := by
  intro ρ r e F σ H Q hr hp
  refine ha.step e hr hp fun dx ρ1 x F1 H1 e1 p1 r1 => ?_
  refine hb.step e1 p1.rel (hp.trans tr_O p1) fun dy ρ2 y F2 H2 e2 p2 r2 => ?_
  obtain ⟨d, h1, rfl⟩ := opt_ok e2
  have p := p1.trans p2
  refine ho p2.rel (Rep.mono p2.mono r1) r2 h1 fun v F' H' q z => hp v F' H' (p.trans q) (tr_O _ _ _ _ _ _ _ _ _ _ _ _ p z)
theorem oe_op {op : Operator} {r : R2} {g : D → D → Option S} (hx : OpR X (binaryOp op) r) (ho : OpD X.K cm r g) (ha : DE X cm W a ta ma) (hb : DE X cm W b tb mb) : OE X cm W (.BinOp a op b pos) (tOp r ta tb) (mOp g ma mb) :=
  ⟨pe_op hx ha.pe hb.pe, sim_op ho ha.sim hb.sim⟩
theorem oe_cmp {op : CmpOp} {r : R2} {g : D → D → Option S} (hx : OpR X (compareOp op) r) (ho : OpD X.K cm r g) (ha : DE X cm W a ta ma) (hb : DE X cm W b tb mb) (hm : behindInMarks op b = false) : OE X cm W (.Compare a [op] [b] pos) (tOp r ta tb) (mOp g ma mb) :=
  ⟨pe_cmpR hx ha.pe hb.pe hm, sim_op ho ha.sim hb.sim⟩
/-- one operand -/
def UnD (K : PySem.W.Frag) (cm : Wd) (r : V → Hp → VK → Prop) (g : D → Option D) : Prop := ∀ {F σ H ρ x dx d Q}, Rel K cm F σ H ρ → Rep K cm F x dx → g dx = some d →
  (∀ v F' H', Post K cm pinAll F σ H ρ F' σ H' ρ → Rep K cm F' v d → Q v H') → r x H Q
def mUn (g : D → Option D) (ma : ME D) : ME D := ma.bnd fun x => opt (g x)
theorem de_un {op : UnaryOp} {r : V → Hp → VK → Prop} {g : D → Option D} (hx : UnR X (unaryOp op) r) (ho : UnD X.K cm r g) (ha : DE X cm W a ta ma) : DE X cm W (.UnaryOp op a pos) (tUn r ta) (mUn g ma) := by
  refine ⟨pe_un hx ha.pe, fun ρ r e F σ H Q hr hp => ?_⟩
  refine ha.sim.step e hr hp fun dx ρ1 x F1 H1 e1 p1 r1 => ?_
  obtain ⟨d, h1, rfl⟩ := opt_ok e1
  exact ho p1.rel r1 h1 fun v F' H' q z => hp v F' H' (p1.trans q) z
def gNeg : D → Option D
  | .int i => some (.int (-i))
  | _ => none
theorem ud_neg {K : PySem.W.Frag} : UnD K cm (rU fun i => .int (-i)) gNeg := by
  intro F σ H ρ x dx d Q hr hx hg hQ
  cases hx <;> simp only [gNeg] at hg <;> first | (cases hg; done) | skip
  cases hg
  exact ⟨_, rfl, hQ _ F H (Post.refl hr) .int⟩
theorem rd_val {K : PySem.W.Frag} {F : Hp} {σ : St} {H : Hp} {ρ : Slots} {v : V} {d : D} (r : Rep K cm F v d) : RO K cm F σ H ρ F H ρ v (.val d) := ⟨.val r, fun _ _ z => by cases z⟩
/-- a new cold tuple -/
theorem rd_tup {K : PySem.W.Frag} {F : Hp} {σ : St} {H : Hp} {ρ : Slots} {p : Addr} {vs : List V} {ds : List D} (hr : Rel K cm F σ H ρ) (hp : H p = none) (r : RepL K cm F vs ds) :
    Rep K cm (upd F p (.tup vs)) (.ref p) (.tup ds) := .tup upd_same (r.mono fun b u h => by rw [upd_ne (ne_of_none h (hr.noF hp))]; exact h)
/-- a new own list -/
theorem rd_lst {K : PySem.W.Frag} {F : Hp} {σ : St} {H : Hp} {ρ : Slots} {p : Addr} {vs : List V} {ds : List D} (hr : Rel K cm F σ H ρ) (hp : H p = none) (r : RepL K cm F vs ds) :
    RO K cm F σ H ρ F (upd H p (.lst vs)) ρ (.ref p) (.lst ds) :=
  ⟨.own upd_same (hr.noF hp) (.lst r), fun a e _ => by
    cases e
    exact ⟨fun z => (hr.owned' z).1 hp, .inr hp⟩⟩
end

/-! ### addition -/
def gAdd : D → D → Option S
  | .int i, .int j => some (.val (.int (i + j)))
  | .str i, .str j => if i.length + j.length ≤ sizeLine then some (.val (.str (i ++ j))) else none
  | .lst xs, .lst ys => if xs.length + ys.length ≤ sizeLine then some (.lst (xs ++ ys)) else none
  | _, _ => none
def rAddX : R2 := fun x y H Q => (rI0 fun i j => .int (i + j)) x y H Q ∨ (∃ i j, x = .str i ∧ y = .str j ∧ i.length + j.length ≤ sizeLine ∧ Q (.str (i ++ j)) H) ∨ rCat x y H Q
theorem op_addX {X : Cx} : OpR X (binaryOp .Add) rAddX := op_add.or (op_add_str.or op_cat)
theorem od_add {K : PySem.W.Frag} {cm : Wd} : OpD K cm rAddX gAdd := by
  intro F σ H ρ x y dx dy s Q hr hx hy hg hQ
  cases hx with
  | int =>
    cases hy with
    | int => cases hg; exact .inl ⟨_, _, rfl, rfl, hQ _ F H (Post.refl hr) (rd_val .int)⟩
    | _ => cases hg
  | str =>
    cases hy with
    | str =>
      simp only [gAdd] at hg
      split at hg
      · rename_i hl; cases hg; exact .inr (.inl ⟨_, _, rfl, rfl, hl, hQ _ F H (Post.refl hr) (rd_val .str)⟩)
      · cases hg
    | _ => cases hg
  | lst h1 r1 =>
    cases hy with
    | lst h2 r2 =>
      simp only [gAdd] at hg
      split at hg
      · rename_i hl
        cases hg
        refine .inr (.inr ⟨_, _, _, _, rfl, rfl, hr.sub _ _ h1, hr.sub _ _ h2, by rw [r1.length, r2.length]; exact hl, fun p hp => ?_⟩)
        exact hQ _ F _ (Post.warm hr hp) (rd_lst hr hp (r1.append r2))
      · cases hg
    | _ => cases hg
  | _ => cases hg
section
variable {K : PySem.W.Frag} {cm : Wd}
/-- an operator on two ints -/
theorem od_int {C : Int → Int → Prop} [∀ i j, Decidable (C i j)] {f : Int → Int → Int} : OpD K cm (rI C fun i j => .int (f i j)) (fun x y => match x, y with
  | .int i, .int j => if C i j then some (.val (.int (f i j))) else none
  | _, _ => none) := by
  intro F σ H ρ x y dx dy s Q hr hx hy hg hQ
  cases hx with
  | int =>
    cases hy with
    | int =>
      simp only at hg
      split at hg
      · rename_i hc; cases hg; exact ⟨_, _, rfl, rfl, hc, hQ _ F H (Post.refl hr) (rd_val .int)⟩
      · cases hg
    | _ => cases hg
  | _ => cases hg
theorem od_int0 {f : Int → Int → V} {g : Int → Int → D} (h : ∀ F i j, Rep K cm F (f i j) (g i j)) : OpD K cm (rI0 f) (fun x y => match x, y with
  | .int i, .int j => some (.val (g i j))
  | _, _ => none) := by
  intro F σ H ρ x y dx dy s Q hr hx hy hg hQ
  cases hx with
  | int =>
    cases hy with
    | int => cases hg; exact ⟨_, _, rfl, rfl, hQ _ F H (Post.refl hr) (rd_val (h F _ _))⟩
    | _ => cases hg
  | _ => cases hg
end
instance : ∀ i j, Decidable (CMul i j) := fun i j => by unfold CMul; infer_instance
instance : ∀ i j, Decidable (CDiv i j) := fun i j => by unfold CDiv; infer_instance
instance : ∀ i j, Decidable (CPow i j) := fun i j => by unfold CPow; infer_instance
def gInt (C : Int → Int → Prop) [∀ i j, Decidable (C i j)] (f : Int → Int → Int) : D → D → Option S := fun x y => match x, y with
  | .int i, .int j => if C i j then some (.val (.int (f i j))) else none
  | _, _ => none
def gI0 (g : Int → Int → D) : D → D → Option S := fun x y => match x, y with
  | .int i, .int j => some (.val (g i j))
  | _, _ => none
abbrev gMul := gInt CMul fun i j => i * j
abbrev gDiv := gInt CDiv fun i j => i / j
abbrev gMod := gInt (fun _ j => 0 < j) fun i j => i % j
abbrev gPow := gInt CPow fun i j => i ^ j.toNat
abbrev gSub := gI0 fun i j => .int (i - j)
abbrev gLt := gI0 fun i j => .bl (decide (i < j))
abbrev gLe := gI0 fun i j => .bl (decide (i ≤ j))
abbrev gGt := gI0 fun i j => .bl (decide (j < i))
abbrev gGe := gI0 fun i j => .bl (decide (j ≤ i))
section
variable {K : PySem.W.Frag} {cm : Wd}
theorem od_mul : OpD K cm (rI CMul fun i j => .int (i * j)) gMul := od_int
theorem od_div : OpD K cm (rI CDiv fun i j => .int (i / j)) gDiv := od_int
theorem od_mod : OpD K cm (rI (fun _ j => 0 < j) fun i j => .int (i % j)) gMod := od_int
theorem od_pow : OpD K cm (rI CPow fun i j => .int (i ^ j.toNat)) gPow := od_int
theorem od_sub : OpD K cm (rI0 fun i j => .int (i - j)) gSub := od_int0 fun _ _ _ => .int
theorem od_lt : OpD K cm (rI0 fun i j => .bl (decide (i < j))) gLt := od_int0 fun _ _ _ => .bl
theorem od_gt : OpD K cm (rI0 fun i j => .bl (decide (j < i))) gGt := od_int0 fun _ _ _ => .bl
theorem od_ge : OpD K cm (rI0 fun i j => .bl (decide (j ≤ i))) gGe := od_int0 fun _ _ _ => .bl
end

/-! ### == of data -/
mutual
def D.py : D → Option PyData
  | .non => some .none
  | .bl b => some (.bool b)
  | .int i => some (.int i)
  | .str x => some (.str x)
  | .tup xs => (D.pys xs).map .tuple
  | .lst xs => (D.pys xs).map .list
  | _ => none
def D.pys : List D → Option (List PyData)
  | [] => some []
  | x :: xs => match D.py x, D.pys xs with
    | some a, some b => some (a :: b)
    | _, _ => none
end
section
variable {K : PySem.W.Frag} {cm : Wd} {F H : Hp}
mutual
theorem Rep.dp (m : ∀ a o, F a = some o → H a = some o) : ∀ {v : V} {d : D} {p : PyData}, Rep K cm F v d → d.py = some p → Dp K H v p
  | _, _, _, .non, e => by cases e; exact .non
  | _, _, _, .bl, e => by cases e; exact .bl _
  | _, _, _, .int, e => by cases e; exact .int _
  | _, _, _, .str, e => by cases e; exact .str _
  | _, _, _, @Rep.tup _ _ _ _ vs xs h r, e => by
    simp only [D.py] at e
    cases q : D.pys xs with
    | none => rw [q] at e; cases e
    | some ps => rw [q] at e; cases e; exact .tup (SqT.of (m _ _ h)) (RepL.dp m r q)
  | _, _, _, @Rep.lst _ _ _ _ vs xs h r, e => by
    simp only [D.py] at e
    cases q : D.pys xs with
    | none => rw [q] at e; cases e
    | some ps => rw [q] at e; cases e; exact .lst (SqL.of (m _ _ h)) (RepL.dp m r q)
  | _, _, _, .scr h r, e => by cases e
  | _, _, _, .ktp h r, e => by cases e
  | _, _, _, .dK h r, e => by cases e
  | _, _, _, .dT h r, e => by cases e
  | _, _, _, .obj h r, e => by cases e
theorem RepL.dp (m : ∀ a o, F a = some o → H a = some o) : ∀ {v : List V} {d : List D} {p : List PyData}, RepL K cm F v d → D.pys d = some p → DpAll K H v p
  | _, _, _, .nil, e => by cases e; exact .nil
  | _, _, _, @RepL.cons _ _ _ v d vs ds h r, e => by
    simp only [D.pys] at e
    cases q1 : D.py d with
    | none => rw [q1] at e; cases e
    | some p =>
      cases q2 : D.pys ds with
      | none => rw [q1, q2] at e; cases e
      | some ps => rw [q1, q2] at e; cases e; exact .cons (Rep.dp m h q1) (RepL.dp m r q2)
end
end
/-- Python's == of two pieces of data, where it is told -/
def eqD (x y : D) : Option Bool := match x.py, y.py with
  | some p, some q => if SeqAt.shaped p && SeqAt.shaped q then some (PyData.eqv p q) else none
  | _, _ => none
def gEq : D → D → Option S := fun x y => (eqD x y).map fun b => .val (.bl b)
def gNe : D → D → Option S := fun x y => (eqD x y).map fun b => .val (.bl (!b))
theorem eqD_some {x y : D} {b : Bool} (h : eqD x y = some b) : ∃ p q, x.py = some p ∧ y.py = some q ∧ SeqAt.shaped p = true ∧ SeqAt.shaped q = true ∧ b = PyData.eqv p q := by
  unfold eqD at h
  cases e1 : x.py with
  | none => rw [e1] at h; cases h
  | some p =>
    cases e2 : y.py with
    | none => rw [e1, e2] at h; cases h
    | some q =>
      rw [e1, e2] at h
      simp only at h
      split at h
      · rename_i hs
        obtain ⟨h1, h2⟩ := Bool.and_eq_true_iff.mp hs
        exact ⟨p, q, rfl, rfl, h1, h2, (Option.some.inj h).symm⟩
      · cases h
section
variable {K : PySem.W.Frag} {cm : Wd}
theorem od_eq : OpD K cm (rEqD K) gEq := by
  intro F σ H ρ x y dx dy s Q hr hx hy hg hQ
  unfold gEq at hg
  cases q : eqD dx dy with
  | none => rw [q] at hg; cases hg
  | some b =>
    rw [q] at hg
    cases hg
    obtain ⟨p, r, h1, h2, h3, h4, rfl⟩ := eqD_some q
    exact ⟨p, r, hx.dp hr.sub h1, hy.dp hr.sub h2, h3, h4, hQ _ F H (Post.refl hr) (rd_val .bl)⟩
theorem od_ne : OpD K cm (rNeD K) gNe := by
  intro F σ H ρ x y dx dy s Q hr hx hy hg hQ
  unfold gNe at hg
  cases q : eqD dx dy with
  | none => rw [q] at hg; cases hg
  | some b =>
    rw [q] at hg
    cases hg
    obtain ⟨p, r, h1, h2, h3, h4, rfl⟩ := eqD_some q
    exact ⟨p, r, hx.dp hr.sub h1, hy.dp hr.sub h2, h3, h4, hQ _ F H (Post.refl hr) (rd_val .bl)⟩
def isNon : D → Bool
  | .non => true
  | _ => false
theorem Rep.non_iff {F : Hp} {v : V} {d : D} (r : Rep K cm F v d) : decide (v = .non) = isNon d := by
  cases r <;> simp [isNon]
def gIsN : D → D → Option S := fun x y => match y with
  | .non => some (.val (.bl (isNon x)))
  | _ => none
def gNotN : D → D → Option S := fun x y => match y with
  | .non => some (.val (.bl (!isNon x)))
  | _ => none
theorem od_isN : OpD K cm (fun x y H Q => y = .non ∧ Q (.bl (decide (x = .non))) H) gIsN := by
  intro F σ H ρ x y dx dy s Q hr hx hy hg hQ
  cases hy <;> first | (cases hg; done) | skip
  cases hg
  exact ⟨rfl, hQ _ F H (Post.refl hr) (by rw [hx.non_iff]; exact rd_val .bl)⟩
theorem od_notN : OpD K cm (fun x y H Q => y = .non ∧ Q (.bl (!decide (x = .non))) H) gNotN := by
  intro F σ H ρ x y dx dy s Q hr hx hy hg hQ
  cases hy <;> first | (cases hg; done) | skip
  cases hg
  exact ⟨rfl, hQ _ F H (Post.refl hr) (by rw [hx.non_iff]; exact rd_val .bl)⟩
end

/-! ### tests -/
section
variable {X : Cx} {cm : Wd} {W : WX} {e a b c : Expr} {t ta tb tc : TE} {m ma mb mc : ME D} {tA tB' : TT} {mA mB : ME Bool} {pos : Pos} {rest : List Expr}
def mTest (m : ME S) : ME Bool := m.bnd fun s => match s with
  | .val (.bl b) => ret b
  | _ => fun _ => none
theorem sim_test {K : PySem.W.Frag} {mo : ME S} (h : Sim K cm W (RO K cm) t mo) : Sim K cm W RB (tTest t) (mTest mo) := by
  intro ρ r e F σ H Q hr hp
  refine h.step e hr hp fun s ρ1 v F1 H1 e1 p1 r1 => ?_
  cases s with
  | val d =>
    cases d with
    | bl b =>
      cases ret_ok e1
      cases r1.1.of_val
      exact ⟨b, rfl, hp b F1 H1 p1 rfl⟩
    | _ => cases e1
  | _ => cases e1
theorem te_cmp {op : CmpOp} {r : R2} {g : D → D → Option S} (hx : OpR X (compareOp op) r) (ho : OpD X.K cm r g) (ha : DE X cm W a ta ma) (hb : DE X cm W b tb mb) (hm : behindInMarks op b = false) : TEs X cm W (.Compare a [op] [b] pos) (tTest (tOp r ta tb)) (mTest (mOp g ma mb)) :=
  ⟨pt_cmpR hx ha.pe hb.pe hm, sim_test (sim_op ho ha.sim hb.sim)⟩
/-- any expression that gives a bool -/
theorem te_val {mo : ME S} (h : OE X cm W e t mo) (he : ∀ whole, isTrue e X.env whole = (do let v ← whole; standAt e.pos; holding [v] (truthy v)) := by intro _; rfl) : TEs X cm W e (tB t) (mTest mo) :=
  ⟨pt_val h.pe he, sim_test h.sim⟩
def mAnd (a b : ME Bool) : ME Bool := a.bnd fun c => if c then b else ret false
def mOr (a b : ME Bool) : ME Bool := a.bnd fun c => if c then ret true else b
def mNot (a : ME Bool) : ME Bool := a.bnd fun c => ret (!c)
theorem we_and1 (ha : TEs X cm W a tA mA) : WEs X cm W (.BoolOp .And [a] pos) tA mA := ⟨pw_and1 ha.pt, ha.sim⟩
theorem we_or1 (ha : TEs X cm W a tA mA) : WEs X cm W (.BoolOp .Or [a] pos) tA mA := ⟨pw_or1 ha.pt, ha.sim⟩
theorem we_and (ha : TEs X cm W a tA mA) (hb : WEs X cm W (.BoolOp .And (b :: rest) pos) tB' mB) : WEs X cm W (.BoolOp .And (a :: b :: rest) pos) (tAnd tA tB') (mAnd mA mB) := by
  refine ⟨pw_and ha.pt hb.pw, fun ρ r e F σ H Q hr hp => ?_⟩
  refine ha.sim.step e hr hp fun c ρ1 c' F1 H1 e1 p1 r1 => ?_
  cases (show c' = c from r1)
  cases c with
  | true => exact hb.sim ρ1 r e1 F1 σ H1 Q p1.rel (hp.trans tr_B p1)
  | false => cases ret_ok e1; exact hp false F1 H1 p1 rfl
theorem we_or (ha : TEs X cm W a tA mA) (hb : WEs X cm W (.BoolOp .Or (b :: rest) pos) tB' mB) : WEs X cm W (.BoolOp .Or (a :: b :: rest) pos) (tOr tA tB') (mOr mA mB) := by
  refine ⟨pw_or ha.pt hb.pw, fun ρ r e F σ H Q hr hp => ?_⟩
  refine ha.sim.step e hr hp fun c ρ1 c' F1 H1 e1 p1 r1 => ?_
  cases (show c' = c from r1)
  cases c with
  | false => exact hb.sim ρ1 r e1 F1 σ H1 Q p1.rel (hp.trans tr_B p1)
  | true => cases ret_ok e1; exact hp true F1 H1 p1 rfl
theorem te_w (h : WEs X cm W e tA mA) : TEs X cm W e tA mA := ⟨h.pw.pt, h.sim⟩
theorem te_not (ha : TEs X cm W a tA mA) : TEs X cm W (.UnaryOp .Not a pos) (tNot tA) (mNot mA) := by
  refine ⟨pt_not ha.pt, fun ρ r e F σ H Q hr hp => ?_⟩
  refine ha.sim.step e hr hp fun c ρ1 c' F1 H1 e1 p1 r1 => ?_
  cases (show c' = c from r1)
  cases ret_ok e1
  exact hp _ F1 H1 p1 rfl
/-! ### and, or, not as values (bools) -/
def mOne (m : ME Bool) : ME D := m.bnd fun b => ret (.bl b)
theorem rep_bl {K : PySem.W.Frag} {F : Hp} {v : V} {b : Bool} (r : Rep K cm F v (.bl b)) : v = .bl b := by cases r; rfl
theorem de_one {op} (h : OE X cm W a t mo) : DE X cm W (.BoolOp op [a] pos) t (mCold mo) := ⟨pe_one h.pe, (de_cold h).sim⟩
def mAndV (ma mb : ME D) : ME D := ma.bnd fun x => match x with
  | .bl c => if c then mb else ret (.bl false)
  | _ => fun _ => none
def mOrV (ma mb : ME D) : ME D := ma.bnd fun x => match x with
  | .bl c => if c then ret (.bl true) else mb
  | _ => fun _ => none
def mNotV (ma : ME D) : ME D := ma.bnd fun x => match x with
  | .bl c => ret (.bl (!c))
  | _ => fun _ => none
theorem de_and (ha : DE X cm W a ta ma) (hb : DE X cm W (.BoolOp .And (b :: rest) pos) tb mb) : DE X cm W (.BoolOp .And (a :: b :: rest) pos) (tAndV ta tb) (mAndV ma mb) := by
  refine ⟨pe_and ha.pe hb.pe, fun ρ r e F σ H Q hr hp => ?_⟩
  refine ha.sim.step e hr hp fun d ρ1 v F1 H1 e1 p1 r1 => ?_
  cases r1 with
  | @bl c =>
    cases c with
    | true => exact ⟨true, rfl, hb.sim ρ1 r e1 F1 σ H1 Q p1.rel (hp.trans tr_D p1)⟩
    | false => cases ret_ok e1; exact ⟨false, rfl, hp _ F1 H1 p1 .bl⟩
  | _ => cases e1
theorem de_not (ha : DE X cm W a ta ma) : DE X cm W (.UnaryOp .Not a pos) (tNotV ta) (mNotV ma) := by
  refine ⟨pe_not ha.pe, fun ρ r e F σ H Q hr hp => ?_⟩
  refine ha.sim.step e hr hp fun d ρ1 v F1 H1 e1 p1 r1 => ?_
  cases r1 with
  | @bl c => cases ret_ok e1; exact ⟨c, rfl, hp _ F1 H1 p1 .bl⟩
  | _ => cases e1
/-- a if t else b -/
def mIf {α : Type} (c : ME Bool) (ma mb : ME α) : ME α := c.bnd fun c => if c then ma else mb
theorem oe_ifExp {ma mb : ME S} (hc : TEs X cm W c tA mA) (ha : OE X cm W a ta ma) (hb : OE X cm W b tb mb) : OE X cm W (.IfExp c a b pos) (tIf tA ta tb) (mIf mA ma mb) := by
  refine ⟨pe_ifExp hc.pt ha.pe hb.pe, fun ρ r e F σ H Q hr hp => ?_⟩
  refine hc.sim.step e hr hp fun c ρ1 c' F1 H1 e1 p1 r1 => ?_
  cases (show c' = c from r1)
  cases c with
  | true => exact ha.sim ρ1 r e1 F1 σ H1 Q p1.rel (hp.trans tr_O p1)
  | false => exact hb.sim ρ1 r e1 F1 σ H1 Q p1.rel (hp.trans tr_O p1)
/-- a < b < c -/
def mChain (g g' : D → D → Option S) (ma mb mc : ME D) : ME S := ma.bnd fun x => mb.bnd fun y => match g x y with
  | some (.val (.bl true)) => mc.bnd fun z => opt (g' y z)
  | some (.val (.bl false)) => ret (.val (.bl false))
  | _ => fun _ => none
end
end L2.Fn
set_option maxRecDepth 100000
set_option maxHeartbeats 4000000
/-! FnC: statements. -/
namespace L2.Fn
open PySem PySem.Spec PyProof.Rows L2

inductive Out where
  | nx (ρ : Slots)
  | rt (s : S) (ρ : Slots)
  | bk (ρ : Slots)
  | ct (ρ : Slots)
  | ex (C : Str) (fs : List (Str × D)) (ρ : Slots)
abbrev MS := Slots → Option Out
def ME.thn {α : Type} (m : ME α) (k : α → MS) : MS := fun ρ =>
  match m ρ with
  | none => none
  | some (.ok a ρ') => k a ρ'
  | some (.ex C fs ρ') => some (.ex C fs ρ')
section
variable (K : PySem.W.Frag) (cm : Wd) (W : WX) (P : Nat → Bool)
/-- a value handed back -/
def RR1 (F : Hp) (σ : St) (H : Hp) (ρ : Slots) (F' : Hp) (σ' : St) (H' : Hp) (ρ' : Slots) (v : V) (s : S) : Prop :=
  RepS K cm F' H' v s ∧ ∀ a, v = .ref a → s.own = true → ¬ owns σ' ρ' a ∧ (owns σ ρ a ∨ H a = none)
def SPost (F : Hp) (σ : St) (H : Hp) (ρ : Slots) (D : Ends) : Out → Prop
  | .nx ρ' => ∀ F' σ' H', Post K cm P F σ H ρ F' σ' H' ρ' → D.nx σ' H'
  | .bk ρ' => ∀ F' σ' H', Post K cm P F σ H ρ F' σ' H' ρ' → D.bk σ' H'
  | .ct ρ' => ∀ F' σ' H', Post K cm P F σ H ρ F' σ' H' ρ' → D.ct σ' H'
  | .rt s ρ' => ∀ v F' σ' H', Post K cm P F σ H ρ F' σ' H' ρ' → RR1 K cm F σ H ρ F' σ' H' ρ' v s → D.rt v H'
  | .ex C fs ρ' => ∀ od F' σ' H', Post K cm P F σ H ρ F' σ' H' ρ' → ExR K cm F' od fs → W (.ref (cm C)) od σ' H'
def SimS (t : TS) (m : MS) : Prop := ∀ ρ r, m ρ = some r → ∀ F σ H D, Rel K cm F σ H ρ → SPost K cm W P F σ H ρ D r → t D σ H
end
section
variable {K : PySem.W.Frag} {cm : Wd} {W : WX} {P : Nat → Bool} {F F1 : Hp} {σ σ1 : St} {H H1 : Hp} {ρ ρ1 : Slots} {D : Ends} {r : Out} {β α : Type} {R : RR β α}
theorem SPost.trans (h : SPost K cm W P F σ H ρ D r) (p : Post K cm P F σ H ρ F1 σ1 H1 ρ1) : SPost K cm W P F1 σ1 H1 ρ1 D r := by
  cases r with
  | nx ρ' => exact fun F' σ' H' q => h F' σ' H' (p.trans q)
  | bk ρ' => exact fun F' σ' H' q => h F' σ' H' (p.trans q)
  | ct ρ' => exact fun F' σ' H' q => h F' σ' H' (p.trans q)
  | rt s ρ' => exact fun v F' σ' H' q x => h v F' σ' H' (p.trans q) ⟨x.1, fun a e o => ⟨(x.2 a e o).1, by
      rcases (x.2 a e o).2 with z | z
      · exact p.new a z
      · exact p.gone z⟩⟩
  | ex C fs ρ' => exact fun od F' σ' H' q x => h od F' σ' H' (p.trans q) x
theorem Sim.stepS {t : St → Hp → (β → Hp → Prop) → Prop} {m : ME α} {k : α → MS} {Q' : β → Hp → Prop} (h : Sim K cm W R t m) (e : m.thn k ρ = some r) (hr : Rel K cm F σ H ρ) (hp : SPost K cm W P F σ H ρ D r)
    (hQ : ∀ d ρ1 v F1 H1, k d ρ1 = some r → Post K cm pinAll F σ H ρ F1 σ H1 ρ1 → R F σ H ρ F1 H1 ρ1 v d → Q' v H1) : t σ H Q' := by
  unfold ME.thn at e
  cases q : m ρ with
  | none => rw [q] at e; cases e
  | some x =>
    rw [q] at e
    cases x with
    | ok a ρ' => exact h ρ _ q F σ H Q' hr fun v F' H' p x => hQ a ρ' v F' H' e p x
    | ex C fs ρ' =>
      cases e
      exact h ρ _ q F σ H Q' hr fun od F' H' p x => hp od F' σ H' p.any x
end
section
variable (X : Cx) (cm : Wd) (W : WX) (P : Nat → Bool)
structure SE (st : Stmt) (t : TS) (m : MS) : Prop where
  ps : PS X st t
  sim : SimS X.K cm W P t m
structure SSE (sts : List Stmt) (t : TS) (m : MS) : Prop where
  pss : PSs X sts t
  sim : SimS X.K cm W P t m
end
section
variable {X : Cx} {cm : Wd} {W : WX} {P : Nat → Bool} {st : Stmt} {rest ba bb : List Stmt} {t u t1 t2 : TS} {m m1 m2 : MS} {e c : Expr} {te : TE} {tA : TT} {mA : ME Bool} {pos : Pos}
def sNil : MS := fun ρ => some (.nx ρ)
def sSeq (m1 m2 : MS) : MS := fun ρ => match m1 ρ with
  | some (.nx ρ') => m2 ρ'
  | r => r
theorem sse_nil : SSE X cm W P [] tNext sNil := ⟨pss_nil, fun ρ r e F σ H D hr hp => by cases e; exact hp F σ H (Post.refl hr)⟩
theorem sse_one (h : SE X cm W P st t m) : SSE X cm W P [st] t m := ⟨pss_one h.ps, h.sim⟩
theorem sim_seq {K : PySem.W.Frag} (h1 : SimS K cm W P t1 m1) (h2 : SimS K cm W P t2 m2) : SimS K cm W P (tSeq t1 t2) (sSeq m1 m2) := by
  intro ρ r e F σ H D hr hp
  unfold sSeq at e
  cases q : m1 ρ with
  | none => rw [q] at e; cases e
  | some x =>
    rw [q] at e
    refine h1 ρ x q F σ H { D with nx := t2 D } hr ?_
    cases x with
    | nx ρ' => exact fun F' σ' H' p => h2 ρ' r e F' σ' H' D p.rel (hp.trans p)
    | bk ρ' => cases e; exact hp
    | ct ρ' => cases e; exact hp
    | rt s ρ' => cases e; exact hp
    | ex C fs ρ' => cases e; exact hp
theorem sse_cons (h1 : SE X cm W P st t m1) (h2 : SSE X cm W P rest u m2) : SSE X cm W P (st :: rest) (tSeq t u) (sSeq m1 m2) := ⟨pss_cons h1.ps h2.pss, sim_seq h1.sim h2.sim⟩
def sBreak : MS := fun ρ => some (.bk ρ)
def sCont : MS := fun ρ => some (.ct ρ)
/-- return e -/
def sRet (m : ME S) : MS := m.thn fun s ρ => some (.rt s ρ)
theorem se_ret {mo : ME S} (h : OE X cm W e te mo) : SE X cm W P (.Return (some e) pos) (tRet te) (sRet mo) := by
  refine ⟨ps_ret h.pe, fun ρ r e F σ H D hr hp => ?_⟩
  refine h.sim.stepS e hr hp fun s ρ1 v F1 H1 e1 p1 r1 => ?_
  cases e1
  exact hp v F1 σ H1 p1.any r1
def sRetN : MS := fun ρ => some (.rt (.val .non) ρ)
/-- an expression whose value is dropped -/
def sDrop {α : Type} (m : ME α) : MS := m.thn fun _ ρ => some (.nx ρ)
theorem se_exprP {mo : ME S} (h : BE X cm W e te mo) (hs : swapsWith e none pos.line X.env = pure false := by rfl) : SE X cm W P (.Expr e pos) (tDrop te) (sDrop mo) := by
  refine ⟨ps_expr h.pe hs, fun ρ r e F σ H D hr hp => ?_⟩
  refine h.sim.stepS e hr hp fun s ρ1 v F1 H1 e1 p1 r1 => ?_
  cases e1
  exact hp F1 σ H1 p1.any
theorem se_expr {mo : ME S} (h : OE X cm W e te mo) (hs : swapsWith e none pos.line X.env = pure false := by rfl) : SE X cm W P (.Expr e pos) (tDrop te) (sDrop mo) := se_exprP (be_own h) hs
/-- if -/
def sIf (c : ME Bool) (a b : MS) : MS := c.thn fun c => if c then a else b
theorem se_if {ma mb : MS} (hc : TEs X cm W c tA mA) (ha : SSE X cm W P ba t ma) (hb : SSE X cm W P bb u mb) : SE X cm W P (.If c ba bb pos) (tIfS tA t u) (sIf mA ma mb) := by
  refine ⟨ps_if hc.pt ha.pss hb.pss, fun ρ r e F σ H D hr hp => ?_⟩
  refine hc.sim.stepS e hr hp fun c ρ1 c' F1 H1 e1 p1 r1 => ?_
  cases (show c' = c from r1)
  cases c with
  | true => exact ha.sim ρ1 r e1 F1 σ H1 D p1.rel (hp.trans p1.any)
  | false => exact hb.sim ρ1 r e1 F1 σ H1 D p1.rel (hp.trans p1.any)
/-! ### targets -/
abbrev MG := S → Slots → Option Slots
def SimG (K : PySem.W.Frag) (cm : Wd) (P : Nat → Bool) (g : TG) (m : MG) : Prop := ∀ s ρ ρ', m s ρ = some ρ' → ∀ F σ H v Q, Rel K cm F σ H ρ → RepS K cm F H v s → (∀ a, v = .ref a → s.own = true → ¬ owns σ ρ a) →
  (∀ F' σ' H', Rel K cm F' σ' H' ρ' → (∀ a o, F a = some o → F' a = some o) → (∀ a, F' a ≠ none → F a ≠ none ∨ owns σ ρ a ∨ H a = none) → (∀ a o, H a = some o → ¬ owns σ ρ a → H' a = some o) →
    (∀ a, owns σ' ρ' a → owns σ ρ a ∨ H a = none ∨ (v = .ref a ∧ s.own = true)) → (∀ i, P i = true → σ'[i]? = σ[i]?) → σ'.length = σ.length → Q σ' H') → g v σ H Q
structure GE (X : Cx) (cm : Wd) (P : Nat → Bool) (tg : Expr) (g : TG) (m : MG) : Prop where
  pg : PG X tg g
  sim : SimG X.K cm P g m
def gSetM (i : Nat) : MG := fun s ρ => if i < ρ.length then some (ρ.set i s) else none
theorem sim_gname {K : PySem.W.Frag} {i : Nat} (hP : P i = false) : SimG K cm P (gName i) (gSetM i) := by
  intro s ρ ρ' e F σ H v Q hr r f hQ
  unfold gSetM at e
  split at e
  · rename_i hl
    cases e
    obtain ⟨h1, h2, h3⟩ := Post.store hr r f hl hP
    exact hQ F _ H h1 (fun _ _ h => h) (fun _ h => .inl h) (fun _ _ h _ => h) (fun a h => (h3 a h).elim .inl fun z => .inr (.inr z)) h2 (by simp)
  · cases e
theorem ge_name {i : Nat} {x : Str} (hN : X.N.Nodup) (hi : X.N[i]? = some x) (hx : Loc X.env.scope x) (hP : P i = false := by rfl) (hf : X.fn x = true ∨ X.env.scope.names.lookup x = some .local := by first | exact .inl rfl | exact .inr rfl | assumption) : GE X cm P (.Name x pos) (gName i) (gSetM i) := ⟨pg_name hN hi hx hf, sim_gname hP⟩
/-- several targets of plain data -/
abbrev MGs := List D → Slots → Option Slots
def SimGs (K : PySem.W.Frag) (cm : Wd) (P : Nat → Bool) (g : TGs) (m : MGs) : Prop := ∀ ds ρ ρ', m ds ρ = some ρ' → ∀ F σ H vs Q, Rel K cm F σ H ρ → RepL K cm F vs ds →
  (∀ F' σ' H', Post K cm P F σ H ρ F' σ' H' ρ' → Q σ' H') → g vs σ H Q
structure GEs (X : Cx) (cm : Wd) (P : Nat → Bool) (tgs : List Expr) (g : TGs) (m : MGs) : Prop where
  pgs : PGs X tgs g
  sim : SimGs X.K cm P g m
def gNilM : MGs := fun ds ρ => match ds with
  | [] => some ρ
  | _ => none
def gConsM (m : MG) (ms : MGs) : MGs := fun ds ρ => match ds with
  | d :: r => (m (.val d) ρ).bind (ms r)
  | _ => none
theorem ges_nil : GEs X cm P [] gNil gNilM := by
  refine ⟨pgs_nil, fun ds ρ ρ' e F σ H vs Q hr r hQ => ?_⟩
  cases ds with
  | nil => cases r; cases e; exact ⟨rfl, hQ F σ H (Post.refl hr)⟩
  | cons _ _ => cases e
theorem ges_cons {tg : Expr} {tgs : List Expr} {g : TG} {gs : TGs} {m : MG} {ms : MGs} (h1 : GE X cm P tg g m) (h2 : GEs X cm P tgs gs ms)
    (hs : (assignEach (tg :: tgs) X.env).map (·.2) = assign tg X.env :: (assignEach tgs X.env).map (·.2) := by rfl) : GEs X cm P (tg :: tgs) (gCons g gs) (gConsM m ms) := by
  refine ⟨pgs_cons h1.pg h2.pgs hs, fun ds ρ ρ' e F σ H vs Q hr r hQ => ?_⟩
  cases ds with
  | nil => cases e
  | cons d ds =>
    cases r with
    | cons rd rr =>
      simp only [gConsM] at e
      cases q : m (.val d) ρ with
      | none => rw [q] at e; cases e
      | some ρ1 =>
        rw [q] at e
        refine ⟨_, _, rfl, h1.sim _ ρ ρ1 q F σ H _ _ hr (.val rd) (fun _ _ z => by cases z) fun F1 σ1 H1 r1 a1 a2 a3 a4 a5 a6 => ?_⟩
        have p1 : Post X.K cm P F σ H ρ F1 σ1 H1 ρ1 := ⟨r1, a1, a2, a3, fun a h => (a4 a h).elim .inl fun z => z.elim .inr fun z => (by cases z.2), a5, a6⟩
        exact h2.sim ds ρ1 ρ' e F1 σ1 H1 _ Q r1 (RepL.mono a1 rr) fun F2 σ2 H2 p2 => hQ F2 σ2 H2 (p1.trans p2)
/-- a, b, .. = a tuple or a list of that length -/
def gTL (K : PySem.W.Frag) (n : Nat) (t : TGs) : TG := fun v σ H Q => gTup K n t v σ H Q ∨ gUnl K n t v σ H Q
theorem pg_tl {es : List Expr} {k : Nat} {t : TGs} {n : Nat} (hc : X.calm = true) (h : PGs X es t) (hn : (assignEach es X.env).length = n := by rfl) (hst : (assignEach es X.env).findIdx? (·.1) = none := by rfl) : PG X (.Tuple es k pos) (gTL X.K n t) :=
  ⟨fun pins s σ H v u Q I r hw => hw.elim ((pg_tup hc h hn hst).run pins s σ H v u Q I r) ((pg_unl hc h hn hst).run pins s σ H v u Q I r)⟩
def gTupM (n : Nat) (ms : MGs) : MG := fun s ρ => match s with
  | .val (.tup xs) => if xs.length = n then ms xs ρ else none
  | .val (.lst xs) => if xs.length = n then ms xs ρ else none
  | _ => none
theorem ge_tup {es : List Expr} {k : Nat} {g : TGs} {ms : MGs} {n : Nat} (hc : X.calm = true) (h : GEs X cm P es g ms) (hn : (assignEach es X.env).length = n := by rfl) (hst : (assignEach es X.env).findIdx? (·.1) = none := by rfl) :
    GE X cm P (.Tuple es k pos) (gTL X.K n g) (gTupM n ms) := by
  refine ⟨pg_tl hc h.pgs hn hst, fun s ρ ρ' e F σ H v Q hr r f hQ => ?_⟩
  cases s with
  | val d =>
    cases d with
    | tup xs =>
      simp only [gTupM] at e
      split at e
      · rename_i hl
        cases r.of_val with
        | tup h1 h2 =>
          exact .inl ⟨_, _, rfl, SqT.of (hr.sub _ _ h1), by rw [h2.length]; exact hl, h.sim xs ρ ρ' e F σ H _ Q hr h2 fun F' σ' H' p => hQ F' σ' H' p.rel p.mono p.lim p.keep (fun a h => (p.new a h).elim .inl fun z => .inr (.inl z)) p.pin p.sl⟩
      · cases e
    | lst xs =>
      simp only [gTupM] at e
      split at e
      · rename_i hl
        cases r.of_val with
        | lst h1 h2 =>
          exact .inr ⟨_, _, rfl, SqL.of (hr.sub _ _ h1), by rw [h2.length]; exact hl, h.sim xs ρ ρ' e F σ H _ Q hr h2 fun F' σ' H' p => hQ F' σ' H' p.rel p.mono p.lim p.keep (fun a h => (p.new a h).elim .inl fun z => .inr (.inl z)) p.pin p.sl⟩
      · cases e
    | _ => cases e
  | _ => cases e
/-- target = e -/
def sAsg (m : ME S) (g : MG) : MS := m.thn fun s ρ => (g s ρ).map Out.nx
theorem sim_asg {K : PySem.W.Frag} {g : TG} {mo : ME S} {mg : MG} (h : Sim K cm W (RO K cm) te mo) (hg : SimG K cm P g mg) : SimS K cm W P (tAsg te g) (sAsg mo mg) := by
  intro ρ r e F σ H D hr hp
  refine h.stepS e hr hp fun s ρ1 v F1 H1 e1 p1 r1 => ?_
  cases q : mg s ρ1 with
  | none => rw [q] at e1; cases e1
  | some ρ2 =>
    rw [q] at e1
    cases e1
    refine hg s ρ1 ρ2 q F1 σ H1 v D.nx p1.rel r1.1 (fun a e o => (r1.2 a e o).1) fun F2 σ2 H2 b0 b1 b2 b3 b4 b5 b6 => hp F2 σ2 H2 ?_
    refine ⟨b0, fun a o h => b1 a o (p1.mono a o h), fun a h => ?_, fun a o h n => ?_, fun a h => ?_, fun i h => b5 i h, b6⟩
    · rcases b2 a h with z | z | z
      · exact p1.lim a z
      · exact .inr (p1.new a z)
      · exact .inr (p1.gone z)
    · refine b3 a o (p1.keep a o h n) fun z => ?_
      rcases p1.new a z with z | z
      · exact n z
      · rw [h] at z; cases z
    · rcases b4 a h with z | z | z
      · exact p1.new a z
      · exact p1.gone z
      · exact (r1.2 a z.1 z.2).2
theorem se_asg {tg : Expr} {g : TG} {mo : ME S} {mg : MG} (h : OE X cm W e te mo) (hg : GE X cm P tg g mg) (hs : swapsWithSole [tg] e pos.line X.env = pure false := by rfl) (hw : swappedStores [tg] e X.env = pure none := by rfl)
    (h1 : (assignEach [tg] X.env).map (·.2) = [assign tg X.env] := by rfl) : SE X cm W P (.Assign [tg] e pos) (tAsg te g) (sAsg mo mg) := ⟨ps_asg h.pe hg.pg hs hw h1, sim_asg h.sim hg.sim⟩
/-! ### augmented assignment of a name -/
def sAug (i : Nat) (g : D → D → Option D) (m : ME D) : MS := fun ρ => match ρ[i]? with
  | some (.val x) => (m.thn fun y ρ' => match g x y with
    | some z => if i < ρ'.length then some (.nx (ρ'.set i (.val z))) else none
    | none => none) ρ
  | _ => none
def IpD (K : PySem.W.Frag) (cm : Wd) (r : TIp) (g : D → D → Option D) : Prop := ∀ {F H x y dx dy z Q}, Rep K cm F x dx → Rep K cm F y dy → g dx dy = some z → (∀ v, Rep K cm F v z → Q v H) → r x y H Q
def gAddI : D → D → Option D := fun x y => match x, y with
  | .int i, .int j => some (.int (i + j))
  | _, _ => none
def gSubI : D → D → Option D := fun x y => match x, y with
  | .int i, .int j => some (.int (i - j))
  | _, _ => none
/-! ### a, b = e1, e2 -/
def sPar (i j : Nat) (m : ME (List D)) : MS := m.thn fun ds ρ => match ds with
  | [x, y] => if i < ρ.length ∧ j < ρ.length then some (.nx ((ρ.set i (.val x)).set j (.val y))) else none
  | _ => none
/-! ### while -/
def sWhile (c : ME Bool) (b : MS) : Nat → MS
  | 0 => fun _ => none
  | n + 1 => c.thn fun k ρ => if k then (match b ρ with
    | some (.nx ρ') => sWhile c b n ρ'
    | some (.ct ρ') => sWhile c b n ρ'
    | some (.bk ρ') => some (.nx ρ')
    | r => r) else some (.nx ρ)
end
end L2.Fn
set_option maxRecDepth 100000
set_option maxHeartbeats 4000000
/-! FnD: for, comprehensions. -/
namespace L2.Fn
open PySem PySem.Spec PyProof.Rows L2

/-- what a for walks: the items as data -/
structure Wk (K : PySem.W.Frag) (cm : Wd) (F : Hp) (J : It) (ds : List D) : Prop where
  stop : ∀ (i : Nat) (H : Hp), (∀ a o, F a = some o → H a = some o) → ds.length ≤ i → J.stop i H
  go : ∀ (i : Nat) (H : Hp), (∀ a o, F a = some o → H a = some o) → i < ds.length → J.go i H
  yld : ∀ (i : Nat) (d : D), ds[i]? = some d → ∀ (F1 : Hp) (σ1 : St) (H1 : Hp) (ρ1 : Slots) (x : V) (H2 : Hp), (∀ a o, F a = some o → F1 a = some o) → Rel K cm F1 σ1 H1 ρ1 → J.yld i H1 x H2 →
    ∃ F2, Post K cm pinAll F1 σ1 H1 ρ1 F2 σ1 H2 ρ1 ∧ Rep K cm F2 x d
section
variable (K : PySem.W.Frag) (cm : Wd) (W : WX)
def IPost (F : Hp) (σ : St) (H : Hp) (ρ : Slots) (R : It → Hp → Prop) : Ex (List D) → Prop
  | .ok ds ρ' => ∀ J F' H', Post K cm pinAll F σ H ρ F' σ H' ρ' → Wk K cm F' J ds → R J H'
  | .ex C fs ρ' => ∀ od F' H', Post K cm pinAll F σ H ρ F' σ H' ρ' → ExR K cm F' od fs → W (.ref (cm C)) od σ H'
def SimI (wi : TI) (m : ME (List D)) : Prop := ∀ ρ r, m ρ = some r → ∀ F σ H R, Rel K cm F σ H ρ → IPost K cm W F σ H ρ R r → wi σ H R
end
structure IE (X : Cx) (cm : Wd) (W : WX) (tg iter : Expr) (wi : TI) (m : ME (List D)) : Prop where
  pi : PI X tg iter wi
  sim : SimI X.K cm W wi m
section
variable {K : PySem.W.Frag} {cm : Wd} {W : WX} {F : Hp} {a : Addr} {vs : List V} {ds : List D}
theorem wk_list (h : SqL K F a vs) (r : RepL K cm F vs ds) : Wk K cm F (Itl K a) ds where
  stop := fun i H m hl => ⟨vs, SqL.mono m h, by rw [r.length]; exact hl⟩
  go := fun i H m hl => by
    have hv : i < vs.length := by rw [r.length]; exact hl
    exact ⟨vs, vs[i], SqL.mono m h, by simp [hv]⟩
  yld := fun i d e F1 σ1 H1 ρ1 x H2 m hr y => by
    obtain ⟨rfl, y⟩ := y
    obtain ⟨v, h1, h2⟩ := r.get e
    have := y vs (SqL.mono (fun a o q => hr.sub a o (m a o q)) h)
    rw [h1] at this
    cases this
    exact ⟨F1, Post.refl hr, h2.mono m⟩
theorem wk_tup (h : SqT K F a vs) (r : RepL K cm F vs ds) : Wk K cm F (Itt K a) ds where
  stop := fun i H m hl => ⟨vs, SqT.mono m h, by rw [r.length]; exact hl⟩
  go := fun i H m hl => by
    have hv : i < vs.length := by rw [r.length]; exact hl
    exact ⟨vs, vs[i], SqT.mono m h, by simp [hv]⟩
  yld := fun i d e F1 σ1 H1 ρ1 x H2 m hr y => by
    obtain ⟨rfl, y⟩ := y
    obtain ⟨v, h1, h2⟩ := r.get e
    have := y vs (SqT.mono (fun a o q => hr.sub a o (m a o q)) h)
    rw [h1] at this
    cases this
    exact ⟨F1, Post.refl hr, h2.mono m⟩
/-- lo, lo + 1, .. -/
def rangeD (lo : Int) (n : Nat) : List D := (List.range n).map fun i => D.int (lo + (i : Nat))
theorem wk_range {lo : Int} {n : Nat} : Wk K cm F (Itr lo n) (rangeD lo n) where
  stop := fun i H m hl => by
    show n ≤ i
    simpa [rangeD] using hl
  go := fun i H m hl => by
    show i < n
    simpa [rangeD] using hl
  yld := fun i d e F1 σ1 H1 ρ1 x H2 m hr y => by
    obtain ⟨rfl, rfl⟩ := y
    have hi : i < n := by
      have := (List.getElem?_eq_some_iff.mp e).1
      simpa [rangeD] using this
    simp [rangeD, hi] at e
    subst e
    exact ⟨F1, Post.refl hr, .int⟩
/-- (0, x), (1, y), .. -/
def enumD (ds : List D) : List D := ds.mapIdx fun i d => D.tup [.int (i : Nat), d]
theorem wk_enum (h : SqL K F a vs) (r : RepL K cm F vs ds) : Wk K cm F (Ite K a) (enumD ds) where
  stop := fun i H m hl => ⟨vs, SqL.mono m h, by rw [r.length]; simpa [enumD] using hl⟩
  go := fun i H m hl => by
    have hv : i < vs.length := by rw [r.length]; simpa [enumD] using hl
    exact ⟨vs, vs[i], SqL.mono m h, by simp [hv]⟩
  yld := fun i d e F1 σ1 H1 ρ1 x H2 m hr y => by
    obtain ⟨T, z, rfl, hT, rfl, y⟩ := y
    simp only [enumD, List.getElem?_mapIdx] at e
    cases q : ds[i]? with
    | none => rw [q] at e; cases e
    | some d' =>
      rw [q] at e
      cases e
      obtain ⟨v, h1, h2⟩ := r.get q
      have := y vs (SqL.mono (fun a o q => hr.sub a o (m a o q)) h)
      rw [h1] at this
      cases this
      exact ⟨_, Post.cold hr hT, rd_tup (σ := σ1) (ρ := ρ1) hr hT (.cons .int (.cons (h2.mono m) .nil))⟩
end

section
variable {X : Cx} {cm : Wd} {W : WX} {tg e a b : Expr} {te ta tb : TE} {m ma mb : ME D} {pos p : Pos}
/-- over a list, over a tuple -/
def mItemsL (m : ME D) : ME (List D) := m.bnd fun d => match d with
  | .lst xs => ret xs
  | .scr xs => ret xs
  | _ => fun _ => none
def mItemsT (m : ME D) : ME (List D) := m.bnd fun d => match d with
  | .tup xs => ret xs
  | .ktp xs => ret xs
  | _ => fun _ => none
theorem IPost.move {F F1 : Hp} {σ : St} {H H1 : Hp} {ρ ρ1 : Slots} {K : PySem.W.Frag} {R : It → Hp → Prop} {r : Ex (List D)} (h : IPost K cm W F σ H ρ R r) (p : Post K cm pinAll F σ H ρ F1 σ H1 ρ1) : IPost K cm W F1 σ H1 ρ1 R r := by
  cases r with
  | ok d ρ' => exact fun v F' H' q x => h v F' H' (p.trans q) x
  | ex C fs ρ' => exact fun od F' H' q x => h od F' H' (p.trans q) x
theorem Sim.stepI {K : PySem.W.Frag} {β α : Type} {Rr : RR β α} {F : Hp} {σ : St} {H : Hp} {ρ : Slots} {t : St → Hp → (β → Hp → Prop) → Prop} {m : ME α} {k : α → ME (List D)} {r : Ex (List D)} {R : It → Hp → Prop} {Q' : β → Hp → Prop} (h : Sim K cm W Rr t m) (e : m.bnd k ρ = some r) (hr : Rel K cm F σ H ρ) (hp : IPost K cm W F σ H ρ R r)
    (hQ : ∀ d ρ1 v F1 H1, k d ρ1 = some r → Post K cm pinAll F σ H ρ F1 σ H1 ρ1 → Rr F σ H ρ F1 H1 ρ1 v d → Q' v H1) : t σ H Q' := by
  unfold ME.bnd at e
  cases q : m ρ with
  | none => rw [q] at e; cases e
  | some x =>
    rw [q] at e
    cases x with
    | ok a ρ' => exact h ρ _ q F σ H Q' hr fun v F' H' p x => hQ a ρ' v F' H' e p x
    | ex C fs ρ' =>
      cases e
      exact h ρ _ q F σ H Q' hr hp
/-! ### argument lists of plain data -/
def mNil : ME (List D) := ret []
def mCons (m : ME D) (ms : ME (List D)) : ME (List D) := m.bnd fun d => ms.bnd fun ds => ret (d :: ds)
theorem ae_nil : AE X cm W [] tNil mNil := ⟨pa_nil, fun ρ r e F σ H Q hr hp => by cases ret_ok e; exact hp [] F H (Post.refl hr) .nil⟩
theorem ae_cons {es : List Expr} {ts : TA} {ms : ME (List D)} (ha : DE X cm W a ta ma) (hs : AE X cm W es ts ms) (h : starEach (a :: es) X.env = (false, eval a X.env) :: starEach es X.env := by rfl) : AE X cm W (a :: es) (tCons ta ts) (mCons ma ms) := by
  refine ⟨pa_cons ha.pe hs.pa h, fun ρ r e F σ H Q hr hp => ?_⟩
  refine ha.sim.step e hr hp fun d ρ1 v F1 H1 e1 p1 r1 => ?_
  refine hs.sim.step e1 p1.rel (hp.trans tr_Ds p1) fun ds ρ2 vs F2 H2 e2 p2 r2 => ?_
  cases ret_ok e2
  exact hp _ F2 H2 (p1.trans p2) (.cons (Rep.mono p2.mono r1) r2)
/-- range -/
def rangeOk (i : Int) : Bool := decide (-(2 ^ 62) ≤ i) && decide (i < 2 ^ 62)
def mRange1 (m : ME D) : ME (List D) := m.bnd fun d => match d with
  | .int j => if rangeOk j then ret (rangeD 0 j.toNat) else fun _ => none
  | _ => fun _ => none
def mRange2 (ma mb : ME D) : ME (List D) := ma.bnd fun x => mb.bnd fun y => match x, y with
  | .int i, .int j => if rangeOk i && rangeOk j then ret (rangeD i (j - i).toNat) else fun _ => none
  | _, _ => fun _ => none
theorem rangeOk_of {i : Int} (h : rangeOk i = true) : -(2 ^ 62) ≤ i ∧ i < 2 ^ 62 := by
  obtain ⟨h1, h2⟩ := Bool.and_eq_true_iff.mp h
  exact ⟨of_decide_eq_true h1, of_decide_eq_true h2⟩
theorem ie_range1 (hg : Gl X "range") (hm : X.mg "range" = none) (h : DE X cm W a ta ma) (h1 : starEach (a :: []) X.env = (false, eval a X.env) :: starEach [] X.env := by rfl) (hs : starEach [a] X.env = [(false, eval a X.env)] := by rfl) : IE X cm W tg (.Call (.Name "range" p) [a] [] pos) (iRng1 (tCons ta tNil)) (mRange1 ma) := by
  refine ⟨pi_range1 hg hm (pa_cons h.pe pa_nil h1) hs, fun ρ r e F σ H R hr hp => ?_⟩
  refine h.sim.stepI e hr hp fun d ρ1 v F1 H1 e1 p1 r1 => ?_
  cases r1 with
  | @int j =>
    simp only at e1
    split at e1
    · rename_i hk
      cases ret_ok e1
      obtain ⟨q1, q2⟩ := rangeOk_of hk
      exact ⟨j, rfl, q1, q2, hp _ F1 H1 p1 wk_range⟩
    · cases e1
  | _ => cases e1
theorem ie_range2 (hg : Gl X "range") (hm : X.mg "range" = none) (h : DE X cm W a ta ma) (h' : DE X cm W b tb mb) (h1 : starEach (b :: []) X.env = (false, eval b X.env) :: starEach [] X.env := by rfl) (h2 : starEach (a :: b :: []) X.env = (false, eval a X.env) :: starEach [b] X.env := by rfl)
    (hs : starEach [a, b] X.env = [(false, eval a X.env), (false, eval b X.env)] := by rfl) (hs2 : starEach [b] X.env = [(false, eval b X.env)] := by rfl) : IE X cm W tg (.Call (.Name "range" p) [a, b] [] pos) (iRng2 (tCons ta (tCons tb tNil))) (mRange2 ma mb) := by
  refine ⟨pi_range2 hg hm (pa_cons h.pe (pa_cons h'.pe pa_nil h1) h2) hs hs2, fun ρ r e F σ H R hr hp => ?_⟩
  refine h.sim.stepI e hr hp fun dx ρ1 x F1 H1 e1 p1 r1 => ?_
  refine h'.sim.stepI e1 p1.rel (hp.move p1) fun dy ρ2 y F2 H2 e2 p2 r2 => ?_
  cases r1 with
  | @int i =>
    cases r2 with
    | @int j =>
      simp only at e2
      split at e2
      · rename_i hk
        cases ret_ok e2
        obtain ⟨hk1, hk2⟩ := Bool.and_eq_true_iff.mp hk
        obtain ⟨q1, q2⟩ := rangeOk_of hk1
        obtain ⟨q3, q4⟩ := rangeOk_of hk2
        exact ⟨i, j, rfl, ⟨q1, q2, q3, q4⟩, hp _ F2 H2 (p1.trans p2) wk_range⟩
      · cases e2
    | _ => cases e2
  | _ => cases e2
/-- enumerate of a list -/
def mEnumL (m : ME D) : ME (List D) := m.bnd fun d => match d with
  | .lst xs => ret (enumD xs)
  | .scr xs => ret (enumD xs)
  | _ => fun _ => none
/-! ### for -/
def sLoop (g : MG) (b : MS) : List D → MS
  | [] => fun ρ => some (.nx ρ)
  | d :: ds => fun ρ => match g (.val d) ρ with
    | none => none
    | some ρ1 => match b ρ1 with
      | some (.nx ρ') => sLoop g b ds ρ'
      | some (.ct ρ') => sLoop g b ds ρ'
      | some (.bk ρ') => some (.nx ρ')
      | r => r
def sFor (it : ME (List D)) (g : MG) (b : MS) : MS := it.thn fun ds => sLoop g b ds
theorem se_for {P : Nat → Bool} {iter : Expr} {body : List Stmt} {wi : TI} {g : TG} {tb : TS} {mi : ME (List D)} {mg : MG} {mb : MS} (hp : PassesOwn (model X.prog X.w) X.A X.env X.xe) (hc : X.calm = true) (hi : IE X cm W tg iter wi mi) (hg : GE X cm P tg g mg) (hb : SSE X cm W P body tb mb)
    (hs : ∀ x, foldedSetIterable iter X.env x = pure x := by intro _; rfl) : SE X cm W P (.For tg iter body [] pos) (tFor wi g tb) (sFor mi mg mb) := by
  refine ⟨ps_for hp hc hi.pi hg.pg hb.pss hs, fun ρ r e F σ H D hr hpost => ?_⟩
  unfold sFor ME.thn at e
  cases q : mi ρ with
  | none => rw [q] at e; cases e
  | some x =>
    rw [q] at e
    cases x with
    | ex C fs ρ' =>
      cases e
      exact hi.sim ρ _ q F σ H _ hr fun od F' H' p x => hpost od F' σ H' p.any x
    | ok ds ρ' =>
      refine hi.sim ρ _ q F σ H _ hr fun J F' H' p wk => ?_
      refine ⟨fun i n σ H => ∃ F1 ρ1, n = ds.length - i ∧ i ≤ ds.length ∧ (∀ a o, F' a = some o → F1 a = some o) ∧ Rel X.K cm F1 σ H ρ1 ∧ sLoop mg mb (ds.drop i) ρ1 = some r ∧ SPost X.K cm W P F1 σ H ρ1 D r,
        ⟨ds.length, F', ρ', by simp, Nat.zero_le _, fun _ _ h => h, p.rel, by simpa using e, hpost.trans p.any⟩, ?_⟩
      rintro i n σ1 H1 ⟨F1, ρ1, rfl, hi', m1, hr1, e1, hp1⟩
      by_cases hlt : i < ds.length
      · have hd : ds.drop i = ds[i] :: ds.drop (i + 1) := List.drop_eq_getElem_cons hlt
        rw [hd] at e1
        refine .inr ⟨wk.go i H1 (fun a o h => hr1.sub a o (m1 a o h)) hlt, _, fun σ' H' z => ⟨ds.length - (i + 1), by omega, z⟩, fun x H2 y => ?_⟩
        obtain ⟨F2, p2, rx⟩ := wk.yld i ds[i] (by simp [hlt]) F1 σ1 H1 ρ1 x H2 m1 hr1 y
        simp only [sLoop] at e1
        cases q2 : mg (.val ds[i]) ρ1 with
        | none => rw [q2] at e1; cases e1
        | some ρ2 =>
          rw [q2] at e1
          simp only at e1
          refine hg.sim _ ρ1 ρ2 q2 F2 σ1 H2 x _ p2.rel (.val rx) (fun _ _ z => by cases z) fun F3 σ3 H3 b0 b1 b2 b3 b4 b5 b6 => ?_
          have p3 : Post X.K cm P F2 σ1 H2 ρ1 F3 σ3 H3 ρ2 := ⟨b0, b1, b2, b3, fun a h => (b4 a h).elim .inl fun z => z.elim .inr fun z => (by cases z.2), b5, b6⟩
          have p23 := (p2.any (P' := P)).trans p3
          have hp3 := hp1.trans p23
          have m3 : ∀ a o, F' a = some o → F3 a = some o := fun a o h => p23.mono a o (m1 a o h)
          cases q4 : mb ρ2 with
          | none => rw [q4] at e1; cases e1
          | some x4 =>
            rw [q4] at e1
            refine hb.sim ρ2 x4 q4 F3 σ3 H3 _ b0 ?_
            cases x4 with
            | nx ρ5 => exact fun F5 σ5 H5 p5 => ⟨F5, ρ5, rfl, hlt, fun a o h => p5.mono a o (m3 a o h), p5.rel, e1, hp3.trans p5⟩
            | ct ρ5 => exact fun F5 σ5 H5 p5 => ⟨F5, ρ5, rfl, hlt, fun a o h => p5.mono a o (m3 a o h), p5.rel, e1, hp3.trans p5⟩
            | bk ρ5 => cases e1; exact hp3
            | rt s ρ5 => cases e1; exact hp3
            | ex C fs ρ5 => cases e1; exact hp3
      · have ei : i = ds.length := by omega
        subst ei
        rw [List.drop_length] at e1
        cases e1
        exact .inl ⟨wk.stop ds.length H1 (fun a o h => hr1.sub a o (m1 a o h)) (Nat.le_refl _), hp1 F1 σ1 H1 (Post.refl hr1)⟩

/-! ### comprehensions -/
def wipeE (ρ : Slots) : List Nat → Slots
  | [] => ρ
  | v :: vs => (wipeE ρ vs).set v .no
def pinOut (vs : List Nat) : Nat → Bool := fun i => !(vs.contains i)
section
variable {K : PySem.W.Frag} {F F' : Hp} {σ σ' : St} {H H' : Hp} {ρ ρ' : Slots}
theorem wipeE_length : ∀ vs : List Nat, (wipeE ρ vs).length = ρ.length
  | [] => rfl
  | v :: vs => by simp [wipeE, wipeE_length vs]
theorem wipeE_in {i : Nat} : ∀ {vs : List Nat}, i ∈ vs → i < ρ.length → (wipeE ρ vs)[i]? = some .no
  | v :: vs, h, hl => by
    unfold wipeE
    by_cases e : v = i
    · subst e; rw [List.getElem?_set_self (by rw [wipeE_length]; exact hl)]
    · rw [List.getElem?_set_ne e]
      exact wipeE_in ((List.mem_cons.mp h).resolve_left (Ne.symm e)) hl
theorem wipeE_out {i : Nat} : ∀ {vs : List Nat}, i ∉ vs → (wipeE ρ vs)[i]? = ρ[i]?
  | [], _ => rfl
  | v :: vs, h => by
    have h1 : v ≠ i := fun e => h (by rw [e]; exact List.mem_cons_self)
    unfold wipeE
    rw [List.getElem?_set_ne h1]
    exact wipeE_out fun z => h (List.mem_cons_of_mem _ z)
theorem wipe_slot {vs : List Nat} {i : Nat} {s : S} (h : (wipeE ρ vs)[i]? = some s) (n : s ≠ .no) : i ∉ vs ∧ ρ[i]? = some s := by
  by_cases q : i ∈ vs
  · have hl : i < ρ.length := by
      have := (List.getElem?_eq_some_iff.mp h).1
      rwa [wipeE_length] at this
    rw [wipeE_in q hl] at h
    cases h; exact absurd rfl n
  · rw [wipeE_out q] at h; exact ⟨q, h⟩
theorem wipe_own {vs : List Nat} {i : Nat} {a : Addr} (h : ownAt (wipe σ vs) (wipeE ρ vs) i a) : i ∉ vs ∧ ownAt σ ρ i a := by
  obtain ⟨s, h1, h2, h3⟩ := h
  obtain ⟨q, h1⟩ := wipe_slot h1 (by rintro rfl; cases h2)
  rw [wipe_out q] at h3
  exact ⟨q, s, h1, h2, h3⟩
theorem Rel.wiped (R : Rel K cm F σ H ρ) (vs : List Nat) : Rel K cm F (wipe σ vs) H (wipeE ρ vs) := by
  refine ⟨by rw [wipe_length, wipeE_length, R.len], R.sub, fun i s h n => ?_, fun i j a h1 h2 => R.sep i j a (wipe_own h1).2 (wipe_own h2).2⟩
  obtain ⟨q, h⟩ := wipe_slot h n
  rw [wipe_out q]
  exact R.slot i s h n
/-- what a comprehension's turn leaves, seen from outside -/
theorem Post.unwipe {vs : List Nat} (R : Rel K cm F σ H ρ) (p : Post K cm (pinOut vs) F (wipe σ vs) H (wipeE ρ vs) F' σ' H' ρ') : Post K cm pinAll F σ H ρ F' σ H' (wipeE ρ' vs) := by
  have own' : ∀ a, owns (wipe σ vs) (wipeE ρ vs) a → owns σ ρ a := fun a ⟨i, h⟩ => ⟨i, (wipe_own h).2⟩
  have es : ∀ i, i ∉ vs → σ'[i]? = σ[i]? := fun i h => by
    rw [p.pin i (by simpa [pinOut] using h), wipe_out h]
  have own2 : ∀ i a, ownAt σ (wipeE ρ' vs) i a → ownAt σ' ρ' i a := fun i a ⟨s, h1, h2, h3⟩ => by
    obtain ⟨q, h1⟩ := wipe_slot h1 (by rintro rfl; cases h2)
    exact ⟨s, h1, h2, by rw [es i q]; exact h3⟩
  refine ⟨⟨?_, p.rel.sub, fun i s h n => ?_, fun i j a h1 h2 => p.rel.sep i j a (own2 i a h1) (own2 j a h2)⟩, p.mono, fun a h => ?_, fun a o h n => p.keep a o h fun z => n (own' a z), fun a ⟨i, h⟩ => ?_, fun _ _ => rfl, rfl⟩
  · have h1 := p.rel.len
    have h2 : σ'.length = (wipe σ vs).length := p.sl
    rw [wipeE_length, ← h1, h2, wipe_length]
  · obtain ⟨q, h⟩ := wipe_slot h n
    obtain ⟨v, h1, h2⟩ := p.rel.slot i s h n
    exact ⟨v, by rw [← es i q]; exact h1, h2⟩
  · rcases p.lim a h with z | z | z
    · exact .inl z
    · exact .inr (.inl (own' a z))
    · exact .inr (.inr z)
  · rcases p.new a ⟨i, own2 i a h⟩ with z | z
    · exact .inl (own' a z)
    · exact .inr z
theorem wipe_ext {vs : List Nat} (hl : σ'.length = (wipe σ vs).length) (h : ∀ i, i ∉ vs → σ'[i]? = (wipe σ vs)[i]?) : wipe σ' vs = wipe σ vs := by
  have hl' : σ'.length = σ.length := by rw [hl, wipe_length]
  apply List.ext_getElem?
  intro i
  by_cases q : i ∈ vs
  · by_cases hi : i < σ.length
    · have z : ∀ {τ : St} {ws : List Nat}, i ∈ ws → i < τ.length → (wipe τ ws)[i]? = some none := by
        intro τ ws
        induction ws with
        | nil => intro h; cases h
        | cons w ws ih =>
          intro h hl
          unfold wipe
          by_cases e : w = i
          · subst e; rw [List.getElem?_set_self (by rw [wipe_length]; exact hl)]
          · rw [List.getElem?_set_ne e]
            exact ih ((List.mem_cons.mp h).resolve_left (Ne.symm e)) hl
      rw [z q (by rw [hl']; exact hi), z q hi]
    · rw [List.getElem?_eq_none (by rw [wipe_length, hl']; omega), List.getElem?_eq_none (by rw [wipe_length]; omega)]
  · rw [wipe_out q, wipe_out q, h i q, wipe_out q]
/-- an object that is nobody's is changed -/
theorem Post.bump {Dd : Addr} {o : HO} {P : Nat → Bool} (p : Post K cm P F σ H ρ F' σ' H' ρ') (h0 : H Dd = none) (h1 : F' Dd = none) (h2 : ¬ owns σ' ρ' Dd) : Post K cm P F σ H ρ F' σ' (upd H' Dd o) ρ' := by
  refine ⟨⟨p.rel.len, fun a u h => ?_, fun i s q1 q2 => ?_, p.rel.sep⟩, p.mono, p.lim, fun a u h n => ?_, p.new, p.pin, p.sl⟩
  · rw [upd_ne (ne_of_none h h1)]; exact p.rel.sub a u h
  · obtain ⟨v, h3, h4⟩ := p.rel.slot i s q1 q2
    refine ⟨v, h3, ?_⟩
    cases h4 with
    | val r => exact .val r
    | err q r => exact .err q r
    | @own a o' s h5 h6 h7 =>
      have q : a ≠ Dd := fun e => h2 ⟨i, s, q1, h7.own, by rw [← e]; exact h3⟩
      exact .own (by rw [upd_ne q]; exact h5) h6 h7
  · rw [upd_ne (ne_of_none h h0)]; exact p.keep a u h n
theorem Post.safe {Dd : Addr} {o : HO} {P : Nat → Bool} (p : Post K cm P F σ H ρ F' σ' H' ρ') (h0 : H Dd = some o) (h1 : F Dd = none) (h2 : ¬ owns σ ρ Dd) : H' Dd = some o ∧ F' Dd = none ∧ ¬ owns σ' ρ' Dd := by
  refine ⟨p.keep Dd o h0 h2, ?_, fun z => ?_⟩
  · cases e : F' Dd with
    | none => rfl
    | some u =>
      rcases p.lim Dd (by rw [e]; simp) with z | z | z
      · exact absurd h1 z
      · exact absurd z h2
      · rw [h0] at z; cases z
  · rcases p.new Dd z with z | z
    · exact h2 z
    · rw [h0] at z; cases z
end
def lcL (g : MG) (tt : ME Bool) (te : ME D) (vs : List Nat) : List D → List D → Slots → Option (List D × Slots)
  | [], acc, ρ => some (acc, ρ)
  | d :: ds, acc, ρ => match g (.val d) (wipeE ρ vs) with
    | none => none
    | some ρ1 => match tt ρ1 with
      | some (.ok true ρ2) => (match te ρ2 with
        | some (.ok y ρ3) => lcL g tt te vs ds (acc ++ [y]) (wipeE ρ3 vs)
        | _ => none)
      | some (.ok false ρ2) => lcL g tt te vs ds acc (wipeE ρ2 vs)
      | _ => none
def mLc (it : ME (List D)) (g : MG) (tt : ME Bool) (te : ME D) (vs : List Nat) : ME S := it.bnd fun ds ρ =>
  if ds.length ≤ sizeLine then (match lcL g tt te vs ds [] ρ with
    | some (ys, ρ') => some (.ok (.lst ys) ρ')
    | none => none) else none
abbrev WF : WX := fun _ _ _ _ => False
theorem sim_lc {K : PySem.W.Frag} {wi : TI} {g : TG} {tt : TT} {te : TE} {vs : List Nat} {mi : ME (List D)} {mg : MG} {mt : ME Bool} {me : ME D} (hi : SimI K cm W wi mi) (hg : SimG K cm (pinOut vs) g mg) (ht : Sim K cm WF RB tt mt) (he : Sim K cm WF (RD K cm) te me) :
    Sim K cm W (RO K cm) (tLc wi g tt te vs) (mLc mi mg mt me vs) := by
  intro ρ r e F σ H Q hr hp
  unfold mLc ME.bnd at e
  cases q : mi ρ with
  | none => rw [q] at e; cases e
  | some x =>
    rw [q] at e
    cases x with
    | ex C fs ρ' => cases e; exact hi ρ _ q F σ H _ hr hp
    | ok ds ρ' =>
      simp only at e
      split at e
      · rename_i hsz
        cases q2 : lcL mg mt me vs ds [] ρ' with
        | none => rw [q2] at e; cases e
        | some z =>
          obtain ⟨ys, ρe⟩ := z
          rw [q2] at e
          cases e
          refine hi ρ _ q F σ H _ hr fun J F' H' p wk => ?_
          intro Dd hD
          refine ⟨fun i n H2 => ∃ F1 ρ1 acc vacc, n = ds.length - i ∧ i ≤ ds.length ∧ (∀ a o, F' a = some o → F1 a = some o) ∧ Post K cm pinAll F' σ H' ρ' F1 σ H2 ρ1 ∧ lcL mg mt me vs (ds.drop i) acc ρ1 = some (ys, ρe) ∧
            H2 Dd = some (.lst vacc) ∧ F1 Dd = none ∧ (¬ owns σ ρ1 Dd) ∧ RepL K cm F1 vacc acc ∧ acc.length ≤ i, ⟨ds.length, F', ρ', [], [], by simp, Nat.zero_le _, fun _ _ h => h, Post.warm p.rel hD, by simpa using q2, upd_same, p.rel.noF hD, fun z => (p.rel.owned' z).1 hD, .nil, Nat.le_refl _⟩, ?_⟩
          rintro i n H2 ⟨F1, ρ1, acc, vacc, rfl, hi', m1, p1, e1, d1, d2, d3, d4, d5⟩
          by_cases hlt : i < ds.length
          · have hd : ds.drop i = ds[i] :: ds.drop (i + 1) := List.drop_eq_getElem_cons hlt
            rw [hd] at e1
            simp only [lcL] at e1
            refine .inr ⟨wk.go i H2 (fun a o h => p1.rel.sub a o (m1 a o h)) hlt, _, fun H3 z => ⟨ds.length - (i + 1), by omega, z⟩, fun x H3 y => ?_⟩
            obtain ⟨F2, p2, rx⟩ := wk.yld i ds[i] (by simp [hlt]) F1 σ H2 ρ1 x H3 m1 p1.rel y
            cases q3 : mg (.val ds[i]) (wipeE ρ1 vs) with
            | none => rw [q3] at e1; cases e1
            | some ρ2 =>
              rw [q3] at e1
              simp only at e1
              refine hg _ _ ρ2 q3 F2 (wipe σ vs) H3 x _ (p2.rel.wiped vs) (.val rx) (fun _ _ z => by cases z) fun F3 σ3 H4 b0 b1 b2 b3 b4 b5 b6 => ?_
              have p3 : Post K cm (pinOut vs) F2 (wipe σ vs) H3 (wipeE ρ1 vs) F3 σ3 H4 ρ2 := ⟨b0, b1, b2, b3, fun a h => (b4 a h).elim .inl fun z => z.elim .inr fun z => (by cases z.2), b5, b6⟩
              refine ⟨wipe_ext b6 fun i hi => b5 i (by simpa [pinOut] using hi), ?_⟩
              have s2 := p2.safe d1 d2 d3
              have own' : ∀ a, owns (wipe σ vs) (wipeE ρ1 vs) a → owns σ ρ1 a := fun a ⟨i, h⟩ => ⟨i, (wipe_own h).2⟩
              have s3 := p3.safe s2.1 s2.2.1 (fun z => s2.2.2 (own' _ z))
              cases q4 : mt ρ2 with
              | none => rw [q4] at e1; cases e1
              | some z4 =>
                rw [q4] at e1
                cases z4 with
                | ex C fs ρx => cases e1
                | ok b ρ3 =>
                  refine ht ρ2 _ q4 F3 σ3 H4 _ b0 fun b' F4 H5 p4 eb => ?_
                  cases (show b' = b from eb)
                  have s4 := p4.safe s3.1 s3.2.1 s3.2.2
                  cases b with
                  | false =>
                    rw [if_neg (by simp)]
                    simp only at e1
                    have pu := Post.unwipe p2.rel (p3.trans p4.any)
                    refine ⟨F4, wipeE ρ3 vs, acc, vacc, rfl, hlt, fun a o h => pu.mono a o (p2.mono a o (m1 a o h)), p1.trans (p2.trans pu), e1, s4.1, s4.2.1, ?_, d4.mono fun a o h => pu.mono a o (p2.mono a o h), by omega⟩
                    exact (pu.safe s2.1 s2.2.1 s2.2.2).2.2
                  | true =>
                    rw [if_pos rfl]
                    simp only at e1
                    cases q5 : me ρ3 with
                    | none => rw [q5] at e1; cases e1
                    | some z5 =>
                      rw [q5] at e1
                      cases z5 with
                      | ex C fs ρx => cases e1
                      | ok d ρ4 =>
                        simp only at e1
                        refine he ρ3 _ q5 F4 σ3 H5 _ p4.rel fun v F5 H6 p5 rv => ?_
                        have s5 := p5.safe s4.1 s4.2.1 s4.2.2
                        have pu := Post.unwipe p2.rel (p3.trans (p4.trans p5).any)
                        have s6 := (pu.safe s2.1 s2.2.1 s2.2.2)
                        have mm : ∀ a o, F1 a = some o → F5 a = some o := fun a o h => pu.mono a o (p2.mono a o h)
                        have lv := d4.length
                        refine ⟨vacc, s5.1, by omega, F5, wipeE ρ4 vs, acc ++ [d], vacc ++ [v], rfl, hlt, fun a o h => mm a o (m1 a o h), (p1.trans (p2.trans pu)).bump hD s6.2.1 s6.2.2, e1, upd_same, s6.2.1, s6.2.2, (d4.mono mm).append (.one rv), by simp; omega⟩
          · have ei : i = ds.length := by omega
            subst ei
            rw [List.drop_length] at e1
            cases e1
            refine .inl ⟨wk.stop ds.length H2 (fun a o h => p1.rel.sub a o (m1 a o h)) (Nat.le_refl _), hp _ F1 H2 (p.trans p1) ⟨.own d1 d2 (.lst d4), fun a e _ => ?_⟩⟩
            cases e
            refine ⟨d3, ?_⟩
            exact p.gone hD
      · cases e
section
variable {wi : TI} {g : TG} {tt : TT} {mi : ME (List D)} {mg : MG} {mt : ME Bool} {me : ME D} {elt tgt iter : Expr} {ifs : List Expr} {scope : Scope} {own : List (Str × Nat)}
/-- the tests of a comprehension -/
structure IFs (X : Cx) (cm : Wd) (W : WX) (ifs : List Expr) (t : TT) (m : ME Bool) : Prop where
  pts : PTs X ifs t
  sim : Sim X.K cm W RB t m
def mYes : ME Bool := ret true
theorem ifs_nil : IFs X cm W [] tYes mYes := ⟨pts_nil, fun ρ r e F σ H Q hr hp => by cases ret_ok e; exact hp true F H (Post.refl hr) rfl⟩
theorem ifs_one {c : Expr} {t : TT} {m : ME Bool} (h : TEs X cm W c t m) : IFs X cm W [c] t m := ⟨pts_one h.pt, h.sim⟩
theorem oe_lc (hc : X.calm = true) (hN : X.N.Nodup) (hi : IE X cm W tgt iter wi mi) (ok : BlkOk X.N X.env.scope scope own)
    (hg : ∀ (s : Shared) (H : Hp) (C : Addr) (cl : List (Str × Addr)) (fp : List Addr), GE (X.blk s H scope (compEnvC scope cl C X.env) fp) cm (pinOut (own.map (·.2))) tgt g mg)
    (ht : ∀ (s : Shared) (H : Hp) (C : Addr) (cl : List (Str × Addr)) (fp : List Addr), IFs (X.blk s H scope (compEnvC scope cl C X.env) fp) cm WF ifs tt mt)
    (he : ∀ (s : Shared) (H : Hp) (C : Addr) (cl : List (Str × Addr)) (fp : List Addr), DE (X.blk s H scope (compEnvC scope cl C X.env) fp) cm WF elt te me) (hs : ∀ x, foldedSetIterable iter X.env x = pure x := by intro _; rfl) :
    OE X cm W (.ListComp elt [⟨tgt, iter, ifs, 0⟩] scope pos) (tLc wi g tt te (own.map (·.2))) (mLc mi mg mt me (own.map (·.2))) :=
  ⟨pe_lc hc hN hi.pi ok (fun s H C cl fp => (hg s H C cl fp).pg) (fun s H C cl fp => (ht s H C cl fp).pts) (fun s H C cl fp => (he s H C cl fp).pe) hs,
    sim_lc hi.sim (hg X.s_0 X.H_0 0 [] []).sim (ht X.s_0 X.H_0 0 [] []).sim (he X.s_0 X.H_0 0 [] []).sim⟩
/-- name = [..] -/
theorem se_setLc {P : Nat → Bool} {i : Nat} {y : Str} {py spos : Pos} (hc : X.calm = true) (hN : X.N.Nodup) (hy : X.N[i]? = some y) (hyl : X.env.scope.names.lookup y = some .local)
    (hsw : swapsWith (.ListComp elt [⟨tgt, iter, ifs, 0⟩] scope pos) (some (.Name y py)) spos.line X.env = pure true) (hi : IE X cm W tgt iter wi mi) (ok : BlkOk X.N X.env.scope scope own)
    (hg : ∀ (s : Shared) (H : Hp) (C : Addr) (cl : List (Str × Addr)) (fp : List Addr), GE (X.blk s H scope (compEnvC scope cl C X.env) fp) cm (pinOut (own.map (·.2))) tgt g mg)
    (ht : ∀ (s : Shared) (H : Hp) (C : Addr) (cl : List (Str × Addr)) (fp : List Addr), IFs (X.blk s H scope (compEnvC scope cl C X.env) fp) cm WF ifs tt mt)
    (he : ∀ (s : Shared) (H : Hp) (C : Addr) (cl : List (Str × Addr)) (fp : List Addr), DE (X.blk s H scope (compEnvC scope cl C X.env) fp) cm WF elt te me) (hP : P i = false := by rfl) (hs : ∀ x, foldedSetIterable iter X.env x = pure x := by intro _; rfl) :
    SE X cm W P (.Assign [.Name y py] (.ListComp elt [⟨tgt, iter, ifs, 0⟩] scope pos) spos) (tAsg (tLc wi g tt te (own.map (·.2))) (gName i)) (sAsg (mLc mi mg mt me (own.map (·.2))) (gSetM i)) := by
  refine ⟨ps_setLc hc hN hy hyl hsw hi.pi ok (fun s H C cl fp => (hg s H C cl fp).pg) (fun s H C cl fp => (ht s H C cl fp).pts) (fun s H C cl fp => (he s H C cl fp).pe) hs, ?_⟩
  exact sim_asg (sim_lc hi.sim (hg X.s_0 X.H_0 0 [] []).sim (ht X.s_0 X.H_0 0 [] []).sim (he X.s_0 X.H_0 0 [] []).sim) (sim_gname hP)
end
end
end L2.Fn
set_option maxRecDepth 100000
set_option maxHeartbeats 4000000
/-! FnE: defs and their calls. -/
namespace L2.Fn
open PySem PySem.Spec PyProof.Rows L2

inductive CR where
  | ret (s : S) (ss : List S)
  | exc (C : Str) (fs : List (Str × D)) (ss : List S)
/-- what a def computes: of its parameters' slots the value handed back and the slots' ends -/
abbrev Fun' := List S → Option CR
def maskL : List Bool → Slots → List S
  | [], _ => []
  | _ :: bs, [] => .no :: maskL bs []
  | b :: bs, s :: ρ => (if b then s else .no) :: maskL bs ρ
def pinL (l : List Bool) : Nat → Bool := fun i => l.getD i false
def runDef (n : Nat) (l : List Bool) (m : MS) : Fun' := fun ss => match m (ss ++ List.replicate n .no) with
  | some (.nx ρ) => some (.ret (.val .non) (maskL l ρ))
  | some (.rt s ρ) => some (.ret s (maskL l ρ))
  | some (.ex C fs ρ) => some (.exc C fs (maskL l ρ))
  | _ => none
section
variable (K : PySem.W.Frag) (cm : Wd)
def CPost (F : Hp) (τ : St) (H : Hp) (ss : List S) (Q : VK) (E : XK) : CR → Prop
  | .ret s ss' => ∀ v F' H', Post K cm pinAll F τ H ss F' τ H' ss' → RR1 K cm F τ H ss F' τ H' ss' v s → Q v H'
  | .exc C fs ss' => ∀ od F' H', Post K cm pinAll F τ H ss F' τ H' ss' → ExR K cm F' od fs → E (.ref (cm C)) od H'
def spOf (n : Nat) (f : Fun') : Sp := fun vs H Q E => vs.length = n ∧ ∃ F ss r, Rel K cm F (vs.map some) H ss ∧ f ss = some r ∧ CPost K cm F (vs.map some) H ss Q E r
end
section
variable {K : PySem.W.Frag} {cm : Wd} {W : WX} {F F' : Hp} {σ σ' τ : St} {H H' : Hp} {ρ ρ' : Slots} {vs : List V} {ss : List S} {l : List Bool} {n : Nat}
theorem maskL_get {l : List Bool} {ρ : Slots} {i : Nat} {s : S} (h : (maskL l ρ)[i]? = some s) (hn : s ≠ .no) : l[i]? = some true ∧ ρ[i]? = some s := by
  induction l generalizing ρ i with
  | nil => simp [maskL] at h
  | cons b bs ih =>
    cases ρ with
    | nil =>
      cases i with
      | zero => simp [maskL] at h; exact absurd h.symm hn
      | succ i => have := ih (ρ := []) (i := i) (by simpa [maskL] using h); simpa using this
    | cons s' ρ =>
      cases i with
      | zero =>
        simp [maskL] at h
        cases b with
        | true => simp at h; subst h; simp
        | false => simp at h; exact absurd h.symm hn
      | succ i => have := ih (ρ := ρ) (i := i) (by simpa [maskL] using h); simpa using this
theorem maskL_length {l : List Bool} {ρ : Slots} : (maskL l ρ).length = l.length := by
  induction l generalizing ρ with
  | nil => rfl
  | cons b bs ih => cases ρ <;> simp [maskL, ih]
theorem start_get {N : List Str} {i : Nat} (h : i < vs.length) : (start N vs)[i]? = (vs.map some)[i]? := by
  unfold start
  rw [List.getElem?_append_left (by simpa using h)]
/-- the slots at a def's entry -/
theorem rel_start {N : List Str} (R : Rel K cm F (vs.map some) H ss) (hN : N.length = ss.length + n) : Rel K cm F (start N vs) H (ss ++ List.replicate n .no) := by
  have hl : vs.length = ss.length := by simpa using R.len
  have sl : (start N vs).length = ss.length + n := by simp [start, hl, hN]
  have get : ∀ i s, (ss ++ List.replicate n S.no)[i]? = some s → s ≠ .no → i < ss.length ∧ ss[i]? = some s := fun i s h hn => by
    by_cases hi : i < ss.length
    · rw [List.getElem?_append_left hi] at h; exact ⟨hi, h⟩
    · rw [List.getElem?_append_right (by omega), List.getElem?_replicate] at h
      split at h
      · cases h; exact absurd rfl hn
      · cases h
  have oi : ∀ i a, ownAt (start N vs) (ss ++ List.replicate n S.no) i a → ownAt (vs.map some) ss i a := fun i a ⟨s, h1, h2, h3⟩ => by
    obtain ⟨hi, h1⟩ := get i s h1 (by rintro rfl; cases h2)
    exact ⟨s, h1, h2, by rw [← start_get (N := N) (by omega)]; exact h3⟩
  refine ⟨by rw [sl]; simp, R.sub, fun i s h hn => ?_, fun i j a h1 h2 => R.sep i j a (oi i a h1) (oi j a h2)⟩
  obtain ⟨hi, h⟩ := get i s h hn
  rw [start_get (by omega)]
  exact R.slot i s h hn
theorem owns_start {N : List Str} {a : Addr} (hl : vs.length = ss.length) : owns (start N vs) (ss ++ List.replicate n .no) a ↔ owns (vs.map some) ss a := by
  constructor
  · rintro ⟨i, s, h1, h2, h3⟩
    by_cases hi : i < ss.length
    · rw [List.getElem?_append_left hi] at h1
      rw [start_get (by omega)] at h3
      exact ⟨i, s, h1, h2, h3⟩
    · rw [List.getElem?_append_right (by omega), List.getElem?_replicate] at h1
      split at h1
      · cases h1; cases h2
      · cases h1
  · rintro ⟨i, s, h1, h2, h3⟩
    have hi := (List.getElem?_eq_some_iff.mp h1).1
    exact ⟨i, s, by rw [List.getElem?_append_left hi]; exact h1, h2, by rw [start_get (by omega)]; exact h3⟩
theorem owns_mask {N : List Str} {a : Addr} (hv : vs.length = l.length) (pin : ∀ i, pinL l i = true → σ'[i]? = (start N vs)[i]?) (h : owns (vs.map some) (maskL l ρ') a) : owns σ' ρ' a := by
  obtain ⟨i, s, h1, h2, h3⟩ := h
  obtain ⟨q1, q2⟩ := maskL_get h1 (by rintro rfl; cases h2)
  have hi : i < l.length := (List.getElem?_eq_some_iff.mp q1).1
  exact ⟨i, s, q2, h2, by rw [pin i (by simp [pinL, List.getD, q1]), start_get (by omega)]; exact h3⟩
/-- a def's end, as its caller sees it -/
theorem post_end {N : List Str} (R : Rel K cm F (vs.map some) H ss) (hN : N.length = ss.length + n) (hl : l.length = ss.length) (p : Post K cm (pinL l) F (start N vs) H (ss ++ List.replicate n .no) F' σ' H' ρ') :
    Post K cm pinAll F (vs.map some) H ss F' (vs.map some) H' (maskL l ρ') := by
  have hv : vs.length = ss.length := by simpa using R.len
  have es : ∀ i, l[i]? = some true → σ'[i]? = (vs.map some)[i]? := fun i h => by
    have hi : i < l.length := (List.getElem?_eq_some_iff.mp h).1
    rw [p.pin i (by simp [pinL, List.getD, h]), start_get (by omega)]
  have oi : ∀ i a, ownAt (vs.map some) (maskL l ρ') i a → ownAt σ' ρ' i a := fun i a ⟨s, h1, h2, h3⟩ => by
    obtain ⟨q1, q2⟩ := maskL_get h1 (by rintro rfl; cases h2)
    exact ⟨s, q2, h2, by rw [es i q1]; exact h3⟩
  refine ⟨⟨by rw [maskL_length]; simp [hl, hv], p.rel.sub, fun i s h hn => ?_, fun i j a h1 h2 => p.rel.sep i j a (oi i a h1) (oi j a h2)⟩, p.mono, fun a h => ?_, fun a o h hn => p.keep a o h fun z => hn ((owns_start hv).mp z), fun a ⟨i, h⟩ => ?_, fun _ _ => rfl, rfl⟩
  · obtain ⟨q1, q2⟩ := maskL_get h hn
    obtain ⟨v, h1, h2⟩ := p.rel.slot i s q2 hn
    exact ⟨v, by rw [← es i q1]; exact h1, h2⟩
  · rcases p.lim a h with z | z | z
    · exact .inl z
    · exact .inr (.inl ((owns_start hv).mp z))
    · exact .inr (.inr z)
  · rcases p.new a ⟨i, oi i a h⟩ with z | z
    · exact .inl ((owns_start hv).mp z)
    · exact .inr z
end

/-- a def's promise, by its body -/
theorem fn_ok {P : Program} {w : World} {K : PySem.W.Frag} {cm : Wd} {mg : Str → Option Value} {base : Heap} {x qual : Str} {params : Arguments} {body : List Stmt} {scope : Scope} {dvs : List V} {kws : List (Str × V)} {f : Addr} {fd : FuncData} {N ps : List Str} {k n : Nat} {l : List Bool} {t : TS} {m : MS}
    (Fd : FunD K x qual params body scope dvs kws f fd) (Sc : FnScope N ps scope) (hN : N.length = ps.length + n) (hl : l.length = ps.length)
    (hb : ∀ (cdv : Value) (A : Around) (outer : List PySem.Env) (s : Shared) (H : Hp) (E : XK), Room k (A.deeper (envOfC qual scope s.heap.objs.size f cdv)) →
      ∃ t, SSE (cxOf (L2.CX P w) P w K mg base N qual scope f cdv A outer s H E) cm (fun cls d _ H => E cls d H) (pinL l) body t m) :
    FnOk P w K mg base (L2.CX P w) (k + 1) f fd ps (spOf K cm ps.length (runDef n l m)) := by
  refine Fd.ok Sc (fun vs H Q E h => h.1) fun cdv A outer s H vs Q E hr h => ?_
  obtain ⟨hv, F, ss, r, R, e, hp⟩ := h
  obtain ⟨t, hs⟩ := hb cdv A outer s H E hr
  have hs2 : ss.length = ps.length := by rw [← hv]; simpa using R.len.symm
  have hN' : N.length = ss.length + n := by rw [hs2]; exact hN
  have hl' : l.length = ss.length := by rw [hs2]; exact hl
  have hvs : vs.length = ss.length := by rw [hs2]; exact hv
  refine ⟨t, hs.pss, ?_⟩
  have R0 := rel_start (n := n) R hN'
  unfold runDef at e
  cases q : m (ss ++ List.replicate n .no) with
  | none => rw [q] at e; cases e
  | some z =>
    rw [q] at e
    refine hs.sim _ z q F _ H _ R0 ?_
    cases z with
    | nx ρ' =>
      cases e
      exact fun F' σ' H' p => hp .non F' H' (post_end R hN' hl' p) ⟨.val .non, fun _ _ z => by cases z⟩
    | rt s ρ' =>
      cases e
      refine fun v F' σ' H' p x => hp v F' H' (post_end R hN' hl' p) ⟨x.1, fun a e o => ⟨fun z => (x.2 a e o).1 (owns_mask (by omega) p.pin z), ?_⟩⟩
      rcases (x.2 a e o).2 with z | z
      · exact .inl ((owns_start hvs).mp z)
      · exact .inr z
    | ex C fs ρ' =>
      cases e
      exact fun od F' σ' H' p x => hp od F' H' (post_end R hN' hl' p) x
    | bk ρ' => cases e
    | ct ρ' => cases e

/-! ### arguments -/
inductive Ar where
  | val (d : D)
  | io (j : Nat)
section
variable (K : PySem.W.Frag) (cm : Wd)
inductive RepA (F : Hp) (σ : St) : List V → List Ar → Prop where
  | nil : RepA F σ [] []
  | val {v d vs as} : Rep K cm F v d → RepA F σ vs as → RepA F σ (v :: vs) (.val d :: as)
  | io {v j vs as} : σ[j]? = some (some v) → RepA F σ vs as → RepA F σ (v :: vs) (.io j :: as)
def RAs : RR (List V) (List Ar) := fun _ σ _ _ F' _ _ vs as => RepA K cm F' σ vs as
end
structure CE' (X : Cx) (cm : Wd) (W : WX) (es : List Expr) (t : TA) (m : ME (List Ar)) : Prop where
  pa : PA X es t
  sim : Sim X.K cm W (RAs X.K cm) t m
def Ar.s (ρ : Slots) : Ar → S
  | .val d => .val d
  | .io j => (ρ[j]?).getD .no
def ioOk : List Ar → Bool
  | [] => true
  | .val _ :: as => ioOk as
  | .io j :: as => (as.all fun a => match a with
    | .io i => i != j
    | _ => true) && ioOk as
def back : List Ar → List S → Slots → Slots
  | .io j :: as, s :: ss, ρ => (back as ss ρ).set j s
  | .val _ :: as, _ :: ss, ρ => back as ss ρ
  | _, _, ρ => ρ
section
variable {K : PySem.W.Frag} {cm : Wd} {W : WX} {F F' : Hp} {σ σ' τ : St} {H H' : Hp} {ρ ρ' : Slots} {vs : List V} {ss : List S} {as : List Ar} {i j k : Nat} {a : Addr} {s : S}
theorem tr_As : Tr K cm (RAs K cm) := fun _ _ _ _ _ _ _ _ _ _ _ _ _ h => h
theorem RepA.length (h : RepA K cm F σ vs as) : vs.length = as.length := by
  induction h with
  | nil => rfl
  | val _ _ ih => simp [ih]
  | io _ _ ih => simp [ih]
theorem RepA.get_io (h : RepA K cm F σ vs as) (e : as[k]? = some (.io j)) : ∃ v, vs[k]? = some v ∧ σ[j]? = some (some v) := by
  induction h generalizing k with
  | nil => simp at e
  | val _ _ ih => cases k with
    | zero => simp at e
    | succ k => simpa using ih (by simpa using e)
  | io h1 _ ih => cases k with
    | zero => simp at e; subst e; exact ⟨_, by simp, h1⟩
    | succ k => simpa using ih (by simpa using e)
theorem RepA.get_val (h : RepA K cm F σ vs as) {d : D} (e : as[k]? = some (.val d)) : ∃ v, vs[k]? = some v ∧ Rep K cm F v d := by
  induction h generalizing k with
  | nil => simp at e
  | val h1 _ ih => cases k with
    | zero => simp at e; subst e; exact ⟨_, by simp, h1⟩
    | succ k => simpa using ih (by simpa using e)
  | io h1 _ ih => cases k with
    | zero => simp at e
    | succ k => simpa using ih (by simpa using e)
theorem RepA.mono (m : ∀ a o, F a = some o → F' a = some o) (h : RepA K cm F σ vs as) : RepA K cm F' σ vs as := by
  induction h with
  | nil => exact .nil
  | val h _ ih => exact .val (h.mono m) ih
  | io h _ ih => exact .io h ih
theorem ioOk_inj (h : ioOk as = true) : ∀ {k k' : Nat}, as[k]? = some (.io j) → as[k']? = some (.io j) → k = k' := by
  induction as with
  | nil => intro k k' e; simp at e
  | cons x as ih =>
    intro k k' e e'
    have nin : ∀ {k : Nat}, x = .io j → as[k]? ≠ some (.io j) := fun {k} ex ek => by
      subst ex
      simp only [ioOk, Bool.and_eq_true, List.all_eq_true] at h
      have := h.1 (.io j) (List.mem_of_getElem? ek)
      simp at this
    have h' : ioOk as = true := by
      cases x with
      | val d => exact h
      | io i => simp only [ioOk, Bool.and_eq_true] at h; exact h.2
    cases k with
    | zero =>
      cases k' with
      | zero => rfl
      | succ k' => simp at e e'; exact absurd e' (nin e)
    | succ k =>
      cases k' with
      | zero => simp at e e'; exact absurd e (nin e')
      | succ k' => simp at e e'; rw [ih h' e e']
theorem back_length : (back as ss ρ).length = ρ.length := by
  induction as generalizing ss with
  | nil => rfl
  | cons x as ih => cases ss with
    | nil => cases x <;> rfl
    | cons s ss => cases x with
      | val d => exact ih
      | io j => simp [back, ih]
theorem back_get (hl : as.length = ss.length) (h : (back as ss ρ)[i]? = some s) : (∃ k : Nat, as[k]? = some (Ar.io i) ∧ ss[k]? = some s) ∨ (ρ[i]? = some s ∧ ∀ k : Nat, as[k]? ≠ some (Ar.io i)) := by
  induction as generalizing ss with
  | nil => exact .inr ⟨h, by simp⟩
  | cons x as ih =>
    cases ss with
    | nil => simp at hl
    | cons s' ss =>
      have hl' : as.length = ss.length := by simpa using hl
      cases x with
      | val d =>
        rcases ih hl' h with ⟨k, h1, h2⟩ | ⟨h1, h2⟩
        · exact .inl ⟨k + 1, by simpa using h1, by simpa using h2⟩
        · exact .inr ⟨h1, fun k => by cases k with
            | zero => simp
            | succ k => simpa using h2 k⟩
      | io j =>
        simp only [back] at h
        by_cases e : i = j
        · subst e
          have hi : i < (back as ss ρ).length := by
            have := (List.getElem?_eq_some_iff.mp h).1
            simpa using this
          rw [List.getElem?_set_self hi] at h
          cases h
          exact .inl ⟨0, by simp, by simp⟩
        · rw [List.getElem?_set_ne (Ne.symm e)] at h
          rcases ih hl' h with ⟨k, h1, h2⟩ | ⟨h1, h2⟩
          · exact .inl ⟨k + 1, by simpa using h1, by simpa using h2⟩
          · exact .inr ⟨h1, fun k => by cases k with
              | zero => simp; exact fun z => e z.symm
              | succ k => simpa using h2 k⟩
theorem own_arg (ra : RepA K cm F σ vs as) (h : ownAt (vs.map some) (as.map (Ar.s ρ)) k a) : ∃ j, as[k]? = some (.io j) ∧ ownAt σ ρ j a := by
  obtain ⟨s, h1, h2, h3⟩ := h
  rw [List.getElem?_map] at h1
  cases q : as[k]? with
  | none => rw [q] at h1; cases h1
  | some x =>
    rw [q] at h1
    cases h1
    cases x with
    | val d => cases h2
    | io j =>
      obtain ⟨v, e1, e2⟩ := ra.get_io q
      rw [List.getElem?_map, e1] at h3
      cases h3
      refine ⟨j, rfl, ?_⟩
      cases e : ρ[j]? with
      | none => simp only [Ar.s, e] at h2; cases h2
      | some s => simp only [Ar.s, e] at h2; exact ⟨s, e, h2, e2⟩
theorem rel_args (R : Rel K cm F σ H ρ) (ra : RepA K cm F σ vs as) (ok : ioOk as = true) : Rel K cm F (vs.map some) H (as.map (Ar.s ρ)) := by
  refine ⟨by simp [ra.length], R.sub, fun k s h hn => ?_, fun k k' a h1 h2 => ?_⟩
  · rw [List.getElem?_map] at h
    cases q : as[k]? with
    | none => rw [q] at h; cases h
    | some x =>
      rw [q] at h
      cases h
      cases x with
      | val d =>
        obtain ⟨v, e1, e2⟩ := ra.get_val q
        exact ⟨v, by simp [e1], .val e2⟩
      | io j =>
        obtain ⟨v, e1, e2⟩ := ra.get_io q
        cases e : ρ[j]? with
        | none => simp [Ar.s, e] at hn
        | some s =>
          have es : Ar.s ρ (.io j) = s := by simp [Ar.s, e]
          rw [es] at hn ⊢
          obtain ⟨v', h1, h2⟩ := R.slot j s e hn
          rw [e2] at h1
          cases h1
          exact ⟨v, by simp [e1], h2⟩
  · obtain ⟨j, e1, o1⟩ := own_arg ra h1
    obtain ⟨j', e2, o2⟩ := own_arg ra h2
    have := R.sep j j' a o1 o2
    subst this
    exact ioOk_inj ok e1 e2
/-- behind a call, in the caller's slots -/
theorem post_call {ss' : List S} (R : Rel K cm F σ H ρ) (ra : RepA K cm F σ vs as) (ok : ioOk as = true) (p : Post K cm pinAll F (vs.map some) H (as.map (Ar.s ρ)) F' (vs.map some) H' ss') :
    Post K cm pinAll F σ H ρ F' σ H' (back as ss' ρ) ∧ ∀ a, owns σ (back as ss' ρ) a → owns (vs.map some) ss' a ∨ (∃ i : Nat, ownAt σ ρ i a ∧ ∀ k : Nat, as[k]? ≠ some (Ar.io i)) := by
  have hl : as.length = ss'.length := by
    have := p.rel.len
    simp [ra.length] at this
    exact this
  have up : ∀ a, owns (vs.map some) (as.map (Ar.s ρ)) a → owns σ ρ a := fun a ⟨k, h⟩ => let ⟨j, _, o⟩ := own_arg ra h; ⟨j, o⟩
  have apart : ∀ (i : Nat) a, ownAt σ ρ i a → (∀ k : Nat, as[k]? ≠ some (Ar.io i)) → ¬ owns (vs.map some) (as.map (Ar.s ρ)) a := fun i a o n ⟨k, h⟩ => by
    obtain ⟨j, e, o'⟩ := own_arg ra h
    have := R.sep i j a o o'
    subst this
    exact n k e
  have oi : ∀ (i : Nat) a, ownAt σ (back as ss' ρ) i a → (∃ k : Nat, as[k]? = some (Ar.io i) ∧ ownAt (vs.map some) ss' k a) ∨ (ownAt σ ρ i a ∧ ∀ k : Nat, as[k]? ≠ some (Ar.io i)) := fun i a ⟨s, h1, h2, h3⟩ => by
    rcases back_get hl h1 with ⟨k, e1, e2⟩ | ⟨e1, e2⟩
    · obtain ⟨v, e3, e4⟩ := ra.get_io e1
      rw [h3] at e4
      cases e4
      exact .inl ⟨k, e1, s, e2, h2, by simp [e3]⟩
    · exact .inr ⟨⟨s, e1, h2, h3⟩, e2⟩
  refine ⟨⟨⟨by rw [back_length]; exact R.len, p.rel.sub, fun i s h hn => ?_, fun i j a h1 h2 => ?_⟩, p.mono, fun a h => ?_, fun a o h n => p.keep a o h fun z => n (up a z), fun a ⟨i, h⟩ => ?_, fun _ _ => rfl, rfl⟩, fun a ⟨i, h⟩ => ?_⟩
  · rcases back_get hl h with ⟨k, e1, e2⟩ | ⟨e1, e2⟩
    · obtain ⟨v, e3, e4⟩ := ra.get_io e1
      obtain ⟨v', e5, e6⟩ := p.rel.slot k s e2 hn
      rw [List.getElem?_map, e3] at e5
      cases e5
      exact ⟨v, e4, e6⟩
    · obtain ⟨v, e3, e4⟩ := R.slot i s e1 hn
      refine ⟨v, e3, e4.post p fun a ea eo => apart i a ⟨s, e1, eo, by rw [e3, ea]⟩ e2⟩
  · rcases oi i a h1 with ⟨k, e1, o1⟩ | ⟨o1, n1⟩
    · rcases oi j a h2 with ⟨k', e2, o2⟩ | ⟨o2, n2⟩
      · have := p.rel.sep k k' a o1 o2
        subst this
        rw [e1] at e2
        cases e2; rfl
      · rcases p.new a ⟨k, o1⟩ with z | z
        · exact absurd z (apart j a o2 n2)
        · exact absurd z (R.owned' ⟨j, o2⟩).1
    · rcases oi j a h2 with ⟨k', e2, o2⟩ | ⟨o2, n2⟩
      · rcases p.new a ⟨k', o2⟩ with z | z
        · exact absurd z (apart i a o1 n1)
        · exact absurd z (R.owned' ⟨i, o1⟩).1
      · exact R.sep i j a o1 o2
  · rcases p.lim a h with z | z | z
    · exact .inl z
    · exact .inr (.inl (up a z))
    · exact .inr (.inr z)
  · rcases oi i a h with ⟨k, e1, o1⟩ | ⟨o1, n1⟩
    · rcases p.new a ⟨k, o1⟩ with z | z
      · exact .inl (up a z)
      · exact .inr z
    · exact .inl ⟨i, o1⟩
  · rcases oi i a h with ⟨k, e1, o1⟩ | ⟨o1, n1⟩
    · exact .inl ⟨k, o1⟩
    · exact .inr ⟨i, o1, n1⟩
end
section
variable {X : Cx} {cm : Wd} {W : WX} {e a b : Expr} {es : List Expr} {te ta tb : TE} {ts : TA} {m ma mb : ME D} {ms : ME (List Ar)} {pos p : Pos}
def aNil : ME (List Ar) := ret []
def aCons (m : ME D) (ms : ME (List Ar)) : ME (List Ar) := m.bnd fun d => ms.bnd fun ds => ret (.val d :: ds)
def aIo (j : Nat) (ms : ME (List Ar)) : ME (List Ar) := ms.bnd fun ds => ret (.io j :: ds)
theorem ce_nil : CE' X cm W [] tNil aNil := ⟨pa_nil, fun ρ r e F σ H Q hr hp => by cases ret_ok e; exact hp [] F H (Post.refl hr) .nil⟩
theorem ce_cons (ha : DE X cm W a ta ma) (hs : CE' X cm W es ts ms) (h : starEach (a :: es) X.env = (false, eval a X.env) :: starEach es X.env := by rfl) : CE' X cm W (a :: es) (tCons ta ts) (aCons ma ms) := by
  refine ⟨pa_cons ha.pe hs.pa h, fun ρ r e F σ H Q hr hp => ?_⟩
  refine ha.sim.step e hr hp fun d ρ1 v F1 H1 e1 p1 r1 => ?_
  refine hs.sim.step e1 p1.rel (hp.trans tr_As p1) fun ds ρ2 vs F2 H2 e2 p2 r2 => ?_
  cases ret_ok e2
  exact hp _ F2 H2 (p1.trans p2) (.val (Rep.mono p2.mono r1) r2)
def mIo (j : Nat) (ms : ME (List Ar)) : ME (List Ar) := fun ρ => match ρ[j]? with
  | some .no => none
  | some _ => aIo j ms ρ
  | none => none
theorem ce_io {i : Nat} {x : Str} {px : Pos} (hs : CE' X cm W es ts ms) (hN : X.N[i]? = some x) (hv : Vis X.env.scope x) (hd : (x == ("__debug__" : Str)) = false := by decide) (hcd : (x == ("__classdict__" : Str)) = false := by decide)
    (h : starEach (.Name x px :: es) X.env = (false, eval (.Name x px) X.env) :: starEach es X.env := by rfl) : CE' X cm W (.Name x px :: es) (tCons (tVar i) ts) (mIo i ms) := by
  refine ⟨pa_cons (pe_var hN hv hd hcd) hs.pa h, fun ρ r e F σ H Q hr hp => ?_⟩
  unfold mIo at e
  cases q : ρ[i]? with
  | none => rw [q] at e; cases e
  | some s =>
    have hn : s ≠ .no := by rintro rfl; rw [q] at e; cases e
    have e' : aIo i ms ρ = some r := by
      rw [q] at e
      cases s with
      | no => exact absurd rfl hn
      | _ => exact e
    obtain ⟨v, h1, h2⟩ := hr.slot i s q hn
    refine ⟨v, h1, hs.sim.step e' hr hp fun ds ρ2 vs F2 H2 e2 p2 r2 => ?_⟩
    cases ret_ok e2
    exact hp _ F2 H2 p2 (.io h1 r2)
/-- the call of a def -/
def CR.back (as : List Ar) (ρ : Slots) : CR → Ex S
  | .ret s ss => .ok s (Fn.back as ss ρ)
  | .exc C fs ss => .ex C fs (Fn.back as ss ρ)
def mCall (f : Fun') (dds : List D) (ms : ME (List Ar)) : ME S := ms.bnd fun as ρ =>
  if ioOk as then ((f ((as ++ dds.map Ar.val).map (Ar.s ρ))).map (CR.back (as ++ dds.map Ar.val) ρ)) else none
theorem RepA.app {K : PySem.W.Frag} {F : Hp} {σ : St} {vs ws : List V} {as : List Ar} {ds : List D} (h : RepA K cm F σ vs as) (g : RepL K cm F ws ds) : RepA K cm F σ (vs ++ ws) (as ++ ds.map Ar.val) := by
  induction h with
  | nil =>
    induction ws generalizing ds with
    | nil => cases g; exact .nil
    | cons w ws ih => cases g with | cons a b => exact .val a (ih b)
  | val h _ ih => exact .val h ih
  | io h _ ih => exact .io h ih
theorem ioOk_app {as : List Ar} {ds : List D} (h : ioOk as = true) : ioOk (as ++ ds.map Ar.val) = true := by
  induction as with
  | nil => induction ds with
    | nil => rfl
    | cons d ds ih => exact ih
  | cons x as ih => cases x with
    | val d => exact ih h
    | io j =>
      simp only [ioOk, Bool.and_eq_true] at h
      simp only [List.cons_append, ioOk, Bool.and_eq_true, List.all_append]
      refine ⟨⟨h.1, ?_⟩, ih h.2⟩
      simp
/-- what a callee's promise gives, in the caller's slots -/
theorem call_at {K : PySem.W.Frag} {f : Fun'} {n : Nat} {F : Hp} {σ : St} {H : Hp} {ρ : Slots} {vs : List V} {as : List Ar} {c : CR} {Q : VK} (R : Rel K cm F σ H ρ) (ra : RepA K cm F σ vs as) (ok : ioOk as = true) (hn : vs.length = n) (e : f (as.map (Ar.s ρ)) = some c)
    (hp : EPost K cm W (RO K cm) F σ H ρ Q (c.back as ρ)) : spOf K cm n f vs H Q (WE W σ) := by
  refine ⟨hn, F, as.map (Ar.s ρ), c, rel_args R ra ok, e, ?_⟩
  cases c with
  | ret s ss' =>
    intro v F' H' p x
    obtain ⟨p1, p2⟩ := post_call R ra ok p
    refine hp v F' H' p1 ⟨x.1, fun a e o => ⟨fun z => ?_, ?_⟩⟩
    · rcases p2 a z with z | ⟨i, z, n⟩
      · exact (x.2 a e o).1 z
      · rcases (x.2 a e o).2 with ⟨k, q⟩ | q
        · obtain ⟨j, ej, oj⟩ := own_arg ra q
          have := R.sep i j a z oj
          subst this
          exact n k ej
        · exact (R.owned' ⟨i, z⟩).1 q
    · rcases (x.2 a e o).2 with ⟨k, q⟩ | q
      · obtain ⟨j, ej, oj⟩ := own_arg ra q
        exact .inl ⟨j, oj⟩
      · exact .inr q
  | exc C fs ss' =>
    intro od F' H' p x
    exact hp od F' H' (post_call R ra ok p).1 x
theorem sim_call {K : PySem.W.Frag} {f : Fun'} {n : Nat} {dvs : List V} {dds : List D} (hd : ∀ F, RepL K cm F dvs dds) (hs : Sim K cm W (RAs K cm) ts ms) (hn : ∀ ρ as ρ', ms ρ = some (.ok as ρ') → as.length + dds.length = n) :
    Sim K cm W (RO K cm) (tCallSD (spOf K cm n f) dvs (WE W) ts) (mCall f dds ms) := by
  intro ρ r e F σ H Q hr hp
  have e0 := e
  unfold mCall ME.bnd at e
  cases q : ms ρ with
  | none => rw [q] at e; cases e
  | some z =>
    rw [q] at e
    cases z with
    | ex C fs ρ' => cases e; exact hs ρ _ q F σ H _ hr hp
    | ok as ρ1 =>
      refine hs ρ _ q F σ H _ hr fun vs F1 H1 p1 ra => ?_
      have ra : RepA K cm F1 σ vs as := ra
      simp only at e
      split at e
      · rename_i hk
        cases q2 : f ((as ++ dds.map Ar.val).map (Ar.s ρ1)) with
        | none => rw [q2] at e; cases e
        | some c =>
          rw [q2] at e
          cases e
          refine call_at p1.rel (ra.app (hd F1)) (ioOk_app hk) ?_ q2 (hp.trans tr_O p1)
          have := hn ρ as ρ1 q
          rw [List.length_append, ra.length, (hd F).length]
          exact this
      · cases e
theorem oe_call {f : Fun'} {n k : Nat} {x : Str} {fa : Addr} {fd : FuncData} {ps : List Str} {dvs : List V} {ds : List Value} {dds : List D} (Fk : FnOk X.prog X.w X.K X.mg X.base (L2.CX X.prog X.w) k fa fd ps (spOf X.K cm n f)) (hr : Room k X.A) (hg : Gl X x) (hm : X.mg x = some (.ref fa)) (hk : PySem.W.keepIn X.K (.ref fa) = true)
    (hb : Binds X.K fd ps ds) (hd : Vals dvs ds) (hdd : ∀ F, RepL X.K cm F dvs dds) (tk : Takes X W) (hs : CE' X cm W (e :: es) ts ms) (hn : ∀ ρ as ρ', ms ρ = some (.ok as ρ') → as.length + dds.length = n)
    (hdb : (x == ("__debug__" : Str)) = false := by decide) (he : starEach (e :: es) X.env = (false, eval e X.env) :: starEach es X.env := by rfl) (hpl : (backTo pos (starEach es X.env)).any (·.1) = false := by rfl) :
    OE X cm W (.Call (.Name x p) (e :: es) [] pos) (tCallSD (spOf X.K cm n f) dvs (WE W) ts) (mCall f dds ms) :=
  ⟨pe_callSD Fk hr hg hm hk hb hd (fun σ => passAt tk σ) hs.pa hdb he hpl, sim_call hdd hs.sim hn⟩
/-- how many arguments there are -/
theorem an_nil {ρ : Slots} {as : List Ar} {ρ' : Slots} (h : aNil ρ = some (.ok as ρ')) : as.length = 0 := by cases h; rfl
theorem an_cons {n : Nat} (hs : ∀ ρ as ρ', ms ρ = some (.ok as ρ') → as.length = n) {ρ : Slots} {as : List Ar} {ρ' : Slots} (h : aCons m ms ρ = some (.ok as ρ')) : as.length = n + 1 := by
  unfold aCons ME.bnd at h
  cases q : m ρ with
  | none => rw [q] at h; cases h
  | some z =>
    rw [q] at h
    cases z with
    | ex _ _ _ => cases h
    | ok a ρ1 =>
      dsimp only at h
      cases q2 : ms ρ1 with
      | none => rw [q2] at h; cases h
      | some z =>
        rw [q2] at h
        cases z with
        | ex _ _ _ => cases h
        | ok a ρ1 =>
          cases h
          simp [hs _ _ _ q2]
theorem an_io {n j : Nat} (hs : ∀ ρ as ρ', ms ρ = some (.ok as ρ') → as.length = n) {ρ : Slots} {as : List Ar} {ρ' : Slots} (h : mIo j ms ρ = some (.ok as ρ')) : as.length = n + 1 := by
  have h' : aIo j ms ρ = some (.ok as ρ') := by
    unfold mIo at h
    split at h
    · cases h
    · exact h
    · cases h
  unfold aIo ME.bnd at h'
  cases q2 : ms ρ with
  | none => rw [q2] at h'; cases h'
  | some z =>
    rw [q2] at h'
    cases z with
    | ex _ _ _ => cases h'
    | ok a ρ1 =>
      cases h'
      simp [hs _ _ _ q2]
end
end L2.Fn
set_option maxRecDepth 100000
set_option maxHeartbeats 4000000
/-! FnF: fields, items, slices, displays, built-in functions and methods. -/
namespace L2.Fn
open PySem PySem.Spec PyProof.Rows L2

section
variable {X : Cx} {cm : Wd} {W : WX} {e a b c o : Expr} {es : List Expr} {t ta tb tc : TE} {ts : TA} {m ma mb mc : ME D} {mo : ME S} {pos p : Pos}
/-! ### fields -/
def gFld (L : List Str) (f : Str) : D → Option D
  | .obj C fs => if C ∈ L then fs.lookup f else none
  | _ => none
def mFld (L : List Str) (f : Str) (m : ME D) : ME D := m.bnd fun d => opt (gFld L f d)
/-- what the written part says of a class whose instances have such a field -/
def FldOk (K : PySem.W.Frag) (cm : Wd) (L : List Str) (f : Str) : Prop := ∀ C ∈ L, Cls K (cm C) ∧ NoAttr K (cm C) f
/-- a field of a slot's own object (self in __init__) -/
def mFldN (L : List Str) (f : Str) (i : Nat) : ME D := fun ρ => match ρ[i]? with
  | some (.ins C fs) => if C ∈ L then opt (fs.lookup f) ρ else none
  | some (.val d) => opt (gFld L f d) ρ
  | _ => none
theorem de_fldN {L : List Str} {f x : Str} {i : Nat} {px : Pos} (hL : FldOk X.K cm L f) (hN : X.N[i]? = some x) (hv : Vis X.env.scope x) (hd : (x == ("__debug__" : Str)) = false := by decide) (hcd : (x == ("__classdict__" : Str)) = false := by decide)
    (hb : attributeBase (.Name x px) f X.env (eval (.Name x px) X.env) = eval (.Name x px) X.env := by rfl) : DE X cm W (.Attribute (.Name x px) f pos) (tFld X.K (tVar i) f) (mFldN L f i) := by
  refine ⟨pe_fld (pe_var hN hv hd hcd) hb, fun ρ r e F σ H Q hr hp => ?_⟩
  unfold mFldN at e
  split at e
  · rename_i C fs q
    split at e
    · rename_i hC
      obtain ⟨d, h1, rfl⟩ := opt_ok e
      obtain ⟨v, h2, h3⟩ := hr.slot i _ q (by simp)
      obtain ⟨a, o, rfl, h4, h5, h6⟩ := h3.of_own rfl
      cases h6 with
      | ins r =>
        obtain ⟨w, h7, h8⟩ := r.look h1
        exact ⟨_, h2, _, _, _, _, _, rfl, h4, (hL _ hC).1, (hL _ hC).2, h7, hp w F H (Post.refl hr) h8⟩
    · cases e
  · rename_i d q
    obtain ⟨d', h1, rfl⟩ := opt_ok e
    obtain ⟨v, h2, h3⟩ := hr.slot i _ q (by simp)
    cases h3.of_val with
    | obj h4 h5 =>
      simp only [gFld] at h1
      split at h1
      · rename_i hC
        obtain ⟨w, h6, h7⟩ := h5.look h1
        exact ⟨_, h2, _, _, _, _, _, rfl, hr.sub _ _ h4, (hL _ hC).1, (hL _ hC).2, h6, hp w F H (Post.refl hr) h7⟩
      · cases h1
    | _ => cases h1
  · cases e
/-- a constant of the class -/
def gCon (L : List (Str × D)) (f : Str) : D → Option D
  | .obj C fs => match fs.lookup f with
    | none => L.lookup C
    | some _ => none
  | _ => none
def mCon (L : List (Str × D)) (f : Str) (m : ME D) : ME D := m.bnd fun d => opt (gCon L f d)
def ConOk (K : PySem.W.Frag) (cm : Wd) (L : List (Str × D)) (f : Str) : Prop := ∀ C d, L.lookup C = some d → Cls K (cm C) ∧ ∃ v u, Con K (cm C) f v u ∧ ∀ F, Rep K cm F v d
theorem de_con {L : List (Str × D)} {f : Str} (hL : ConOk X.K cm L f) (h : DE X cm W e t m) (hb : attributeBase e f X.env (eval e X.env) = eval e X.env := by rfl) : DE X cm W (.Attribute e f pos) (tCon X.K t f) (mCon L f m) := by
  refine ⟨pe_con h.pe hb, fun ρ r e F σ H Q hr hp => ?_⟩
  refine h.sim.step e hr hp fun d ρ1 v F1 H1 e1 p1 r1 => ?_
  obtain ⟨d', h1, rfl⟩ := opt_ok e1
  cases r1 with
  | obj h2 h3 =>
    simp only [gCon] at h1
    split at h1
    · rename_i hC
      obtain ⟨h4, w, u, h5, h6⟩ := hL _ _ h1
      exact ⟨_, _, _, _, w, u, rfl, p1.rel.sub _ _ h2, h4, h5, h3.lookN hC, hp w F1 H1 p1 (h6 F1)⟩
    · cases h1
  | _ => cases h1

/-! ### displays -/
def mTup (ms : ME (List D)) : ME D := ms.bnd fun ds => if ds.length ≤ sizeLine then ret (.tup ds) else fun _ => none
def mLst (ms : ME (List D)) : ME S := ms.bnd fun ds => if ds.length ≤ sizeLine then ret (.lst ds) else fun _ => none
theorem de_tup {x1} {ms : ME (List D)} (h : AE X cm W es ts ms) : DE X cm W (.Tuple es x1 pos) (tTup ts) (mTup ms) := by
  refine ⟨pe_tup h.pa, fun ρ r e F σ H Q hr hp => ?_⟩
  refine h.sim.step e hr hp fun ds ρ1 vs F1 H1 e1 p1 r1 => ?_
  have r1 : RepL X.K cm F1 vs ds := r1
  split at e1
  · rename_i hl
    cases ret_ok e1
    exact ⟨by rw [r1.length]; exact hl, fun q hq => hp _ _ _ (p1.trans (Post.cold p1.rel hq)) (rd_tup (σ := σ) (ρ := ρ1) p1.rel hq r1)⟩
  · cases e1
theorem oe_lst {ms : ME (List D)} (h : AE X cm W es ts ms) : OE X cm W (.List es pos) (tLst ts) (mLst ms) := by
  refine ⟨pe_lst h.pa, fun ρ r e F σ H Q hr hp => ?_⟩
  refine h.sim.step e hr hp fun ds ρ1 vs F1 H1 e1 p1 r1 => ?_
  have r1 : RepL X.K cm F1 vs ds := r1
  split at e1
  · rename_i hl
    cases ret_ok e1
    exact ⟨by rw [r1.length]; exact hl, fun q hq => hp _ _ _ (p1.trans (Post.warm p1.rel hq)) (tr_O _ _ _ _ _ _ _ _ _ _ _ _ p1 (rd_lst p1.rel hq r1))⟩
  · cases e1

/-! ### items -/
def gIx : D → D → Option D := fun x y => match x, y with
  | .lst xs, .int i => atI xs i
  | .scr xs, .int i => atI xs i
  | .tup xs, .int i => atI xs i
  | .ktp xs, .int i => atI xs i
  | .str z, .int i => if z.length ≤ sizeLine then (atI z.cps.toList i).map fun c => .str ⟨#[c]⟩ else none
  | _, _ => none
theorem RepL.at {K : PySem.W.Frag} {F : Hp} {vs : List V} {ds : List D} (h : RepL K cm F vs ds) {i : Int} {d : D} (e : atI ds i = some d) : ∃ v, atI vs i = some v ∧ Rep K cm F v d := by
  unfold atI at e ⊢
  rw [h.length]
  cases q : ixN ds.length i with
  | none => rw [q] at e; cases e
  | some j => rw [q] at e; exact h.get e
def mIx (ma mb : ME D) : ME D := ma.bnd fun x => mb.bnd fun y => opt (gIx x y)
theorem od_ix {K : PySem.W.Frag} {F : Hp} {H : Hp} {x y : V} {dx dy d : D} {Q : VK} (m : ∀ a o, F a = some o → H a = some o) (hx : Rep K cm F x dx) (hy : Rep K cm F y dy) (hg : gIx dx dy = some d) (hQ : ∀ v, Rep K cm F v d → Q v H) : rIx K x y H Q := by
  cases hx with
  | lst h1 r1 => cases hy with
    | int => obtain ⟨v, e1, e2⟩ := r1.at hg; exact .inl ⟨_, _, _, v, rfl, rfl, SqL.of (m _ _ h1), e1, hQ v e2⟩
    | _ => cases hg
  | scr h1 r1 => cases hy with
    | int => obtain ⟨v, e1, e2⟩ := r1.at hg; exact .inl ⟨_, _, _, v, rfl, rfl, SqL.mono m h1, e1, hQ v e2⟩
    | _ => cases hg
  | tup h1 r1 => cases hy with
    | int => obtain ⟨v, e1, e2⟩ := r1.at hg; exact .inr (.inl ⟨_, _, _, v, rfl, rfl, SqT.of (m _ _ h1), e1, hQ v e2⟩)
    | _ => cases hg
  | ktp h1 r1 => cases hy with
    | int => obtain ⟨v, e1, e2⟩ := r1.at hg; exact .inr (.inl ⟨_, _, _, v, rfl, rfl, SqT.mono m h1, e1, hQ v e2⟩)
    | _ => cases hg
  | @str z => cases hy with
    | @int i =>
      simp only [gIx] at hg
      split at hg
      · rename_i hz
        cases q : atI z.cps.toList i with
        | none => rw [q] at hg; cases hg
        | some c => rw [q] at hg; cases hg; exact .inr (.inr ⟨z, i, c, rfl, rfl, hz, q, hQ _ .str⟩)
      · cases hg
    | _ => cases hg
  | _ => cases hg
theorem de_ix (ha : DE X cm W a ta ma) (hb : DE X cm W b tb mb) (hs : PlainIx b := by exact fun _ _ => rfl) : DE X cm W (.Subscript a b pos) (tOp (rIx X.K) ta tb) (mIx ma mb) := by
  refine ⟨pe_ix ix_seq ha.pe hb.pe hs, fun ρ r e F σ H Q hr hp => ?_⟩
  refine ha.sim.step e hr hp fun dx ρ1 x F1 H1 e1 p1 r1 => ?_
  refine hb.sim.step e1 p1.rel (hp.trans tr_D p1) fun dy ρ2 y F2 H2 e2 p2 r2 => ?_
  obtain ⟨d, h1, rfl⟩ := opt_ok e2
  exact od_ix p2.rel.sub (Rep.mono p2.mono r1) r2 h1 fun v rv => hp v F2 H2 (p1.trans p2) rv
/-- name[i] -/
def mIxN (i : Nat) (mb : ME D) : ME D := fun ρ => match ρ[i]? with
  | none => none
  | some .no => none
  | some _ => (mb.bnd fun y ρ => match ρ[i]? with
    | some (.val x) => opt (gIx x y) ρ
    | some (.lst xs) => opt (gIx (.lst xs) y) ρ
    | _ => none) ρ
theorem slot_some {K : PySem.W.Frag} {F H : Hp} {σ : St} {ρ : Slots} {i : Nat} {α : Type} {m : ME α} {r : Ex α} (hr : Rel K cm F σ H ρ) (e : (match ρ[i]? with | none => none | some .no => none | some _ => m ρ) = some r) : (∃ v, σ[i]? = some (some v)) ∧ m ρ = some r := by
  cases q : ρ[i]? with
  | none => rw [q] at e; cases e
  | some s =>
    rw [q] at e
    cases s with
    | no => cases e
    | _ =>
      obtain ⟨v, h, _⟩ := hr.slot i _ q (by simp)
      exact ⟨⟨v, h⟩, e⟩
/-- a list or a tuple, at a slot or as data -/
theorem list_slot {K : PySem.W.Frag} {F H : Hp} {σ : St} {ρ : Slots} {i : Nat} {xs : List D} {v : V} (hr : Rel K cm F σ H ρ) (h : ρ[i]? = some (.lst xs)) (hv : σ[i]? = some (some v)) : ∃ a vs, v = .ref a ∧ H a = some (.lst vs) ∧ F a = none ∧ RepL K cm F vs xs := by
  obtain ⟨v', h1, h2⟩ := hr.slot i _ h (by simp)
  rw [hv] at h1
  cases h1
  obtain ⟨a, o, rfl, h3, h4, h5⟩ := h2.of_own rfl
  cases h5 with
  | lst r => exact ⟨a, _, rfl, h3, h4, r⟩
theorem val_slot {K : PySem.W.Frag} {F H : Hp} {σ : St} {ρ : Slots} {i : Nat} {d : D} {v : V} (hr : Rel K cm F σ H ρ) (h : ρ[i]? = some (.val d)) (hv : σ[i]? = some (some v)) : Rep K cm F v d := by
  obtain ⟨v', h1, h2⟩ := hr.slot i _ h (by simp)
  rw [hv] at h1
  cases h1
  exact h2.of_val
theorem de_ixN {i : Nat} {x : Str} {px : Pos} (hN : X.N[i]? = some x) (hv : Vis X.env.scope x) (hb : DE X cm W b tb mb) (hs : PlainIx b := by exact fun _ _ => rfl) (hd : (x == ("__debug__" : Str)) = false := by decide) (hcd : (x == ("__classdict__" : Str)) = false := by decide) :
    DE X cm W (.Subscript (.Name x px) b pos) (tOp (rIx X.K) (tVar i) tb) (mIxN i mb) := by
  refine ⟨pe_ix ix_seq (pe_var hN hv hd hcd) hb.pe hs, fun ρ r e F σ H Q hr hp => ?_⟩
  obtain ⟨⟨v, hsv⟩, e⟩ := slot_some hr e
  refine ⟨v, hsv, hb.sim.step e hr hp fun dy ρ2 y F2 H2 e2 p2 r2 => ?_⟩
  split at e2
  · rename_i dx q
    obtain ⟨d, h1, rfl⟩ := opt_ok e2
    exact od_ix p2.rel.sub (val_slot p2.rel q hsv) r2 h1 fun v rv => hp v F2 H2 p2 rv
  · rename_i xs q
    obtain ⟨d, h1, rfl⟩ := opt_ok e2
    obtain ⟨a, vs, rfl, h3, h4, h5⟩ := list_slot p2.rel q hsv
    cases r2 with
    | int => obtain ⟨w, g1, g2⟩ := h5.at h1; exact .inl ⟨_, _, _, w, rfl, rfl, SqL.of h3, g1, hp w F2 H2 p2 g2⟩
    | _ => cases h1
  · cases e2

/-! ### len -/
def gLen : D → Option Nat
  | .lst xs => some xs.length
  | .scr xs => some xs.length
  | .tup xs => some xs.length
  | .ktp xs => some xs.length
  | .str z => if z.length ≤ sizeLine then some z.length else none
  | _ => none
theorem len_of {K : PySem.W.Frag} {F H : Hp} {v : V} {d : D} {n : Nat} (m : ∀ a o, F a = some o → H a = some o) (h : Rep K cm F v d) (e : gLen d = some n) : LenV K v H n := by
  cases h with
  | lst h1 r => cases e; exact .inl ⟨_, SqL.of (m _ _ h1), r.length.symm⟩
  | scr h1 r => cases e; exact .inl ⟨_, SqL.mono m h1, r.length.symm⟩
  | tup h1 r => cases e; exact .inr ⟨_, SqT.of (m _ _ h1), r.length.symm⟩
  | ktp h1 r => cases e; exact .inr ⟨_, SqT.mono m h1, r.length.symm⟩
  | str =>
    simp only [gLen] at e
    split at e
    · rename_i hl; cases e; exact ⟨hl, rfl⟩
    · cases e
  | _ => cases e
def mLen (m : ME D) : ME D := m.bnd fun d => opt ((gLen d).map fun n => .int n)
theorem de_len (hg : Gl X "len") (hm : X.mg "len" = none) (h : DE X cm W a ta ma) (hn : ("len" : Str) ≠ "__name__" := by decide) (hdb : (("len" : Str) == ("__debug__" : Str)) = false := by decide)
    (h1 : starEach (a :: []) X.env = (false, eval a X.env) :: starEach [] X.env := by rfl) (hpl : (backTo pos (starEach [] X.env)).any (·.1) = false := by rfl) :
    DE X cm W (.Call (.Name "len" p) [a] [] pos) (tCB (fun xs H Q => ∃ x n, xs = [x] ∧ LenV X.K x H n ∧ Q (.int n) H) (tCons ta tNil)) (mLen ma) := by
  refine ⟨pe_callB call_len hg hm boot_len (pa_cons h.pe pa_nil h1) hn hdb h1 hpl, fun ρ r e F σ H Q hr hp => ?_⟩
  refine h.sim.step e hr hp fun d ρ1 v F1 H1 e1 p1 r1 => ?_
  obtain ⟨d', h1, rfl⟩ := opt_ok e1
  cases q : gLen d with
  | none => rw [q] at h1; cases h1
  | some n => rw [q] at h1; cases h1; exact ⟨v, n, rfl, len_of p1.rel.sub r1 q, hp _ F1 H1 p1 .int⟩
/-- len(name) -/
def mLenN (i : Nat) : ME D := fun ρ => match ρ[i]? with
  | some (.val d) => opt ((gLen d).map fun n => .int n) ρ
  | some (.lst xs) => some (.ok (.int xs.length) ρ)
  | some (.dK kvs) => some (.ok (.int kvs.length) ρ)
  | _ => none
theorem RepK.length {K : PySem.W.Frag} {F : Hp} {vs : List (Key × V)} {ds : List (Key × D)} (h : RepK K cm F vs ds) : vs.length = ds.length := by
  induction vs generalizing ds with
  | nil => cases h; rfl
  | cons v vs ih => cases h with | cons a b => simp [ih b]
theorem de_lenN {i : Nat} {x : Str} {px : Pos} (hg : Gl X "len") (hm : X.mg "len" = none) (hN : X.N[i]? = some x) (hv : Vis X.env.scope x) (hd : (x == ("__debug__" : Str)) = false := by decide) (hcd : (x == ("__classdict__" : Str)) = false := by decide) (hn : ("len" : Str) ≠ "__name__" := by decide) (hdb : (("len" : Str) == ("__debug__" : Str)) = false := by decide)
    (h1 : starEach (.Name x px :: []) X.env = (false, eval (.Name x px) X.env) :: starEach [] X.env := by rfl) (hpl : (backTo pos (starEach [] X.env)).any (·.1) = false := by rfl) :
    DE X cm W (.Call (.Name "len" p) [.Name x px] [] pos) (tCB (fun xs H Q => (∃ x n, xs = [x] ∧ LenV X.K x H n ∧ Q (.int n) H) ∨ ∃ p kvs, xs = [.ref p] ∧ H p = some (.dK kvs) ∧ Q (.int kvs.length) H) (tCons (tVar i) tNil)) (mLenN i) := by
  refine ⟨pe_callB (call_len.or (by
    intro pins s σ H xs us Q I r h
    obtain ⟨p, kvs, rfl, hk, q⟩ := h
    exact call_lenD pins s σ H [.ref p] us Q I r ⟨p, kvs, rfl, hk, q⟩)) hg hm boot_len (pa_cons (pe_var hN hv hd hcd) pa_nil h1) hn hdb h1 hpl, fun ρ r e F σ H Q hr hp => ?_⟩
  unfold mLenN at e
  split at e
  · rename_i d q
    obtain ⟨d', h1, rfl⟩ := opt_ok e
    obtain ⟨v, h2, h3⟩ := hr.slot i _ q (by simp)
    cases q2 : gLen d with
    | none => rw [q2] at h1; cases h1
    | some n => rw [q2] at h1; cases h1; exact ⟨v, h2, .inl ⟨v, n, rfl, len_of hr.sub h3.of_val q2, hp _ F H (Post.refl hr) .int⟩⟩
  · rename_i xs q
    cases e
    obtain ⟨v, h2, h3⟩ := hr.slot i _ q (by simp)
    obtain ⟨a, vs, rfl, h3, h4, h5⟩ := list_slot hr q h2
    exact ⟨_, h2, .inl ⟨_, xs.length, rfl, .inl ⟨_, SqL.of h3, h5.length.symm⟩, hp _ F H (Post.refl hr) .int⟩⟩
  · rename_i kvs q
    cases e
    obtain ⟨v, h2, h3⟩ := hr.slot i _ q (by simp)
    obtain ⟨a, o, rfl, h3, h4, h5⟩ := h3.of_own rfl
    cases h5 with
    | dK r => exact ⟨_, h2, .inr ⟨a, _, rfl, h3, by rw [r.length]; exact hp _ F H (Post.refl hr) .int⟩⟩
  · cases e

/-! ### slices -/
def cutD (xs : List D) (lo hi : Option Int) : List D := (xs.drop (HT.sIx xs.length 0 lo)).take (HT.sIx xs.length xs.length hi - HT.sIx xs.length 0 lo)
theorem RepL.cut {K : PySem.W.Frag} {F : Hp} {vs : List V} {ds : List D} (h : RepL K cm F vs ds) (lo hi : Option Int) : RepL K cm F (cutV vs lo hi) (cutD ds lo hi) := by
  unfold cutV cutD
  rw [h.length]
  exact (h.drop _).take _
structure OEp (X : Cx) (cm : Wd) (W : WX) (e : Option Expr) (t : TO) (m : ME (Option Int)) : Prop where
  po : PO X e t
  sim : Sim X.K cm W ROp t m
def mNoPart : ME (Option Int) := ret none
def mPart (m : ME D) : ME (Option Int) := m.bnd fun d => match d with
  | .int i => ret (some i)
  | _ => fun _ => none
theorem op_none : OEp X cm W none tNoPart mNoPart := ⟨po_none, fun ρ r e F σ H Q hr hp => by cases ret_ok e; exact hp none F H (Post.refl hr) rfl⟩
theorem op_some (h : DE X cm W a ta ma) : OEp X cm W (some a) (tPart ta) (mPart ma) := by
  refine ⟨po_some h.pe, fun ρ r e F σ H Q hr hp => ?_⟩
  refine h.sim.step e hr hp fun d ρ1 v F1 H1 e1 p1 r1 => ?_
  cases r1 with
  | int => cases ret_ok e1; exact ⟨_, rfl, hp _ F1 H1 p1 rfl⟩
  | _ => cases e1
/-- xs[a:b], xs a list -/
def mSlL (m : ME D) (ml mh : ME (Option Int)) : ME S := m.bnd fun d => ml.bnd fun lo => mh.bnd fun hi => match d with
  | .lst xs => ret (.lst (cutD xs lo hi))
  | _ => fun _ => none
theorem oe_slL {lo hi : Option Expr} {tl th : TO} {ml mh : ME (Option Int)} {p2 : Pos} (h : DE X cm W a ta ma) (hl : OEp X cm W lo tl ml) (hh : OEp X cm W hi th mh) : OE X cm W (.Subscript a (.Slice lo hi none p2) pos) (tSl (rSlL X.K) ta tl th) (mSlL ma ml mh) := by
  refine ⟨pe_slice sl_list h.pe hl.po hh.po, fun ρ r e F σ H Q hr hp => ?_⟩
  refine h.sim.step e hr hp fun d ρ1 v F1 H1 e1 p1 r1 => ?_
  refine hl.sim.step e1 p1.rel (hp.trans tr_O p1) fun l ρ2 l' F2 H2 e2 p2 r2 => ?_
  cases (show l' = l from r2)
  refine hh.sim.step e2 p2.rel ((hp.trans tr_O p1).trans tr_O p2) fun u ρ3 u' F3 H3 e3 p3 r3 => ?_
  cases (show u' = u from r3)
  have p := p1.trans (p2.trans p3)
  cases r1 with
  | lst h1 r =>
    cases ret_ok e3
    have m3 : ∀ b o, F1 b = some o → F3 b = some o := fun b o h => p3.mono b o (p2.mono b o h)
    exact ⟨_, _, rfl, SqL.of (p3.rel.sub _ _ (m3 _ _ h1)), fun q hq => hp _ _ _ (p.trans (Post.warm p3.rel hq)) (tr_O _ _ _ _ _ _ _ _ _ _ _ _ p (rd_lst p3.rel hq ((r.mono m3).cut l u)))⟩
  | _ => cases e3
/-! ### calls of built-ins with data -/
/-- by values: one argument -/
def CallD1 (X : Cx) (cm : Wd) (r : List V → Hp → VK → Prop) (g : D → Option S) : Prop := ∀ {F σ H ρ x dx s Q}, Rel X.K cm F σ H ρ → Rep X.K cm F x dx → g dx = some s →
  (∀ v F' H', Post X.K cm pinAll F σ H ρ F' σ H' ρ → RO X.K cm F σ H ρ F' H' ρ v s → Q v H') → r [x] H Q
def mB1 (g : D → Option S) (m : ME D) : ME S := m.bnd fun d => opt (g d)
theorem oe_b1 {r : List V → Hp → VK → Prop} {g : D → Option S} {id : String} {x : Str} (hc : CallR X (.builtin id) r) (hD : CallD1 X cm r g) (hg : Gl X x) (hm : X.mg x = none) (hv : bootBuiltins x = some (.builtin id)) (h : DE X cm W a ta ma) (hn : x ≠ "__name__" := by decide) (hdb : (x == ("__debug__" : Str)) = false := by decide)
    (h1 : starEach (a :: []) X.env = (false, eval a X.env) :: starEach [] X.env := by rfl) (hpl : (backTo pos (starEach [] X.env)).any (·.1) = false := by rfl) :
    OE X cm W (.Call (.Name x p) [a] [] pos) (tCB r (tCons ta tNil)) (mB1 g ma) := by
  refine ⟨pe_callB hc hg hm hv (pa_cons h.pe pa_nil h1) hn hdb h1 hpl, fun ρ r e F σ H Q hr hp => ?_⟩
  refine h.sim.step e hr hp fun d ρ1 v F1 H1 e1 p1 r1 => ?_
  obtain ⟨s, h1, rfl⟩ := opt_ok e1
  exact hD p1.rel r1 h1 fun w F2 H2 p2 z => hp w F2 H2 (p1.trans p2) (tr_O _ _ _ _ _ _ _ _ _ _ _ _ p1 z)
theorem oe_t1 {r : List V → Hp → VK → Prop} {g : D → Option S} {T : String} {x : Str} (hc : CallR X (.type T) r) (hD : CallD1 X cm r g) (hg : Gl X x) (hm : X.mg x = none) (hv : bootBuiltins x = some (.type T)) (h : DE X cm W a ta ma) (hn : x ≠ "__name__" := by decide) (hdb : (x == ("__debug__" : Str)) = false := by decide)
    (h1 : starEach (a :: []) X.env = (false, eval a X.env) :: starEach [] X.env := by rfl) (hpl : (backTo pos (starEach [] X.env)).any (·.1) = false := by rfl) :
    OE X cm W (.Call (.Name x p) [a] [] pos) (tCB r (tCons ta tNil)) (mB1 g ma) := by
  refine ⟨pe_callTy hc hg hm hv (pa_cons h.pe pa_nil h1) hn hdb h1 hpl, fun ρ r e F σ H Q hr hp => ?_⟩
  refine h.sim.step e hr hp fun d ρ1 v F1 H1 e1 p1 r1 => ?_
  obtain ⟨s, h1, rfl⟩ := opt_ok e1
  exact hD p1.rel r1 h1 fun w F2 H2 p2 z => hp w F2 H2 (p1.trans p2) (tr_O _ _ _ _ _ _ _ _ _ _ _ _ p1 z)
/-- list(xs), list(t) -/
def gList : D → Option S
  | .lst xs => some (.lst xs)
  | .scr xs => some (.lst xs)
  | .tup xs => some (.lst xs)
  | .ktp xs => some (.lst xs)
  | _ => none
theorem cd_list : CallD1 X cm (fun xs H Q => ∃ p ys, xs = [.ref p] ∧ (SqL X.K H p ys ∨ SqT X.K H p ys) ∧ ∀ l, H l = none → Q (.ref l) (upd H l (.lst ys))) gList := by
  intro F σ H ρ x dx s Q hr hx hg hQ
  cases hx with
  | lst h r => cases hg; exact ⟨_, _, rfl, .inl (SqL.of (hr.sub _ _ h)), fun l hl => hQ _ _ _ (Post.warm hr hl) (rd_lst hr hl r)⟩
  | scr h r => cases hg; exact ⟨_, _, rfl, .inl (SqL.mono hr.sub h), fun l hl => hQ _ _ _ (Post.warm hr hl) (rd_lst hr hl r)⟩
  | tup h r => cases hg; exact ⟨_, _, rfl, .inr (SqT.of (hr.sub _ _ h)), fun l hl => hQ _ _ _ (Post.warm hr hl) (rd_lst hr hl r)⟩
  | ktp h r => cases hg; exact ⟨_, _, rfl, .inr (SqT.mono hr.sub h), fun l hl => hQ _ _ _ (Post.warm hr hl) (rd_lst hr hl r)⟩
  | _ => cases hg
/-- tuple(xs), tuple(t) -/
def gTuple : D → Option S
  | .lst xs => some (.val (.tup xs))
  | .scr xs => some (.val (.tup xs))
  | .tup xs => some (.val (.tup xs))
  | .ktp xs => some (.val (.ktp xs))
  | _ => none
theorem cd_tuple : CallD1 X cm (fun xs H Q => ∃ p ys, xs = [.ref p] ∧ ((SqL X.K H p ys ∧ ∀ l, H l = none → Q (.ref l) (upd H l (.tup ys))) ∨ (SqT X.K H p ys ∧ Q (.ref p) H))) gTuple := by
  intro F σ H ρ x dx s Q hr hx hg hQ
  cases hx with
  | lst h r => cases hg; exact ⟨_, _, rfl, .inl ⟨SqL.of (hr.sub _ _ h), fun l hl => hQ _ _ _ (Post.cold hr hl) ⟨.val (rd_tup (σ := σ) (ρ := ρ) hr hl r), fun _ _ z => by cases z⟩⟩⟩
  | scr h r => cases hg; exact ⟨_, _, rfl, .inl ⟨SqL.mono hr.sub h, fun l hl => hQ _ _ _ (Post.cold hr hl) ⟨.val (rd_tup (σ := σ) (ρ := ρ) hr hl r), fun _ _ z => by cases z⟩⟩⟩
  | tup h r => cases hg; exact ⟨_, _, rfl, .inr ⟨SqT.of (hr.sub _ _ h), hQ _ F H (Post.refl hr) (rd_val (.tup h r))⟩⟩
  | ktp h r => cases hg; exact ⟨_, _, rfl, .inr ⟨SqT.mono hr.sub h, hQ _ F H (Post.refl hr) (rd_val (.ktp h r))⟩⟩
  | _ => cases hg
/-- int(n), int(True) -/
def gInt1 : D → Option S
  | .int i => some (.val (.int i))
  | .bl k => some (.val (.int (if k then 1 else 0)))
  | _ => none
theorem cd_int : CallD1 X cm (fun xs H Q => (∃ i, xs = [.int i] ∧ Q (.int i) H) ∨ ∃ k, xs = [.bl k] ∧ Q (.int (if k then 1 else 0)) H) gInt1 := by
  intro F σ H ρ x dx s Q hr hx hg hQ
  cases hx with
  | int => cases hg; exact .inl ⟨_, rfl, hQ _ F H (Post.refl hr) (rd_val .int)⟩
  | bl => cases hg; exact .inr ⟨_, rfl, hQ _ F H (Post.refl hr) (rd_val .int)⟩
  | _ => cases hg
/-- str(n) -/
def gStr1 : D → Option S
  | .int i => if i.natAbs.log2 < 1920 then some (.val (.str (toString i))) else none
  | _ => none
theorem cd_str : CallD1 X cm (fun xs H Q => ∃ i, xs = [.int i] ∧ i.natAbs.log2 < 1920 ∧ Q (.str (toString i)) H) gStr1 := by
  intro F σ H ρ x dx s Q hr hx hg hQ
  cases hx with
  | int =>
    simp only [gStr1] at hg
    split at hg
    · rename_i hl; cases hg; exact ⟨_, rfl, hl, hQ _ F H (Post.refl hr) (rd_val .str)⟩
    · cases hg
  | _ => cases hg
def gAbs : D → Option S
  | .int i => some (.val (.int (if i < 0 then -i else i)))
  | _ => none
/-! ### ints in a list -/
def intsD : List D → Option (List Int)
  | [] => some []
  | .int i :: ds => (intsD ds).map (i :: ·)
  | _ :: _ => none
theorem RepL.ints {K : PySem.W.Frag} {F : Hp} {vs : List V} {ds : List D} {ns : List Int} (h : RepL K cm F vs ds) (e : intsD ds = some ns) : vs = ns.map V.int := by
  induction vs generalizing ds ns with
  | nil => cases h; cases e; rfl
  | cons v vs ih =>
    cases h with
    | cons a b =>
      cases a with
      | int =>
        simp only [intsD] at e
        cases q : intsD _ with
        | none => rw [q] at e; cases e
        | some ms => rw [q] at e; cases e; simp [ih b q]
      | _ => cases e
theorem RepL.of_ints {K : PySem.W.Frag} {F : Hp} : ∀ ns : List Int, RepL K cm F (ns.map V.int) (ns.map D.int)
  | [] => .nil
  | n :: ns => .cons .int (RepL.of_ints ns)
theorem intsD_map : ∀ ns : List Int, intsD (ns.map D.int) = some ns
  | [] => rfl
  | n :: ns => by simp [intsD, intsD_map ns]
def sortI (ns : List Int) : List Int := ns.mergeSort (fun a b => decide (a ≤ b))
theorem sortI_perm (ns : List Int) : (sortI ns).Perm ns := List.mergeSort_perm ns _
theorem sortI_sorted (ns : List Int) : (sortI ns).Pairwise (· ≤ ·) := by
  have := List.pairwise_mergeSort (le := fun a b : Int => decide (a ≤ b)) (fun a b c h1 h2 => by simp at *; omega) (fun a b => by simp; omega) ns
  exact this.imp fun h => by simpa using h
theorem sorted_unique : ∀ {xs ys : List Int}, xs.Perm ys → xs.Pairwise (· ≤ ·) → ys.Pairwise (· ≤ ·) → xs = ys
  | [], ys, p, _, _ => by simpa using p.symm.eq_nil.symm
  | x :: xs, [], p, _, _ => absurd p.eq_nil (by simp)
  | x :: xs, y :: ys, p, h1, h2 => by
    have hx : x ∈ y :: ys := p.subset List.mem_cons_self
    have hy : y ∈ x :: xs := p.symm.subset List.mem_cons_self
    obtain ⟨a1, a2⟩ := List.pairwise_cons.mp h1
    obtain ⟨b1, b2⟩ := List.pairwise_cons.mp h2
    have e : x = y := by
      rcases List.mem_cons.mp hx with e | hx
      · exact e
      · rcases List.mem_cons.mp hy with e | hy
        · exact e.symm
        · have := a1 y hy
          have := b1 x hx
          omega
    subst e
    rw [sorted_unique (List.Perm.cons_inv p) a2 b2]
theorem sortI_eq {ns ms : List Int} (p : ms.Perm ns) (s : ms.Pairwise (· ≤ ·)) : ms = sortI ns := sorted_unique (p.trans (sortI_perm ns).symm) s (sortI_sorted ns)
def gSorted : D → Option S
  | .lst xs => (intsD xs).map fun ns => .lst ((sortI ns).map D.int)
  | _ => none
theorem cd_sorted : CallD1 X cm (rSortedI X.K) gSorted := by
  intro F σ H ρ x dx s Q hr hx hg hQ
  cases hx with
  | @lst a vs xs h r =>
    simp only [gSorted] at hg
    cases q : intsD xs with
    | none => rw [q] at hg; cases hg
    | some ns =>
      rw [q] at hg
      cases hg
      have e := r.ints q
      subst e
      exact ⟨_, ns, rfl, SqL.of (hr.sub _ _ h), fun ns' l hp hs hl => by
        rw [sortI_eq hp hs]
        exact hQ _ _ _ (Post.warm hr hl) (rd_lst hr hl (RepL.of_ints _))⟩
  | _ => cases hg
def gSum : D → Option S
  | .lst xs => (intsD xs).map fun ns => .val (.int ns.sum)
  | _ => none
/-- two arguments -/
def CallD2 (X : Cx) (cm : Wd) (r : List V → Hp → VK → Prop) (g : D → D → Option S) : Prop := ∀ {F σ H ρ x y dx dy s Q}, Rel X.K cm F σ H ρ → Rep X.K cm F x dx → Rep X.K cm F y dy → g dx dy = some s →
  (∀ v F' H', Post X.K cm pinAll F σ H ρ F' σ H' ρ → RO X.K cm F σ H ρ F' H' ρ v s → Q v H') → r [x, y] H Q
theorem oe_b2 {r : List V → Hp → VK → Prop} {g : D → D → Option S} {id : String} {x : Str} (hc : CallR X (.builtin id) r) (hD : CallD2 X cm r g) (hg : Gl X x) (hm : X.mg x = none) (hv : bootBuiltins x = some (.builtin id)) (h : DE X cm W a ta ma) (h' : DE X cm W b tb mb) (hn : x ≠ "__name__" := by decide) (hdb : (x == ("__debug__" : Str)) = false := by decide)
    (h1 : starEach (b :: []) X.env = (false, eval b X.env) :: starEach [] X.env := by rfl) (h2 : starEach (a :: [b]) X.env = (false, eval a X.env) :: starEach [b] X.env := by rfl) (hpl : (backTo pos (starEach [b] X.env)).any (·.1) = false := by rfl) :
    OE X cm W (.Call (.Name x p) [a, b] [] pos) (tCB r (tCons ta (tCons tb tNil))) (mOp g ma mb) := by
  refine ⟨pe_callB hc hg hm hv (pa_cons h.pe (pa_cons h'.pe pa_nil h1) h2) hn hdb h2 hpl, fun ρ r e F σ H Q hr hp => ?_⟩
  refine h.sim.step e hr hp fun dx ρ1 x F1 H1 e1 p1 r1 => ?_
  refine h'.sim.step e1 p1.rel (hp.trans tr_O p1) fun dy ρ2 y F2 H2 e2 p2 r2 => ?_
  obtain ⟨s, h1, rfl⟩ := opt_ok e2
  exact hD p2.rel (Rep.mono p2.mono r1) r2 h1 fun w F3 H3 p3 z => hp w F3 H3 (p1.trans (p2.trans p3)) (tr_O _ _ _ _ _ _ _ _ _ _ _ _ (p1.trans p2) z)
def gMin2 : D → D → Option S
  | .int i, .int j => some (.val (.int (if j < i then j else i)))
  | _, _ => none
def gMax2 : D → D → Option S
  | .int i, .int j => some (.val (.int (if j > i then j else i)))
  | _, _ => none
theorem cd_min2 : CallD2 X cm (fun xs H Q => ∃ i j, xs = [.int i, .int j] ∧ Q (.int (if j < i then j else i)) H) gMin2 := by
  intro F σ H ρ x y dx dy s Q hr hx hy hg hQ
  cases hx with
  | int => cases hy with
    | int => cases hg; exact ⟨_, _, rfl, hQ _ F H (Post.refl hr) (rd_val .int)⟩
    | _ => cases hg
  | _ => cases hg
end
end L2.Fn
set_option maxRecDepth 100000
set_option maxHeartbeats 4000000
/-! FnG: methods of lists, stores, dicts, in. -/
namespace L2.Fn
open PySem PySem.Spec PyProof.Rows L2

section
variable {X : Cx} {cm : Wd} {W : WX} {P : Nat → Bool} {e a b c o : Expr} {es : List Expr} {t ta tb tc : TE} {ts : TA} {m ma mb mc : ME D} {mo : ME S} {pos p : Pos}
/-- a slot's own list, where it is known to be one -/
def listAt {α : Type} (i : Nat) (m : ME α) : ME α := fun ρ => match ρ[i]? with
  | some (.lst _) => m ρ
  | _ => none
theorem listAt_ok {K : PySem.W.Frag} {α : Type} {i : Nat} {m : ME α} {ρ : Slots} {r : Ex α} {F H : Hp} {σ : St} (hr : Rel K cm F σ H ρ) (e : listAt i m ρ = some r) : ∃ a vs, σ[i]? = some (some (.ref a)) ∧ H a = some (.lst vs) ∧ m ρ = some r := by
  unfold listAt at e
  split at e
  · rename_i xs q
    obtain ⟨v, h2, h3⟩ := hr.slot i _ q (by simp)
    obtain ⟨a, vs, rfl, h3, h4, h5⟩ := list_slot hr q h2
    exact ⟨a, vs, h2, h3, e⟩
  · cases e
/-- what a method makes of the list at a slot -/
def onList (i : Nat) (k : List D → Option (D × List D)) : ME S := fun ρ => match ρ[i]? with
  | some (.lst xs) => (k xs).map fun q => .ok (.val q.1) (ρ.set i (.lst q.2))
  | _ => none
theorem onList_ok {i : Nat} {k : List D → Option (D × List D)} {ρ : Slots} {r : Ex S} (e : onList i k ρ = some r) : ∃ xs q, ρ[i]? = some (.lst xs) ∧ k xs = some q ∧ r = .ok (.val q.1) (ρ.set i (.lst q.2)) := by
  unfold onList at e
  split at e
  · rename_i xs q
    cases q2 : k xs with
    | none => rw [q2] at e; cases e
    | some z => rw [q2] at e; cases e; exact ⟨xs, z, q, q2, rfl⟩
  · cases e
theorem wrote {K : PySem.W.Frag} {F H : Hp} {σ : St} {ρ : Slots} {i : Nat} {a : Addr} {xs ys : List D} {ws : List V} (hr : Rel K cm F σ H ρ) (h : ρ[i]? = some (.lst xs)) (hv : σ[i]? = some (some (.ref a))) (r : RepL K cm F ws ys) :
    Post K cm pinAll F σ H ρ F σ (upd H a (.lst ws)) (ρ.set i (.lst ys)) := Post.write hr h rfl hv (.lst r)
/-- name.append(e) -/
def mAppN (i : Nat) (m : ME D) : ME S := listAt i (m.bnd fun d => onList i fun xs => if xs.length < sizeLine then some (.non, xs ++ [d]) else none)
theorem oe_appN {i : Nat} {x : Str} {px apos : Pos} (hN : X.N[i]? = some x) (hv : Vis X.env.scope x) (ha : DE X cm W a ta ma) (hd : (x == ("__debug__" : Str)) = false := by decide) (hcd : (x == ("__classdict__" : Str)) = false := by decide)
    (hbase : attributeBase (.Name x px) "append" X.env (eval (.Name x px) X.env) = eval (.Name x px) X.env := by rfl)
    (hfew : ((backTo pos (starEach [a] X.env)).all (fun x => !x.1) && (backToKw pos (keywordEach [] X.env)).all (fun x => x.1.isSome)
      && decide ([a].length + ([] : List Keyword).length + (if ([] : List Keyword).isEmpty then 0 else 1) < 30)) = true := by rfl)
    (hline : (apos.endLine == pos.line) = true := by rfl) (hs : starEach (a :: []) X.env = (false, eval a X.env) :: starEach [] X.env := by rfl) (hplain : (backTo pos (starEach [] X.env)).any (·.1) = false := by rfl) :
    OE X cm W (.Call (.Attribute (.Name x px) "append" apos) [a] [] pos) (tBM X.K "list" rAppend (tVar i) (tCons ta tNil)) (mAppN i ma) := by
  refine ⟨pe_bm PySem.F.plainAttrs_list PySem.F.slot_list_append PySem.F.type_list_append mt_append (pe_var hN hv hd hcd) (pa_cons ha.pe pa_nil hs) hbase hfew hline hs hplain, fun ρ r e F σ H Q hr hp => ?_⟩
  obtain ⟨q, vs, h1, h2, e⟩ := listAt_ok hr e
  refine ⟨_, h1, Or.inl ⟨rfl, vs, SqL.of h2⟩, ha.sim.step e hr hp fun d ρ1 v F1 H1 e1 p1 r1 => ?_⟩
  obtain ⟨xs, z, g1, g2, rfl⟩ := onList_ok e1
  split at g2
  · rename_i hl
    cases g2
    obtain ⟨a', ws, ea, g3, g4, g5⟩ := list_slot p1.rel g1 h1
    cases ea
    have p2 := wrote p1.rel g1 h1 (g5.append (.one r1))
    exact ⟨_, _, _, rfl, rfl, g3, by rw [g5.length]; exact hl, hp _ _ _ (p1.trans p2) ⟨.val .non, fun _ _ z => by cases z⟩⟩
  · cases g2
/-- name.pop() -/
def mPopN (i : Nat) : ME S := onList i fun xs => (xs[xs.length - 1]?).map fun d => (d, xs.dropLast)
theorem oe_popN {i : Nat} {x : Str} {px apos : Pos} (hN : X.N[i]? = some x) (hv : Vis X.env.scope x) (hd : (x == ("__debug__" : Str)) = false := by decide) (hcd : (x == ("__classdict__" : Str)) = false := by decide)
    (hbase : attributeBase (.Name x px) "pop" X.env (eval (.Name x px) X.env) = eval (.Name x px) X.env := by rfl) (hline : (apos.endLine == pos.line) = true := by rfl) :
    OE X cm W (.Call (.Attribute (.Name x px) "pop" apos) [] [] pos) (tBM0 X.K "list" rPop (tVar i)) (mPopN i) := by
  refine ⟨pe_bm0 PySem.F.plainAttrs_list PySem.F.slot_list_pop PySem.F.type_list_pop mt_pop (pe_var hN hv hd hcd) hbase hline, fun ρ r e F σ H Q hr hp => ?_⟩
  obtain ⟨xs, z, g1, g2, rfl⟩ := onList_ok e
  obtain ⟨v, h2, h3⟩ := hr.slot i _ g1 (by simp)
  obtain ⟨a, ws, rfl, g3, g4, g5⟩ := list_slot hr g1 h2
  cases q : xs[xs.length - 1]? with
  | none => rw [q] at g2; cases g2
  | some d =>
    rw [q] at g2
    cases g2
    obtain ⟨y, k1, k2⟩ := g5.get q
    have p2 := wrote hr g1 h2 g5.dropLast
    exact ⟨_, h2, Or.inl ⟨rfl, ws, SqL.of g3⟩, _, _, y, rfl, rfl, g3, by rw [g5.length]; exact k1, hp _ _ _ p2 ⟨.val k2, fun _ _ z => by cases z⟩⟩
/-- name.reverse() -/
def mRevN (i : Nat) : ME S := onList i fun xs => some (.non, xs.reverse)
theorem oe_revN {i : Nat} {x : Str} {px apos : Pos} (hN : X.N[i]? = some x) (hv : Vis X.env.scope x) (hd : (x == ("__debug__" : Str)) = false := by decide) (hcd : (x == ("__classdict__" : Str)) = false := by decide)
    (hbase : attributeBase (.Name x px) "reverse" X.env (eval (.Name x px) X.env) = eval (.Name x px) X.env := by rfl) (hline : (apos.endLine == pos.line) = true := by rfl) :
    OE X cm W (.Call (.Attribute (.Name x px) "reverse" apos) [] [] pos) (tBM0 X.K "list" rReverse (tVar i)) (mRevN i) := by
  refine ⟨pe_bm0 PySem.F.plainAttrs_list PySem.F.slot_list_reverse PySem.F.type_list_reverse mt_reverse (pe_var hN hv hd hcd) hbase hline, fun ρ r e F σ H Q hr hp => ?_⟩
  obtain ⟨xs, z, g1, g2, rfl⟩ := onList_ok e
  cases g2
  obtain ⟨v, h2, h3⟩ := hr.slot i _ g1 (by simp)
  obtain ⟨a, ws, rfl, g3, g4, g5⟩ := list_slot hr g1 h2
  have p2 := wrote hr g1 h2 g5.reverse
  exact ⟨_, h2, Or.inl ⟨rfl, ws, SqL.of g3⟩, _, _, rfl, rfl, g3, hp _ _ _ p2 ⟨.val .non, fun _ _ z => by cases z⟩⟩
/-- name.extend(list) -/
def mExtN (i : Nat) (m : ME D) : ME S := listAt i (m.bnd fun d => match d with
  | .lst ys => onList i fun xs => if xs.length + ys.length ≤ sizeLine then some (.non, xs ++ ys) else none
  | _ => fun _ => none)
/-! ### name[i] = e, name[i] op= e -/
def gStN (i : Nat) (mi : ME D) : MG := fun s ρ => match s, ρ[i]? with
  | .val d, some (.lst _) => (match mi ρ with
    | some (.ok (.int k) ρ1) => (match ρ1[i]? with
      | some (.lst xs) => (ixN xs.length k).map fun j => ρ1.set i (.lst (xs.set j d))
      | _ => none)
    | _ => none)
  | _, _ => none
def rGetL (K : PySem.W.Frag) : V → V → Hp → VK → Prop := rIxL K
/-- name[i] op= e (the index is asked once, the item read ahead of e) -/
def sAugN (i : Nat) (g : D → D → Option D) (mi me : ME D) : MS := fun ρ => match ρ[i]? with
  | some (.lst _) => (mi.thn fun dk ρ1 => match dk, ρ1[i]? with
    | .int k, some (.lst xs) => (match atI xs k with
      | some old => (me.thn fun y ρ2 => match ρ2[i]?, g old y with
        | some (.lst ys), some z => (ixN ys.length k).map fun j => .nx (ρ2.set i (.lst (ys.set j z)))
        | _, _ => none) ρ1
      | none => none)
    | _, _ => none) ρ
  | _ => none
/-! ### in, not in: lists and tuples of flat items -/
def flatD : D → Option V
  | .non => some .non
  | .bl b => some (.bl b)
  | .int i => some (.int i)
  | .str x => some (.str x)
  | _ => none
def flatsD : List D → Option (List V)
  | [] => some []
  | d :: ds => match flatD d, flatsD ds with
    | some v, some vs => some (v :: vs)
    | _, _ => none
theorem Rep.flat {K : PySem.W.Frag} {cl : Str → Addr} {F : Hp} {v w : V} {d : D} (h : Rep K cl F v d) (e : flatD d = some w) : v = w ∧ flatV v = true := by
  cases h <;> first | (cases e; exact ⟨rfl, rfl⟩) | cases e
theorem RepL.flats {K : PySem.W.Frag} {cl : Str → Addr} {F : Hp} {vs ws : List V} {ds : List D} (h : RepL K cl F vs ds) (e : flatsD ds = some ws) : vs = ws ∧ vs.all flatV = true := by
  induction vs generalizing ds ws with
  | nil => cases h; cases e; exact ⟨rfl, rfl⟩
  | cons v vs ih =>
    cases h with
    | @cons _ d _ ds' a b =>
      simp only [flatsD] at e
      cases q1 : flatD d with
      | none => rw [q1] at e; cases e
      | some w =>
        cases q2 : flatsD ds' with
        | none => rw [q1, q2] at e; cases e
        | some ws' =>
          rw [q1, q2] at e
          cases e
          obtain ⟨e1, f1⟩ := a.flat q1
          obtain ⟨e2, f2⟩ := ih b q2
          subst e1 e2
          exact ⟨rfl, by simp [f1, f2]⟩
def itemsD : D → Option (List D)
  | .lst xs => some xs
  | .scr xs => some xs
  | .tup xs => some xs
  | .ktp xs => some xs
  | _ => none
def inD (neg : Bool) (x : D) (ys : List D) : Option S := match flatD x, flatsD ys with
  | some v, some vs => some (.val (.bl (if neg then !inV v vs else inV v vs)))
  | _, _ => none
def gIn (neg : Bool) : D → D → Option S := fun x y => (itemsD y).bind (inD neg x)
theorem od_in {K : PySem.W.Frag} (neg : Bool) : OpD K cm (rIn K neg) (gIn neg) := by
  intro F σ H ρ x y dx dy s Q hr hx hy hg hQ
  have fin : ∀ {p : Addr} {vs : List V} {ys : List D}, itemsD dy = some ys → (SqL K H p vs ∨ SqT K H p vs) → RepL K cm F vs ys → y = .ref p → rIn K neg x y H Q := by
    intro p vs ys e hs r ey
    unfold gIn at hg
    rw [e] at hg
    simp only [Option.bind_some, inD] at hg
    cases q1 : flatD dx with
    | none => rw [q1] at hg; cases hg
    | some v =>
      cases q2 : flatsD ys with
      | none => rw [q1, q2] at hg; cases hg
      | some ws =>
        rw [q1, q2] at hg
        cases hg
        obtain ⟨e1, f1⟩ := hx.flat q1
        obtain ⟨e2, f2⟩ := r.flats q2
        subst e1 e2
        exact ⟨p, vs, ey, hs, f1, f2, hQ _ F H (Post.refl hr) (rd_val .bl)⟩
  cases hy with
  | lst h r => exact fin rfl (.inl (SqL.of (hr.sub _ _ h))) r rfl
  | scr h r => exact fin rfl (.inl (SqL.mono hr.sub h)) r rfl
  | tup h r => exact fin rfl (.inr (SqT.of (hr.sub _ _ h))) r rfl
  | ktp h r => exact fin rfl (.inr (SqT.mono hr.sub h)) r rfl
  | _ => cases hg
/-- x in name, the name's own list looked at -/
def mInN (neg : Bool) (i : Nat) (m : ME D) : ME S := m.bnd fun d ρ => match ρ[i]? with
  | some (.val y) => opt (gIn neg d y) ρ
  | some (.lst ys) => opt (inD neg d ys) ρ
  | _ => none
theorem sim_inN {K : PySem.W.Frag} (neg : Bool) {i : Nat} (ha : Sim K cm W (RD K cm) ta ma) : Sim K cm W (RO K cm) (tOp (rIn K neg) ta (tVar i)) (mInN neg i ma) := by
  intro ρ r e F σ H Q hr hp
  refine ha.step e hr hp fun d ρ1 v F1 H1 e1 p1 r1 => ?_
  split at e1
  · rename_i y q
    obtain ⟨s, h1, rfl⟩ := opt_ok e1
    obtain ⟨w, h2, h3⟩ := p1.rel.slot i _ q (by simp)
    exact ⟨w, h2, od_in neg p1.rel r1 h3.of_val h1 fun v F2 H2 p2 z => hp v F2 H2 (p1.trans p2) (tr_O _ _ _ _ _ _ _ _ _ _ _ _ p1 z)⟩
  · rename_i ys q
    obtain ⟨s, h1, rfl⟩ := opt_ok e1
    obtain ⟨w, h2, h3⟩ := p1.rel.slot i _ q (by simp)
    obtain ⟨a, ws, rfl, g3, g4, g5⟩ := list_slot p1.rel q h2
    refine ⟨_, h2, ?_⟩
    unfold inD at h1
    cases q1 : flatD d with
    | none => rw [q1] at h1; cases h1
    | some v =>
      cases q2 : flatsD ys with
      | none => rw [q1, q2] at h1; cases h1
      | some us =>
        rw [q1, q2] at h1
        cases h1
        obtain ⟨e1, f1⟩ := r1.flat q1
        obtain ⟨e2, f2⟩ := g5.flats q2
        subst e1 e2
        exact ⟨a, ws, rfl, .inl (SqL.of g3), f1, f2, hp _ F1 H1 p1 ⟨.val .bl, fun _ _ z => by cases z⟩⟩
  · cases e1

/-! ### dicts -/
def keyD : D → Option Key
  | .int i => some (.inl i)
  | .str x => some (.inr x)
  | _ => none
def keysD : List D → Option (List Key)
  | [] => some []
  | d :: ds => match keyD d, keysD ds with
    | some k, some ks => some (k :: ks)
    | _, _ => none
theorem Rep.key {K : PySem.W.Frag} {cl : Str → Addr} {F : Hp} {v : V} {d : D} {k : Key} (h : Rep K cl F v d) (e : keyD d = some k) : v = kV k := by
  cases h <;> first | (cases e; rfl) | cases e
theorem RepL.keys {K : PySem.W.Frag} {cl : Str → Addr} {F : Hp} {vs : List V} {ds : List D} {ks : List Key} (h : RepL K cl F vs ds) (e : keysD ds = some ks) : vs = ks.map kV := by
  induction vs generalizing ds ks with
  | nil => cases h; cases e; rfl
  | cons v vs ih =>
    cases h with
    | @cons _ d _ ds' a b =>
      simp only [keysD] at e
      cases q1 : keyD d with
      | none => rw [q1] at e; cases e
      | some k =>
        cases q2 : keysD ds' with
        | none => rw [q1, q2] at e; cases e
        | some ks' =>
          rw [q1, q2] at e
          cases e
          simp [a.key q1, ih b q2]
def tkeyD : D → Option (List Key)
  | .tup ds => keysD ds
  | _ => none
theorem Rep.tkey {K : PySem.W.Frag} {cl : Str → Addr} {F : Hp} {v : V} {d : D} {k : List Key} (h : Rep K cl F v d) (e : tkeyD d = some k) : ∃ a, v = .ref a ∧ F a = some (.tup (k.map kV)) := by
  cases h with
  | tup h r => exact ⟨_, rfl, by rw [← r.keys e]; exact h⟩
  | _ => cases e
section
variable {κ : Type} [DecidableEq κ]
def valD (kvs : List (κ × D)) (k : κ) : Option D := (kvs.find? fun kv => decide (kv.1 = k)).map (·.2)
def putD (kvs : List (κ × D)) (k : κ) (v : D) : List (κ × D) :=
  if (kvs.any fun kv => decide (kv.1 = k)) = true then kvs.map (fun kv => if kv.1 = k then (kv.1, v) else kv) else kvs ++ [(k, v)]
end

section
variable {K : PySem.W.Frag} {cl : Str → Addr} {F F' : Hp} {vs : List (Key × V)} {ds : List (Key × D)}
theorem RepK.keys1 (h : RepK K cl F vs ds) : vs.map (·.1) = ds.map (·.1) := by
  induction vs generalizing ds with
  | nil => cases h; rfl
  | cons v vs ih => cases h with | cons a b => simp [ih b]
theorem RepK.len (h : RepK K cl F vs ds) : vs.length = ds.length := by
  have := congrArg List.length h.keys1
  simpa using this
theorem RepK.val (h : RepK K cl F vs ds) (k : Key) : (valV vs k = none ∧ valD ds k = none) ∨ ∃ v d, valV vs k = some v ∧ valD ds k = some d ∧ Rep K cl F v d := by
  induction vs generalizing ds with
  | nil => cases h; exact .inl ⟨rfl, rfl⟩
  | cons v vs ih =>
    cases h with
    | @cons k' v' d' vs' ds' a b =>
      by_cases e : k' = k
      · exact .inr ⟨v', d', by simp [valV, List.find?_cons, e], by simp [valD, List.find?_cons, e], a⟩
      · rcases ih b with ⟨h1, h2⟩ | ⟨w, d, h1, h2, h3⟩
        · exact .inl ⟨by simpa [valV, List.find?_cons, e] using h1, by simpa [valD, List.find?_cons, e] using h2⟩
        · exact .inr ⟨w, d, by simpa [valV, List.find?_cons, e] using h1, by simpa [valD, List.find?_cons, e] using h2, h3⟩
theorem RepK.app {ws : List (Key × V)} {es : List (Key × D)} (h : RepK K cl F vs ds) (g : RepK K cl F ws es) : RepK K cl F (vs ++ ws) (ds ++ es) := by
  induction vs generalizing ds with
  | nil => cases h; exact g
  | cons v vs ih => cases h with | cons a b => exact .cons a (ih b)
theorem RepK.put {v : V} {d : D} (h : RepK K cl F vs ds) (k : Key) (r : Rep K cl F v d) : RepK K cl F (putK vs k v) (putD ds k d) := by
  have ha : (vs.any fun kv => decide (kv.1 = k)) = (ds.any fun kv => decide (kv.1 = k)) := by
    have e1 : (vs.any fun kv => decide (kv.1 = k)) = (vs.map (·.1)).any fun x => decide (x = k) := by simp [List.any_map, Function.comp_def]
    have e2 : (ds.any fun kv => decide (kv.1 = k)) = (ds.map (·.1)).any fun x => decide (x = k) := by simp [List.any_map, Function.comp_def]
    rw [e1, e2, h.keys1]
  unfold putK putD
  rw [ha]
  split
  · clear ha
    rename_i hh
    clear hh
    induction vs generalizing ds with
    | nil => cases h; exact .nil
    | cons v vs ih =>
      cases h with
      | @cons k' v' d' vs' ds' a b =>
        simp only [List.map_cons]
        by_cases e : k' = k
        · simp only [e, if_true]; exact .cons r (ih b)
        · simp only [e, if_false]; exact .cons a (ih b)
  · exact h.app (.cons r .nil)
end

section
variable {K : PySem.W.Frag} {cl : Str → Addr} {F F' : Hp} {vs : List (List Key × V)} {ds : List (List Key × D)}
theorem RepT.keys1 (h : RepT K cl F vs ds) : vs.map (·.1) = ds.map (·.1) := by
  induction vs generalizing ds with
  | nil => cases h; rfl
  | cons v vs ih => cases h with | cons a b => simp [ih b]
theorem RepT.len (h : RepT K cl F vs ds) : vs.length = ds.length := by
  have := congrArg List.length h.keys1
  simpa using this
theorem RepT.val (h : RepT K cl F vs ds) (k : List Key) : (valV vs k = none ∧ valD ds k = none) ∨ ∃ v d, valV vs k = some v ∧ valD ds k = some d ∧ Rep K cl F v d := by
  induction vs generalizing ds with
  | nil => cases h; exact .inl ⟨rfl, rfl⟩
  | cons v vs ih =>
    cases h with
    | @cons k' v' d' vs' ds' a b =>
      by_cases e : k' = k
      · exact .inr ⟨v', d', by simp [valV, List.find?_cons, e], by simp [valD, List.find?_cons, e], a⟩
      · rcases ih b with ⟨h1, h2⟩ | ⟨w, d, h1, h2, h3⟩
        · exact .inl ⟨by simpa [valV, List.find?_cons, e] using h1, by simpa [valD, List.find?_cons, e] using h2⟩
        · exact .inr ⟨w, d, by simpa [valV, List.find?_cons, e] using h1, by simpa [valD, List.find?_cons, e] using h2, h3⟩
theorem RepT.app {ws : List (List Key × V)} {es : List (List Key × D)} (h : RepT K cl F vs ds) (g : RepT K cl F ws es) : RepT K cl F (vs ++ ws) (ds ++ es) := by
  induction vs generalizing ds with
  | nil => cases h; exact g
  | cons v vs ih => cases h with | cons a b => exact .cons a (ih b)
theorem RepT.put {v : V} {d : D} (h : RepT K cl F vs ds) (k : List Key) (r : Rep K cl F v d) : RepT K cl F (putK vs k v) (putD ds k d) := by
  have ha : (vs.any fun kv => decide (kv.1 = k)) = (ds.any fun kv => decide (kv.1 = k)) := by
    have e1 : (vs.any fun kv => decide (kv.1 = k)) = (vs.map (·.1)).any fun x => decide (x = k) := by simp [List.any_map, Function.comp_def]
    have e2 : (ds.any fun kv => decide (kv.1 = k)) = (ds.map (·.1)).any fun x => decide (x = k) := by simp [List.any_map, Function.comp_def]
    rw [e1, e2, h.keys1]
  unfold putK putD
  rw [ha]
  split
  · clear ha
    rename_i hh
    clear hh
    induction vs generalizing ds with
    | nil => cases h; exact .nil
    | cons v vs ih =>
      cases h with
      | @cons k' v' d' vs' ds' a b =>
        simp only [List.map_cons]
        by_cases e : k' = k
        · simp only [e, if_true]; exact .cons r (ih b)
        · simp only [e, if_false]; exact .cons a (ih b)
  · exact h.app (.cons r .nil)
end

/-- what a key finds in the dict at a slot: told (some none: it is not there) -/
def gGetS : S → D → Option (Option D)
  | .dK kvs, d => (keyD d).map (valD kvs)
  | .dT kvs, d => (tkeyD d).map (valD kvs)
  | .val (.dK kvs), d => (keyD d).map (valD kvs)
  | .val (.dT kvs), d => (tkeyD d).map (valD kvs)
  | _, _ => none
theorem dget_of {K : PySem.W.Frag} {F H : Hp} {v y : V} {s : S} {dy : D} {od : Option D} (m : ∀ a o, F a = some o → H a = some o) (h : RepS K cm F H v s) (hy : Rep K cm F y dy) (e : gGetS s dy = some od) :
    ∃ a o, v = .ref a ∧ DGet H a y o ∧ ((o = none ∧ od = none) ∨ ∃ w d, o = some w ∧ od = some d ∧ Rep K cm F w d) := by
  have hk : ∀ {a : Addr} {vs : List (Key × V)} {ds : List (Key × D)}, H a = some (.dK vs) → RepK K cm F vs ds → (keyD dy).map (valD ds) = some od → ∃ o, DGet H a y o ∧ ((o = none ∧ od = none) ∨ ∃ w d, o = some w ∧ od = some d ∧ Rep K cm F w d) := by
    intro a vs ds hh r e
    cases q : keyD dy with
    | none => rw [q] at e; cases e
    | some k =>
      rw [q] at e
      cases e
      refine ⟨valV vs k, .inl ⟨vs, k, .inl hh, hy.key q, rfl⟩, ?_⟩
      rcases r.val k with ⟨h1, h2⟩ | ⟨w, d, h1, h2, h3⟩
      · exact .inl ⟨h1, h2⟩
      · exact .inr ⟨w, d, h1, h2, h3⟩
  have ht : ∀ {a : Addr} {vs : List (List Key × V)} {ds : List (List Key × D)}, H a = some (.dT vs) → RepT K cm F vs ds → (tkeyD dy).map (valD ds) = some od → ∃ o, DGet H a y o ∧ ((o = none ∧ od = none) ∨ ∃ w d, o = some w ∧ od = some d ∧ Rep K cm F w d) := by
    intro a vs ds hh r e
    cases q : tkeyD dy with
    | none => rw [q] at e; cases e
    | some k =>
      rw [q] at e
      cases e
      obtain ⟨b, rfl, hb⟩ := hy.tkey q
      refine ⟨valV vs k, .inr ⟨vs, k, b, .inl hh, rfl, m _ _ hb, rfl⟩, ?_⟩
      rcases r.val k with ⟨h1, h2⟩ | ⟨w, d, h1, h2, h3⟩
      · exact .inl ⟨h1, h2⟩
      · exact .inr ⟨w, d, h1, h2, h3⟩
  cases h with
  | val r =>
    cases r with
    | dK h1 r => obtain ⟨o, h2, h3⟩ := hk (m _ _ h1) r e; exact ⟨_, o, rfl, h2, h3⟩
    | dT h1 r => obtain ⟨o, h2, h3⟩ := ht (m _ _ h1) r e; exact ⟨_, o, rfl, h2, h3⟩
    | _ => cases e
  | own h1 h2 r =>
    cases r with
    | dK r => obtain ⟨o, h2, h3⟩ := hk h1 r e; exact ⟨_, o, rfl, h2, h3⟩
    | dT r => obtain ⟨o, h2, h3⟩ := ht h1 r e; exact ⟨_, o, rfl, h2, h3⟩
    | _ => cases e
  | err _ _ => cases e
theorem slot_at {K : PySem.W.Frag} {F H : Hp} {σ : St} {ρ : Slots} {i : Nat} {s : S} {v : V} (hr : Rel K cm F σ H ρ) (h : ρ[i]? = some s) (hn : s ≠ .no) (hv : σ[i]? = some (some v)) : RepS K cm F H v s := by
  obtain ⟨v', h1, h2⟩ := hr.slot i _ h hn
  rw [hv] at h1
  cases h1
  exact h2
/-- name[key] -/
def mGetN (i : Nat) (mk : ME D) : ME D := fun ρ => match ρ[i]? with
  | none => none
  | some .no => none
  | some _ => (mk.bnd fun y ρ => match ρ[i]? with
    | none => none
    | some .no => none
    | some s => match gGetS s y with
      | some (some d) => ret d ρ
      | _ => none) ρ
/-- key in name -/
def mKeyN (neg : Bool) (i : Nat) (mk : ME D) : ME S := mk.bnd fun y ρ => match ρ[i]? with
  | none => none
  | some .no => none
  | some s => match gGetS s y with
    | some o => ret (.val (.bl (if neg then !o.isSome else o.isSome))) ρ
    | none => none
theorem sim_keyN {K : PySem.W.Frag} {i : Nat} (ha : Sim K cm W (RD K cm) ta ma) : Sim K cm W (RO K cm) (tDIn ta (tVar i)) (mKeyN false i ma) := by
  intro ρ r e F σ H Q hr hp
  refine ha.step e hr hp fun dy ρ2 y F2 H2 e2 p2 r2 => ?_
  split at e2
  · cases e2
  · cases e2
  · rename_i s hn q
    split at e2
    · rename_i od g
      cases ret_ok e2
      obtain ⟨v, hsv, hs⟩ := p2.rel.slot i _ q (fun z => hn z)
      obtain ⟨a, o, rfl, h1, h2⟩ := dget_of p2.rel.sub hs r2 g
      refine ⟨_, hsv, a, o, rfl, h1, ?_⟩
      rcases h2 with ⟨rfl, rfl⟩ | ⟨w, d', rfl, rfl, rw'⟩
      · exact hp _ F2 H2 p2 ⟨.val .bl, fun _ _ z => by cases z⟩
      · exact hp _ F2 H2 p2 ⟨.val .bl, fun _ _ z => by cases z⟩
    · cases e2
/-- a comparison by its own reading, as a value, as a test -/
structure CEs (X : Cx) (cm : Wd) (W : WX) (op : CmpOp) (a b : Expr) (t : TE) (m : ME S) : Prop where
  pc : PC X op a b t
  sim : Sim X.K cm W (RO X.K cm) t m
theorem cs_din {i : Nat} {x : Str} {px : Pos} (hu : X.A.units + 1 < cLine) (ha : DE X cm W a ta ma) (hN : X.N[i]? = some x) (hv : Vis X.env.scope x) (hd : (x == ("__debug__" : Str)) = false := by decide) (hcd : (x == ("__classdict__" : Str)) = false := by decide) :
    CEs X cm W .In a (.Name x px) (tDIn ta (tVar i)) (mKeyN false i ma) := ⟨pc_din hu ha.pe (pe_var hN hv hd hcd), sim_keyN ha.sim⟩
theorem te_cs {op : CmpOp} {mo : ME S} (h : CEs X cm W op a b t mo) (h1 : behindInMarks op b = false := by rfl) : TEs X cm W (.Compare a [op] [b] pos) (tB t) (mTest mo) := ⟨pt_cmp h.pc h1, sim_test h.sim⟩
theorem te_inN (neg : Bool) {op : CmpOp} {i : Nat} {x : Str} {px : Pos} (hx : OpR X (compareOp op) (rIn X.K neg)) (ha : DE X cm W a ta ma) (hN : X.N[i]? = some x) (hv : Vis X.env.scope x) (hd : (x == ("__debug__" : Str)) = false := by decide) (hcd : (x == ("__classdict__" : Str)) = false := by decide) (hm : behindInMarks op (.Name x px) = false := by rfl) :
    TEs X cm W (.Compare a [op] [.Name x px] pos) (tTest (tOp (rIn X.K neg) ta (tVar i))) (mTest (mInN neg i ma)) := ⟨pt_cmpR hx ha.pe (pe_var hN hv hd hcd) hm, sim_test (sim_inN neg ha.sim)⟩
/-- {} -/
theorem oe_newK : OE X cm W (.Dict [] [] pos) tDNewK (ret (.dK [])) := by
  refine ⟨pe_dnewK, fun ρ r e F σ H Q hr hp => ?_⟩
  cases ret_ok e
  exact fun q hq => hp _ _ _ (Post.warm hr hq) ⟨.own upd_same (hr.noF hq) (.dK .nil), fun a e _ => by cases e; exact ⟨fun z => (hr.owned' z).1 hq, .inr hq⟩⟩
/-- name[key] = e -/
def gPutS : S → D → D → Option S
  | .dK kvs, k, d => if kvs.length < sizeLine then (keyD k).map fun k => .dK (putD kvs k d) else none
  | .dT kvs, k, d => if kvs.length < sizeLine then (tkeyD k).map fun k => .dT (putD kvs k d) else none
  | _, _, _ => none
def sPutN (i : Nat) (mk mv : ME D) : MS := mv.thn fun d => fun ρ => match ρ[i]? with
  | none => none
  | some .no => none
  | some _ => (mk.thn fun k ρ => match ρ[i]? with
    | some s => (gPutS s k d).map fun s' => .nx (ρ.set i s')
    | none => none) ρ
theorem se_putN {i : Nat} {x : Str} {px pos' : Pos} (hu : X.A.units + 1 < cLine) (hN : X.N[i]? = some x) (hv : Vis X.env.scope x) (hk : DE X cm W a ta ma) (he : DE X cm W b tb mb) (hd : (x == ("__debug__" : Str)) = false := by decide) (hcd : (x == ("__classdict__" : Str)) = false := by decide)
    (hs : swapsWith b (some (.Subscript (.Name x px) a pos')) pos.line X.env = pure false := by rfl) : SE X cm W P (.Assign [.Subscript (.Name x px) a pos'] b pos) (sDPut (tVar i) ta tb) (sPutN i ma mb) := by
  refine ⟨ps_dput hu (pe_var hN hv hd hcd) hk.pe he.pe hs, fun ρ r e F σ H Dd hr hp => ?_⟩
  refine he.sim.stepS e hr hp fun d ρ1 v F1 H1 e1 p1 r1 => ?_
  have hs1 : (∃ v, σ[i]? = some (some v)) ∧ (ma.thn fun k ρ => match ρ[i]? with
    | some s => (gPutS s k d).map fun s' => .nx (ρ.set i s')
    | none => none) ρ1 = some r := by
    cases q : ρ1[i]? with
    | none => rw [q] at e1; cases e1
    | some s =>
      rw [q] at e1
      cases s with
      | no => cases e1
      | _ =>
        obtain ⟨v, h, _⟩ := p1.rel.slot i _ q (by simp)
        exact ⟨⟨v, h⟩, e1⟩
  obtain ⟨⟨w, hsw⟩, e1⟩ := hs1
  refine ⟨w, hsw, hk.sim.stepS e1 p1.rel (hp.trans p1.any) fun k ρ2 y F2 H2 e2 p2 r2 => ?_⟩
  cases q : ρ2[i]? with
  | none => rw [q] at e2; cases e2
  | some s =>
    rw [q] at e2
    dsimp only at e2
    cases q2 : gPutS s k d with
    | none => rw [q2] at e2; cases e2
    | some s' =>
      rw [q2] at e2
      cases e2
      have rv := Rep.mono p2.mono r1
      cases s with
      | dK kvs =>
        obtain ⟨a', o', ea, g1, g2, g3⟩ := (slot_at p2.rel q (by simp) hsw).of_own rfl
        subst ea
        cases g3 with
        | dK g3 =>
          simp only [gPutS] at q2
          split at q2
          · rename_i hl
            cases q3 : keyD k with
            | none => rw [q3] at q2; cases q2
            | some kk =>
              rw [q3] at q2
              cases q2
              rw [r2.key q3]
              exact ⟨a', _, rfl, DPut.k g1 (by rw [g3.len]; exact hl), hp _ σ _ ((p1.trans p2).trans (Post.write p2.rel q rfl hsw (.dK (g3.put kk rv)))).any⟩
          · cases q2
      | dT kvs =>
        obtain ⟨a', o', ea, g1, g2, g3⟩ := (slot_at p2.rel q (by simp) hsw).of_own rfl
        subst ea
        cases g3 with
        | dT g3 =>
          simp only [gPutS] at q2
          split at q2
          · rename_i hl
            cases q3 : tkeyD k with
            | none => rw [q3] at q2; cases q2
            | some kk =>
              rw [q3] at q2
              cases q2
              obtain ⟨bb, rfl, hb⟩ := r2.tkey q3
              exact ⟨a', _, rfl, DPut.t g1 (p2.rel.sub _ _ hb) (by rw [g3.len]; exact hl), hp _ σ _ ((p1.trans p2).trans (Post.write p2.rel q rfl hsw (.dT (g3.put kk rv)))).any⟩
          · cases q2
      | _ => cases q2
/-- list(name), the name a dict of ints and texts -/
def keyOut : Key → D
  | .inl i => .int i
  | .inr x => .str x
def mListKN (i : Nat) : ME S := fun ρ => match ρ[i]? with
  | some (.dK kvs) => some (.ok (.lst (kvs.map fun kv => keyOut kv.1)) ρ)
  | some (.val (.dK kvs)) => some (.ok (.lst (kvs.map fun kv => keyOut kv.1)) ρ)
  | _ => none
theorem RepK.outs {K : PySem.W.Frag} {cl : Str → Addr} {F F' : Hp} {vs : List (Key × V)} {ds : List (Key × D)} (h : RepK K cl F vs ds) : RepL K cl F' (vs.map fun kv => kV kv.1) (ds.map fun kv => keyOut kv.1) := by
  induction vs generalizing ds with
  | nil => cases h; exact .nil
  | cons v vs ih =>
    cases h with
    | @cons k _ _ _ _ a b =>
      refine .cons ?_ (ih b)
      cases k with
      | inl i => exact .int
      | inr x => exact .str
theorem oe_listKN {i : Nat} {x : Str} {px : Pos} (hc : X.calm = true) (hg : Gl X "list") (hm : X.mg "list" = none) (hN : X.N[i]? = some x) (hv : Vis X.env.scope x) (hd : (x == ("__debug__" : Str)) = false := by decide) (hcd : (x == ("__classdict__" : Str)) = false := by decide) (hn : ("list" : Str) ≠ "__name__" := by decide) (hdb : (("list" : Str) == ("__debug__" : Str)) = false := by decide)
    (h1 : starEach (.Name x px :: []) X.env = (false, eval (.Name x px) X.env) :: starEach [] X.env := by rfl) (hpl : (backTo pos (starEach [] X.env)).any (·.1) = false := by rfl) :
    OE X cm W (.Call (.Name "list" p) [.Name x px] [] pos) (tCB rListD (tCons (tVar i) tNil)) (mListKN i) := by
  refine ⟨pe_callTy (call_list_dK hc) hg hm boot_list (pa_cons (pe_var hN hv hd hcd) pa_nil h1) hn hdb h1 hpl, fun ρ r e F σ H Q hr hp => ?_⟩
  unfold mListKN at e
  split at e
  · rename_i kvs q
    cases e
    obtain ⟨v, h2, h3⟩ := hr.slot i _ q (by simp)
    obtain ⟨a, o, rfl, g1, g2, g3⟩ := h3.of_own rfl
    cases g3 with
    | dK g3 => exact ⟨_, h2, a, _, rfl, g1, fun l hl => hp _ _ _ (Post.warm hr hl) (rd_lst hr hl g3.outs)⟩
  · rename_i kvs q
    cases e
    obtain ⟨v, h2, h3⟩ := hr.slot i _ q (by simp)
    cases h3.of_val with
    | dK g1 g3 => exact ⟨_, h2, _, _, rfl, hr.sub _ _ g1, fun l hl => hp _ _ _ (Post.warm hr hl) (rd_lst hr hl g3.outs)⟩
  · cases e
end
end L2.Fn
set_option maxRecDepth 100000
set_option maxHeartbeats 4000000
/-! FnH: errors raised and caught; isinstance. -/
namespace L2.Fn
open PySem PySem.Spec PyProof.Rows L2

/-! ### an error class whose __init__ stores one field -/
def spExc (C : Addr) (f : Str) : Sp := fun vs H Q _ => ∃ a v, vs = [.ref a, v] ∧ H a = some (exo a C none) ∧ ∀ dx, H dx = none → dx ≠ a → Q .non (upd (upd H dx (exd dx [(f, v)])) a (exo a C (some dx)))
/-- def __init__(self, y): self.f = y -/
theorem exc_init {P : Program} {w : World} {K : PySem.W.Frag} {mg : Str → Option Value} {base : Heap} {qual f y : Str} {params : Arguments} {scope : Scope} {fa C : Addr} {fd : FuncData} {p1 p2 p3 p4 : Pos}
    (Fd : FunD K "__init__" qual params [.Assign [.Attribute (.Name "self" p1) f p2] (.Name y p3) p4] scope [] [] fa fd) (Sc : FnScope ["self", y] ["self", y] scope) (hs : scope.names.lookup ("self" : Str) = some .local) (hy : scope.names.lookup y = some .local)
    (T : OexC K C) (hno : PySem.W.findIn K (.ref C) f = some none) (hyd : (y == ("__debug__" : Str)) = false := by decide) (hyc : (y == ("__classdict__" : Str)) = false := by decide)
    (hsw : ∀ env, swapsWith (.Name y p3) (some (.Attribute (.Name "self" p1) f p2)) p4.line env = pure false := by intro _; rfl) : FnOk P w K mg base CX0 1 fa fd ["self", y] (spExc C f) := by
  refine Fd.ok Sc (fun vs H Q E h => ?_) fun cdv A outer s H vs Q E hr h => ?_
  · obtain ⟨a, v, rfl, _⟩ := h; rfl
  · obtain ⟨a, v, rfl, h1, h2⟩ := h
    refine ⟨_, pss_one (ps_ost (pe_var (i := 0) rfl (.inl hs)) (pe_var (i := 1) rfl (.inl hy) hyd hyc) (hsw _)), ?_⟩
    exact ⟨v, rfl, .ref a, rfl, a, C, rfl, T, hno, .inl ⟨h1, fun dx n1 n2 => h2 dx n1 n2⟩⟩
section
variable {X : Cx} {cm : Wd} {W : WX} {P : Nat → Bool} {e a b c o : Expr} {es : List Expr} {t ta tb tc : TE} {ts : TA} {m ma mb mc : ME D} {mo : ME S} {pos p p' : Pos}
/-- raise C(e) -/
def sRaise1 (C f : Str) (m : ME D) : MS := m.thn fun d ρ => some (.ex C [(f, d)] ρ)
theorem se_raise1 {C f x : Str} {fI : Addr} {fd : FuncData} {ps : List Str} (hc : X.calm = true) (tk : Takes X W) (T : OexC X.K (cm C)) (iC : PySem.W.findIn X.K (.ref (cm C)) "__init__" = some (some (.ref fI))) (tI : PySem.W.typeIn X.K (.ref fI) = some (.type "function"))
    (F1 : FnOk X.prog X.w X.K X.mg X.base CX0 1 fI fd ps (spExc (cm C) f)) (hr : Room 2 X.A) (hb : Binds X.K fd ps []) (hg : Gl X x) (hm : X.mg x = some (.ref (cm C))) (ha : DE X cm W a ta ma)
    (hdb : (x == ("__debug__" : Str)) = false := by decide) (he : starEach (a :: []) X.env = (false, eval a X.env) :: starEach [] X.env := by rfl) (hpl : (backTo pos (starEach [] X.env)).any (·.1) = false := by rfl) :
    SE X cm W P (.Raise (some (.Call (.Name x p) [a] [] pos)) none p') (fun _ σ H => tMkO (cm C) (spExc (cm C) f) [] (tCons ta tNil) σ H fun cls d H' => W cls d σ H') (sRaise1 C f ma) := by
  refine ⟨ps_raise hc tk (pmk_oex T iC tI F1 hr hb .nil pass0 hg hm (pa_cons ha.pe pa_nil he) hdb he hpl), fun ρ r e F σ H D hr' hp => ?_⟩
  refine ha.sim.stepS e hr' hp fun d ρ1 v F1 H1 e1 p1 r1 => ?_
  cases e1
  refine ⟨by simp, fun q hq => ⟨q, v, rfl, upd_same, fun dx n1 n2 => ⟨rfl, dx, [(f, v)], upd_same, ?_, ?_, ?_⟩⟩⟩
  · rw [upd_ne n2, upd_same]
  · rw [upd_ne n2] at n1; exact n1
  · have n1' : H1 dx = none := by rw [upd_ne n2] at n1; exact n1
    have eH : upd (del (upd (upd (upd H1 q (exo q (cm C) none)) dx (exd dx [(f, v)])) q (exo q (cm C) (some dx))) q) dx (.xd [(f, v)]) = upd H1 dx (.xd [(f, v)]) := by
      funext b
      unfold upd del
      by_cases e1 : b = dx
      · simp [e1]
      · by_cases e2 : b = q
        · simp [e1, e2, hq]
        · simp [e1, e2]
    rw [eH]
    have p2 := Post.cold (P := P) (o := .xd [(f, v)]) p1.rel n1'
    refine hp (some dx) _ σ _ (p1.any.trans p2) (.inr ⟨dx, _, rfl, upd_same, .cons (Rep.mono p2.mono r1) .nil⟩)

/-! ### a caught error -/
/-- in an except suite: the error at a, its class cls, its own dict d -/
def errWd (K : PySem.W.Frag) (cm : Wd) (a : Addr) (cls : Value) (d : Option Addr) : Wd := ⟨cm.cls, fun F0 a' C fs => a' = a ∧ cls = .ref (cm C) ∧ ExR K cm F0 d fs⟩
theorem ExR.mono {K : PySem.W.Frag} {cl : Str → Addr} {F F' : Hp} {d : Option Addr} {fs : List (Str × D)} (m : ∀ a o, F a = some o → F' a = some o) (h : ExR K cl F d fs) : ExR K cl F' d fs := by
  rcases h with h | ⟨dd, ws, h1, h2, h3⟩
  · exact .inl h
  · exact .inr ⟨dd, ws, h1, m _ _ h2, h3.mono m⟩
/-- error.f -/
def mErr (i : Nat) (C f : Str) : ME D := fun ρ => match ρ[i]? with
  | some (.err C' fs) => if C' = C then opt (fs.lookup f) ρ else none
  | _ => none
theorem de_err {q : Addr} {oe : Obj} {cls : Value} {d : Option Addr} {pn : List (Addr × Obj)} {i : Nat} {x f C : Str} {px : Pos} (T : XfC X.K (cm C)) (hno : PySem.W.findIn X.K (.ref (cm C)) f = some none) (hz : Zc cls d oe) (hf : ∃ vs, oe.data = .fields vs)
    (hN : X.N[i]? = some x) (hv : Vis X.env.scope x) (hd : (x == ("__debug__" : Str)) = false := by decide) (hcd : (x == ("__classdict__" : Str)) = false := by decide)
    (hb : attributeBase (.Name x px) f X.env (eval (.Name x px) X.env) = eval (.Name x px) X.env := by rfl) :
    DE (X.suite q ((q, oe) :: pn)) (errWd X.K cm q cls d) W (.Attribute (.Name x px) f pos) (tXf q cls d (cm C) f (tVar i)) (mErr i C f) := by
  refine ⟨pe_xf T hno hz hf (pe_var (X := X.suite q ((q, oe) :: pn)) hN hv hd hcd) hb, fun ρ r e F σ H Q hr hp => ?_⟩
  unfold mErr at e
  split at e
  · rename_i C' fs g
    split at e
    · rename_i ec
      subst ec
      obtain ⟨dv, h1, rfl⟩ := opt_ok e
      obtain ⟨v, h2, h3⟩ := hr.slot i _ g (by simp)
      cases h3 with
      | own _ _ r => cases r
      | @err a' _ _ F0 q0 r =>
        obtain ⟨rfl, ecls, hx⟩ := r
        rcases hx with ⟨_, rfl⟩ | ⟨dd, ws, ed, h4, h5⟩
        · cases h1
        · obtain ⟨w, h6, h7⟩ := h5.look h1
          exact ⟨_, h2, rfl, ecls, dd, ws, w, ed, hr.sub _ _ (q0 _ _ h4), h6, hp w F H (Post.refl hr) (h7.mono q0)⟩
    · cases e
  · cases e
end
/-! ### try: .. except C as x: .. -/
/-- the answer of an except clause to an error's class -/
def ExmOk (K : PySem.W.Frag) (cm : Wd) (sub : Str → Option Bool) (c : Value) : Prop := ∀ C b, sub C = some b → PySem.W.exmOne K (.ref (cm C)) c = some b
def notErr : S → Bool
  | .err _ _ => false
  | _ => true
def sTry (sub : Str → Option Bool) (i : Nat) (mb ms : MS) : MS := fun ρ => match mb ρ with
  | some (.ex C fs ρ1) => if ρ1.all notErr then (match sub C with
    | some true => if i < ρ1.length then (match ms (ρ1.set i (.err C fs)) with
      | some (.nx ρ2) => if (ρ2.set i .no).all notErr then some (.nx (ρ2.set i .no)) else none
      | some (.bk ρ2) => if (ρ2.set i .no).all notErr then some (.bk (ρ2.set i .no)) else none
      | some (.ct ρ2) => if (ρ2.set i .no).all notErr then some (.ct (ρ2.set i .no)) else none
      | some (.rt s ρ2) => if (ρ2.set i .no).all notErr && notErr s then some (.rt s (ρ2.set i .no)) else none
      | _ => none) else none
    | some false => some (.ex C fs ρ1)
    | none => none) else none
  | r => r
section
variable {K : PySem.W.Frag} {cm : Wd} {W : WX} {P : Nat → Bool} {F F' : Hp} {σ σ' : St} {H H' : Hp} {ρ ρ' : Slots} {i : Nat}
theorem RepO.wd {cm' : Wd} (hc : cm'.cls = cm.cls) {o : HO} {s : S} (h : RepO K cm F o s) : RepO K cm' F o s := by
  obtain ⟨c, e⟩ := cm'
  obtain ⟨c2, e2⟩ := cm
  dsimp only at hc
  subst hc
  cases h with
  | lst r => exact .lst r
  | dK r => exact .dK r
  | dT r => exact .dT r
  | ins r => exact .ins r
/-- the slots without a caught error -/
def NoErr (ρ : Slots) : Prop := ∀ (j : Nat) (C : Str) (fs : List (Str × D)), ρ[j]? ≠ some (.err C fs)
theorem noErr_of (h : ρ.all notErr = true) : NoErr ρ := fun j C fs e => by
  have := List.all_eq_true.mp h _ (List.mem_of_getElem? e)
  cases this
theorem RepS.wd {cm' : Wd} (hc : cm'.cls = cm.cls) {v : V} {s : S} (h : RepS K cm F H v s) (n : ∀ C fs, s ≠ .err C fs) : RepS K cm' F H v s := by
  cases h with
  | val r => exact .val (by rw [hc]; exact r)
  | own h1 h2 h3 => exact .own h1 h2 (h3.wd hc)
  | err _ _ => exact absurd rfl (n _ _)
theorem Rel.wd {cm' : Wd} (hc : cm'.cls = cm.cls) (R : Rel K cm F σ H ρ) (n : NoErr ρ) : Rel K cm' F σ H ρ :=
  ⟨R.len, R.sub, fun j s h1 h2 => let ⟨v, h3, h4⟩ := R.slot j s h1 h2; ⟨v, h3, h4.wd hc fun C fs e => n j C fs (by rw [h1, e])⟩, R.sep⟩
/-- the slot of a caught error is filled -/
theorem rel_err {q : Addr} {cls : Value} {d : Option Addr} {C : Str} {fs : List (Str × D)} (R : Rel K cm F σ H ρ) (n : NoErr ρ) (hi : i < ρ.length) (hx : ExR K cm F d fs) (hc : cls = .ref (cm C)) :
    Rel K (errWd K cm q cls d) F (σ.set i (some (.ref q))) H (ρ.set i (.err C fs)) ∧ ∀ a, owns (σ.set i (some (.ref q))) (ρ.set i (.err C fs)) a → owns σ ρ a := by
  have R' : Rel K (errWd K cm q cls d) F σ H ρ := Rel.wd (cm := cm) (cm' := errWd K cm q cls d) rfl R n
  obtain ⟨h1, h2, h3⟩ := Post.store (P := fun _ => false) R' (RepS.err (F0 := F) (fun _ _ h => h) ⟨rfl, hc, hx⟩) (fun _ _ z => by cases z) hi rfl
  exact ⟨h1, fun a h => (h3 a h).elim id fun z => by cases z.2⟩
theorem owns_no {x : Option V} {a : Addr} (h : owns (σ.set i x) (ρ.set i .no) a) : ∃ j, j ≠ i ∧ ownAt σ ρ j a := by
  obtain ⟨j, s, q1, q2, q3⟩ := h
  by_cases e : j = i
  · subst e
    have hi : j < (ρ.set j S.no).length := (List.getElem?_eq_some_iff.mp q1).1
    rw [List.length_set] at hi
    rw [List.getElem?_set_self hi] at q1
    cases q1; cases q2
  · rw [List.getElem?_set_ne (Ne.symm e)] at q1 q3
    exact ⟨j, e, s, q1, q2, q3⟩
theorem rel_no (R : Rel K cm F σ H ρ) : Rel K cm F (σ.set i none) H (ρ.set i .no) := by
  refine ⟨by simpa using R.len, R.sub, fun j s q1 q2 => ?_, fun j k a h1 h2 => ?_⟩
  · by_cases e : j = i
    · subst e
      have hi : j < (ρ.set j S.no).length := (List.getElem?_eq_some_iff.mp q1).1
      rw [List.length_set] at hi
      rw [List.getElem?_set_self hi] at q1
      cases q1; exact absurd rfl q2
    · rw [List.getElem?_set_ne (Ne.symm e)] at q1 ⊢
      exact R.slot j s q1 q2
  · have f : ∀ {j : Nat}, ownAt (σ.set i none) (ρ.set i .no) j a → ownAt σ ρ j a := by
      intro j h
      obtain ⟨s, q1, q2, q3⟩ := h
      by_cases e : j = i
      · subst e
        have hi : j < (ρ.set j S.no).length := (List.getElem?_eq_some_iff.mp q1).1
        rw [List.length_set] at hi
        rw [List.getElem?_set_self hi] at q1
        cases q1; cases q2
      · rw [List.getElem?_set_ne (Ne.symm e)] at q1 q3
        exact ⟨s, q1, q2, q3⟩
    exact R.sep j k a (f h1) (f h2)
end
section
variable {X : Cx} {cm : Wd} {W : WX} {P : Nat → Bool}
end
/-! ### isinstance -/
/-- isinstance(error, C) in an except suite -/
theorem kitx_exc {K : PySem.W.Frag} {x D : Addr} {ox : Obj} {od : Option Obj} (C : ExcC K D) : PySem.W.KitX K (.ref x) (.ref D) (fun h => PySem.W.InstAt h x ox D od) where
  ty := fun _ _ _ I => I.type
  it := fun M h Y _ => by
    obtain ⟨cd, hc, _⟩ := PySem.W.any_some C.hd
    unfold PySem.W.clsIn at hc
    split at hc
    · rename_i c' d' cd' sl' ho
      intro A' Q' E' s' k q
      unfold isType loadHead
      exact wpAny_bind (wpAny_loadPart (k _ _ (Y _ _ ho)) (wpAny_pure q))
    · cases hc
  ne := (PySem.W.handS_kitx_exc (x := x) (ox := ox) C.hg C.hk C.hs C.hd C.ha C.hn C.ht C.hm).ne
  ca := fun X I k => PySem.W.kx_classE X I C.hg C.hk C.hs (PySem.W.findObj_dataE (by obtain ⟨cd, hc, _⟩ := PySem.W.any_some C.hd; rw [hc]; rfl) C.ha C.hn C.ht) C.hm k
def rIsX (K : PySem.W.Frag) (D a : Addr) : List V → Hp → VK → Prop := fun xs H Q => ∃ (c : V) (cv : Value) (b : Bool), xs = [.ref a, c] ∧ (∀ u, RelV c u → u = cv) ∧ PySem.W.kitOne K (.ref D) cv = some b ∧ Q (.bl b) H
theorem call_isX {X : Cx} {a D : Addr} {oe : Obj} {cls : Value} {d : Option Addr} {pn : List (Addr × Obj)} (C : ExcC X.K D) (hz : Zc cls d oe) (hf : ∃ vs, oe.data = .fields vs) :
    CallR (X.suite a ((a, oe) :: pn)) (.builtin "isinstance") (fun xs H Q => cls = .ref D ∧ (∀ dd, d = some dd → ∃ fs, H dd = some (.xd fs)) ∧ rIsX X.K D a xs H Q) := by
  intro pins s σ H xs us Q I r h
  obtain ⟨rfl, hdd, c, cv, b, rfl, hcv, e, q⟩ := h
  obtain ⟨u1, u2, rfl, r1, r2⟩ := vals2 r
  cases r1
  have ec := hcv _ r2
  subst ec
  obtain ⟨hget, _⟩ := I.pin (a, oe) (List.mem_append.mpr (.inl List.mem_cons_self))
  obtain ⟨vs, hv⟩ := hf
  have J : ∃ od, PySem.W.InstAt s.heap a oe D od := by
    obtain ⟨oc, ood, oda, osl⟩ := oe
    obtain ⟨h1, h2⟩ := hz
    dsimp only at h1 h2 hv
    subst h1 h2 hv
    cases ood with
    | none => exact ⟨none, hget, rfl, rfl, trivial⟩
    | some dd =>
      obtain ⟨fs, hd⟩ := hdd dd rfl
      obtain ⟨mA, hns, _⟩ : ∃ mA, s.heap.Ns1 dd mA ∧ ∀ f, RelO (fs.lookup f) (mA f) := I.hok dd _ hd
      obtain ⟨o2, ho, _⟩ := lookIn_ns hns
      exact ⟨some o2, hget, rfl, rfl, ho⟩
  obtain ⟨od, J⟩ := J
  exact PySem.W.kia_one (kitx_exc (x := a) (ox := oe) (od := od) C) I.kIn J e (fun z => nomatch z) fun tk => ⟨.bl b, H, I.kept (t' := tk) fun _ _ z => z, rfl, q⟩
section
variable {X : Cx} {cm : Wd} {W : WX} {P : Nat → Bool} {e a b c o : Expr} {ta tb : TE} {ma mb : ME D} {pos p p2 : Pos}
/-- isinstance(error, C), the caught error of the class C0 -/
def mIsErr (i : Nat) (C0 : Str) (b : Bool) : ME S := fun ρ => match ρ[i]? with
  | some (.err C' _) => if C' = C0 then some (.ok (.val (.bl b)) ρ) else none
  | _ => none
theorem oe_isErr {q : Addr} {oe : Obj} {cls : Value} {d : Option Addr} {pn : List (Addr × Obj)} {i : Nat} {x y C0 C1 : Str} {px : Pos} {k : Bool} (T : ExcC X.K (cm C0)) (hz : Zc cls d oe) (hf : ∃ vs, oe.data = .fields vs) (hg : Gl X "isinstance") (hm : X.mg "isinstance" = none)
    (hg2 : Gl X y) (hm2 : X.mg y = some (.ref (cm C1))) (hk : PySem.W.kitOne X.K (.ref (cm C0)) (.ref (cm C1)) = some k)
    (hN : X.N[i]? = some x) (hv : Vis X.env.scope x) (hd : (x == ("__debug__" : Str)) = false := by decide) (hcd : (x == ("__classdict__" : Str)) = false := by decide) (hyd : (y == ("__debug__" : Str)) = false := by decide)
    (h1 : starEach (.Name y p2 :: []) X.env = (false, eval (.Name y p2) X.env) :: starEach [] X.env := by rfl) (h2 : starEach (.Name x px :: [.Name y p2]) X.env = (false, eval (.Name x px) X.env) :: starEach [.Name y p2] X.env := by rfl) (hpl : (backTo pos (starEach [.Name y p2] X.env)).any (·.1) = false := by rfl) :
    OE (X.suite q ((q, oe) :: pn)) (errWd X.K cm q cls d) W (.Call (.Name "isinstance" p) [.Name x px, .Name y p2] [] pos)
      (tCB (fun xs H Q => cls = .ref (cm C0) ∧ (∀ dd, d = some dd → ∃ fs, H dd = some (.xd fs)) ∧ rIsX X.K (cm C0) q xs H Q) (tCons (tVar i) (tCons (tC (.ref (cm C1))) tNil))) (mIsErr i C0 k) := by
  refine ⟨pe_callB (X := X.suite q ((q, oe) :: pn)) (call_isX T hz hf) hg hm boot_isinstance (pa_cons (pe_var hN hv hd hcd) (pa_cons (pe_glob hg2 hm2 rfl hyd) pa_nil h1) h2) (by decide) (by decide) h2 hpl, fun ρ r e F σ H Q hr hp => ?_⟩
  unfold mIsErr at e
  split at e
  · rename_i C' fs g
    split at e
    · rename_i ec
      subst ec
      cases e
      obtain ⟨v, h2, h3⟩ := hr.slot i _ g (by simp)
      cases h3 with
      | own _ _ r => cases r
      | @err a' _ _ F0 q0 r =>
        obtain ⟨rfl, ecls, hx⟩ := r
        refine ⟨_, h2, ecls, fun dd ed => ?_, _, .ref (cm C1), k, rfl, fun u hu => hu, hk, hp _ F H (Post.refl hr) ⟨.val .bl, fun _ _ z => by cases z⟩⟩
        rcases hx with ⟨z, _⟩ | ⟨dd', ws, ed', h4, h5⟩
        · rw [z] at ed; cases ed
        · rw [ed] at ed'; cases ed'; exact ⟨ws, hr.sub _ _ (q0 _ _ h4)⟩
    · cases e
  · cases e
/-- isinstance(x, T), T a built-in type -/
def tyD : D → Option String
  | .non => some "NoneType"
  | .bl _ => some "bool"
  | .int _ => some "int"
  | .str _ => some "str"
  | .tup _ => some "tuple"
  | .ktp _ => some "tuple"
  | .lst _ => some "list"
  | .scr _ => some "list"
  | .dK _ => some "dict"
  | .dT _ => some "dict"
  | .obj _ _ => none
  | .rng _ _ => none
theorem Rep.ty {K : PySem.W.Frag} {cl : Str → Addr} {F H : Hp} {v : V} {d : D} {n : String} (m : ∀ a o, F a = some o → H a = some o) (h : Rep K cl F v d) (e : tyD d = some n) : TyX K H v (.type n) := by
  have hT : ∀ {a : Addr} {vs : List V}, SqT K F a vs → TyX K H (.ref a) (.type "tuple") := by
    intro a vs h
    rcases h with (h | ⟨o, h⟩) | ⟨o, its, n, h, c, _⟩
    · exact .base (.tup (m _ _ h))
    · exact .fTuple (m _ _ h)
    · exact .kTuple h c
  have hL : ∀ {a : Addr} {vs : List V}, SqL K F a vs → TyX K H (.ref a) (.type "list") := by
    intro a vs h
    rcases h with (h | ⟨o, h⟩) | ⟨o, its, n, h, c, _⟩
    · exact .base (.lst (m _ _ h))
    · exact .base (.frz (m _ _ h))
    · exact .kList h c
  cases h with
  | non => cases e; exact .base .non
  | bl => cases e; exact .base (.bl _)
  | int => cases e; exact .base (.int _)
  | str => cases e; exact .base (.str _)
  | tup h r => cases e; exact hT (SqT.of h)
  | ktp h r => cases e; exact hT h
  | lst h r => cases e; exact hL (SqL.of h)
  | scr h r => cases e; exact hL h
  | dK h r => cases e; exact .base (.dK (m _ _ h))
  | dT h r => cases e; exact .base (.dT (m _ _ h))
  | obj h r => cases e
  | rng h => cases e
def tyNames : List String := ["NoneType", "bool", "int", "str", "tuple", "list", "dict"]
theorem tyD_mem {d : D} {n : String} (e : tyD d = some n) : n ∈ tyNames := by
  cases d <;> first | (cases e; simp [tyNames]; done) | cases e
/-- the answer, by the type's name -/
abbrev IsT (T : String) (f : String → Bool) : Prop := ∀ n ∈ tyNames, kitB n T = some (f n)
def isInt : String → Bool := fun n => n == "int" || n == "bool"
theorem isT_int : IsT "int" isInt := by decide +kernel
theorem isT_bool : IsT "bool" (fun n => n == "bool") := by decide +kernel
theorem isT_str : IsT "str" (fun n => n == "str") := by decide +kernel
theorem isT_list : IsT "list" (fun n => n == "list") := by decide +kernel
theorem isT_tuple : IsT "tuple" (fun n => n == "tuple") := by decide +kernel
def gIsT (f : String → Bool) (d : D) : Option S := (tyD d).map fun n => .val (.bl (f n))
def mIsT (f : String → Bool) (m : ME D) : ME S := m.bnd fun d => opt (gIsT f d)
theorem oe_isT {T : String} {f : String → Bool} {y : Str} (hT : IsT T f) (hg : Gl X "isinstance") (hm : X.mg "isinstance" = none) (hg2 : Gl X y) (hm2 : X.mg y = none) (hv2 : bootBuiltins y = some (.type T)) (ha : DE X cm W a ta ma) (hyn : y ≠ "__name__" := by decide) (hyd : (y == ("__debug__" : Str)) = false := by decide)
    (h1 : starEach (.Name y p2 :: []) X.env = (false, eval (.Name y p2) X.env) :: starEach [] X.env := by rfl) (h2 : starEach (a :: [.Name y p2]) X.env = (false, eval a X.env) :: starEach [.Name y p2] X.env := by rfl) (hpl : (backTo pos (starEach [.Name y p2] X.env)).any (·.1) = false := by rfl) :
    OE X cm W (.Call (.Name "isinstance" p) [a, .Name y p2] [] pos) (tCB (rIsi X.K) (tCons ta (tCons (tC (.ty T)) tNil))) (mIsT f ma) := by
  refine ⟨pe_callB call_isi hg hm boot_isinstance (pa_cons ha.pe (pa_cons (pe_bltn hg2 hm2 hv2 rfl hyn hyd) pa_nil h1) h2) (by decide) (by decide) h2 hpl, fun ρ r e F σ H Q hr hp => ?_⟩
  refine ha.sim.step e hr hp fun d ρ1 v F1 H1 e1 p1 r1 => ?_
  obtain ⟨s, g, rfl⟩ := opt_ok e1
  unfold gIsT at g
  cases q : tyD d with
  | none => rw [q] at g; cases g
  | some n =>
    rw [q] at g
    cases g
    exact ⟨v, .ty T, .type n, .type T, f n, rfl, .ty T, Rep.ty p1.rel.sub r1 q, kit_ty (hT n (tyD_mem q)), hp _ F1 H1 p1 ⟨.val .bl, fun _ _ z => by cases z⟩⟩
/-- isinstance(x, (list, tuple)) -/
def isLT : String → Bool := fun n => n == "list" || n == "tuple"
theorem oe_isLT {k : Nat} {pt p3 : Pos} (hg : Gl X "isinstance") (hm : X.mg "isinstance" = none) (hg2 : Gl X "list") (hm2 : X.mg "list" = none) (hg3 : Gl X "tuple") (hm3 : X.mg "tuple" = none) (ha : DE X cm W a ta ma)
    (s1 : starEach (.Name "tuple" p3 :: []) X.env = (false, eval (.Name "tuple" p3) X.env) :: starEach [] X.env := by rfl) (s2 : starEach (.Name "list" p2 :: [.Name "tuple" p3]) X.env = (false, eval (.Name "list" p2) X.env) :: starEach [.Name "tuple" p3] X.env := by rfl)
    (h1 : starEach (.Tuple [.Name "list" p2, .Name "tuple" p3] k pt :: []) X.env = (false, eval (.Tuple [.Name "list" p2, .Name "tuple" p3] k pt) X.env) :: starEach [] X.env := by rfl) (h2 : starEach (a :: [.Tuple [.Name "list" p2, .Name "tuple" p3] k pt]) X.env = (false, eval a X.env) :: starEach [.Tuple [.Name "list" p2, .Name "tuple" p3] k pt] X.env := by rfl) (hpl : (backTo pos (starEach [.Tuple [.Name "list" p2, .Name "tuple" p3] k pt] X.env)).any (·.1) = false := by rfl) :
    OE X cm W (.Call (.Name "isinstance" p) [a, .Tuple [.Name "list" p2, .Name "tuple" p3] k pt] [] pos) (tCB (rIsiT X.K) (tCons ta (tCons (tTup (tCons (tC (.ty "list")) (tCons (tC (.ty "tuple")) tNil))) tNil))) (mIsT isLT ma) := by
  refine ⟨pe_callB call_isiT hg hm boot_isinstance (pa_cons ha.pe (pa_cons (pe_tup (pa_cons (pe_bltn hg2 hm2 boot_list rfl (by decide) (by decide)) (pa_cons (pe_bltn hg3 hm3 boot_tuple rfl (by decide) (by decide)) pa_nil s1) s2)) pa_nil h1) h2) (by decide) (by decide) h2 hpl, fun ρ r e F σ H Q hr hp => ?_⟩
  refine ha.sim.step e hr hp fun d ρ1 v F1 H1 e1 p1 r1 => ?_
  obtain ⟨s, g, rfl⟩ := opt_ok e1
  unfold gIsT at g
  cases q : tyD d with
  | none => rw [q] at g; cases g
  | some n =>
    rw [q] at g
    cases g
    refine ⟨by decide, fun l hl => ?_⟩
    have p2 := Post.warm (P := pinAll) (o := .tup [.ty "list", .ty "tuple"]) p1.rel hl
    refine ⟨v, l, [.ty "list", .ty "tuple"], .type n, [.type "list", .type "tuple"], isLT n, rfl, upd_same, .cons (.ty _) (.cons (.ty _) .nil), Rep.ty p2.rel.sub r1 q, ?_, hp _ F1 _ (p1.trans p2) ⟨.val .bl, fun _ _ z => by cases z⟩⟩
    refine kitAny_cons (b := n == "list") (kit_ty (isT_list n (tyD_mem q))) (fun z => kitAny_cons (b := n == "tuple") (kit_ty (isT_tuple n (tyD_mem q))) (fun z2 => ?_) fun z2 => ?_) fun z => ?_
    · rw [show isLT n = false from by simp [isLT, z, z2]]; exact kitAny_nil
    · simp [isLT, z2]
    · simp [isLT, z]
end
end L2.Fn
set_option maxRecDepth 100000
namespace L2.Fn
open PySem PySem.Spec PyProof.Rows

/-- a method whose closure is __class__ alone -/
structure SupD (P : Program) (K : PySem.W.Frag) (x qual : Str) (params : Arguments) (body : List Stmt) (scope : Scope) (cc f : Addr) (fd : FuncData) : Prop where
  ex : ∃ (oc : Value) (od : Option Addr) (kV doc pm : Value) (an : Option Addr) (cda : Addr) (ct : Value) (osl : Array (Option Value)) (ccl : Value) (cdd : Option Addr) (vs : Array Value) (ccs : Array (Option Value)) (file : Str) (tf : Tok),
    fd = PySem.W.ksFn x qual params body scope .none kV doc pm an (.ref cda) ct cc ∧ K.lookup f = some ⟨oc, od, .func fd, osl⟩ ∧ PySem.W.codeIn K (.ref cda) qual = true ∧
    K.lookup cda = some ⟨ccl, cdd, .fields vs, ccs⟩ ∧ vs[2]? = some (.str file tf) ∧ ((P.main.file : Str) == file) = true
/-- .. the class C of the closure, and the method f2 that super() finds behind it -/
structure SupC (K : PySem.W.Frag) (m : Str) (cc C f2 : Addr) : Prop where
  cell : ∃ cl cld csl, K.lookup cc = some ⟨cl, cld, .cell (some (.ref C)), csl⟩
  cls : ∃ cd, PySem.W.clsIn K C = some cd
  sub : PySem.W.mroIn K C (.ref C) = some true
  find : PySem.W.ks_superIn K C C m = some (some (.ref f2))
  fn : PySem.W.typeIn K (.ref f2) = some (.type "function")
  fi : PySem.W.fnIn K f2 = true
  any : PySem.W.nsIn K cStatics "thirdparty.any" = some none
structure SupScope (N P : List Str) (sc : Scope) (me : Str) : Prop where
  kind : sc.kind = .function
  co : sc.isCoroutine = false
  gen : sc.isGenerator = false
  nd : N.Nodup
  pre : N = P
  me : P[0]? = some me
  par : ∀ x ∈ P, sc.names.lookup x = some .local
  cel : ∀ y ∈ sc.names, y.2 ≠ .cell
  free : ∀ y ∈ sc.names, y.2 = .free → y.1 = "__class__"
  cl : sc.names.lookup ("__class__" : Str) = some .free
  su : sc.names.lookup ("super" : Str) = some .globalImplicit

/-- the context of such a body -/
def cxS (CX : CXT) (P : Program) (w : World) (K : PySem.W.Frag) (mg : Str → Option Value) (base : Heap) (N : List Str) (qual : Str) (scope : Scope) (f : Addr) (cd : Value) (cc : Addr) (A : Around) (outer : List PySem.Env) (s : Shared) (H : Hp) (E : XK) : Cx where
  prog := P
  w := w
  K := K
  mg := mg
  base := base
  A := A.deeper (PySem.W.ksEnv qual scope s.heap.objs.size f cd cc)
  N := N
  s_0 := s
  H_0 := H
  env := PySem.W.ksEnv qual scope s.heap.objs.size f cd cc
  outer := outer
  stack := PySem.W.ksEnv qual scope s.heap.objs.size f cd cc :: outer
  ex := []
  calm := true
  fn := fun _ => false
  pn := []
  xe := fun e s' => wpAny (model P w) (A.deeper (PySem.W.ksEnv qual scope s.heap.objs.size f cd cc)) (leaving (PySem.W.ksEnv qual scope s.heap.objs.size f cd cc) e) (fun _ s'' => CX outer H s E e s'') (fun e' s'' => CX outer H s E e' s'') s'

theorem lookup_nodup {x : Str} {v : Value} : ∀ {l : List (Str × Value)}, (l.map (·.1)).Nodup → (x, v) ∈ l → l.lookup x = some v
  | [], _, h => by cases h
  | (y, u) :: r, nd, h0 => by
    rw [List.lookup_cons]
    rcases List.mem_cons.mp h0 with e | h
    · cases e; simp
    · have nd' := List.nodup_cons.mp nd
      have : x ≠ y := by rintro rfl; exact nd'.1 (List.mem_map.mpr ⟨_, h, rfl⟩)
      rw [beq_eq_false_iff_ne.mpr this]
      exact lookup_nodup nd'.2 h
theorem lookup_rev {x : Str} {v : Value} {l : List (Str × Value)} (nd : (l.map (·.1)).Nodup) (h : (x, v) ∈ l) : l.reverse.lookup x = some v :=
  lookup_nodup (by rw [List.map_reverse]; exact (List.reverse_perm _).nodup_iff.mpr nd) (List.mem_reverse.mpr h)
theorem zip_nodup : ∀ {P : List Str} {us : List Value}, P.Nodup → ((P.zip us).map (·.1)).Nodup
  | [], _, _ => by simp
  | _ :: _, [], _ => by simp
  | p :: P, u :: us, nd => by
    have nd' := List.nodup_cons.mp nd
    rw [List.zip_cons_cons, List.map_cons]
    refine List.nodup_cons.mpr ⟨fun h => ?_, zip_nodup nd'.2⟩
    obtain ⟨⟨a, b⟩, hm, e⟩ := List.mem_map.mp h
    cases e
    exact nd'.1 (List.of_mem_zip hm).1

theorem inv_startS {CX : CXT} {P : Program} {w : World} {K : PySem.W.Frag} {mg : Str → Option Value} {base : Heap} {N ps : List Str} {me qual : Str} {scope : Scope} {f : Addr} {cd : Value} {cc : Addr} {A : Around} {outer : List PySem.Env} {s : Shared} {h1 : Heap} {tk : Nat} {H : Hp} {E : XK} {us : List Value} {vs : List V} {C f2 : Addr} {m : Str}
    (S : SupScope N ps scope me) (Sc : SupC K m cc C f2) (hd : A.handled = none) (e0 : Env0 P w K mg base A outer s H) (hl : vs.length = ps.length) (r : Vals vs us)
    (hns : h1.Ns s.heap.objs.size fun x => (ps.zip us).reverse.lookup x) (hk : ∀ b o, s.heap.get? b = some o → h1.get? b = some o) :
    Inv (cxS CX P w K mg base N qual scope f cd cc A outer s H E) [] (vs.map some) H { s with heap := h1, toks := tk } := by
  obtain ⟨cl, cld, csl, hc⟩ := Sc.cell
  have KX : K.In base := e0.mod.kin
  have hcs := e0.bs _ _ (KX _ _ hc)
  have noA : ∀ b : Addr, b ∉ (cxS CX P w K mg base N qual scope f cd cc A outer s H E).ex := fun b z => absurd (show b ∈ ([] : List Addr) from z) (by simp)
  have cells : ∀ {y : Str} {c : Addr}, (cxS CX P w K mg base N qual scope f cd cc A outer s H E).env.cells.lookup y = some c → y = "__class__" ∧ c = cc := fun {y c} h => by
    have h : List.lookup y [(("__class__" : Str), cc)] = some c := h
    rw [List.lookup_cons] at h
    split at h
    · rename_i q
      cases h
      exact ⟨beq_iff_eq.mp q, rfl⟩
    · cases h
  refine ⟨⟨e0.mod, S.kind, rfl, rfl, Nat.le_refl _, fun y z c h1 h2 => (cells h1).1.trans (cells h2).1.symm, fun y hy => ?_, fun y c z => ?_, fun _ => hd, Around.frames_deeper e0.frames, .inr ⟨rfl, rfl⟩, fun b z => absurd z (noA b), e0.bs, e0.bsz, fun b _ _ => noA b, fun b z => absurd z (noA b), e0.funs, e0.frf⟩,
    rfl, e0.bare, Un.kept hk, ⟨_, hns, fun i y v h1 h2 h3 => ?_⟩, fun y c h => ?_, e0.hok.fresh (Nat.le_refl _), fun y c h => ?_, fun p hp => absurd (show p ∈ ([] : List (Addr × Obj)) from hp) (by simp), e0.hok.kept hk, ?_⟩
  · have hy : scope.names.lookup y = some .cell ∨ scope.names.lookup y = some .free := hy
    rcases hy with hy | hy
    · exact absurd rfl (S.cel _ (PySem.mem_of_lookup hy))
    · have := S.free _ (PySem.mem_of_lookup hy) rfl
      have : y = "__class__" := this
      subst this
      exact ⟨cc, by rfl⟩
  · cases z
  · have ndP : ps.Nodup := S.pre ▸ S.nd
    have h1' : ps[i]? = some y := by rw [← S.pre]; exact h1
    rw [List.getElem?_map] at h2
    cases e : vs[i]? with
    | none => rw [e] at h2; cases h2
    | some a =>
      rw [e] at h2; cases h2
      obtain ⟨u, hu, rv⟩ := r.get e
      refine ⟨u, rv, .inl ⟨S.par y (List.mem_of_getElem? h1'), ?_⟩⟩
      refine lookup_rev (zip_nodup ndP) (List.mem_iff_getElem?.mpr ⟨i, ?_⟩)
      rw [List.getElem?_zip_eq_some]
      exact ⟨h1', hu⟩
  · obtain ⟨_, rfl⟩ := cells h
    exact ⟨_, _, hk _ _ hcs.1, rfl⟩
  · obtain ⟨_, rfl⟩ := cells h
    exact hcs.2
  · show _ = N.length
    rw [List.length_map, S.pre, hl]

theorem at_MethodCallK {M : Model} {A : Around} {c : Code} {E : Value → Shared → Prop} {s : Shared} {env : PySem.Env} {o : Expr} {name : Str} {apos pos : Pos} {args : List Expr} {kws : List Keyword} {pl : Sem Bool} {Q : Value → Shared → Prop}
    (h : PySem.wpAt M A c (attributeBase o name env (eval o env)) (fun ov s₁ => wpAny M A (getMethod ov name pl) (fun fx s₂ => wpAny M A (callWith pos fx.1 fx.2 (backTo pos (starEach args env)) (backToKw pos (keywordEach kws env))) Q E s₂) E s₁) E s)
    (he : eval (.Call (.Attribute o name apos) args kws pos) env = (do
      let ov ← attributeBase o name env (eval o env)
      standAt apos.atName
      let (f, first) ← holding [ov] (getMethod ov name pl)
      callWith pos f first (backTo pos (starEach args env)) (backToKw pos (keywordEach kws env))) := by rfl) :
    PySem.wpAt M A c (eval (.Call (.Attribute o name apos) args kws pos) env) Q E s := by
  rw [he]
  refine PySem.wpAt_bind (ks_wpAt_mono h (fun ov s₁ h₁ => PySem.wpAt_of_wpAny (wpAny_bind (wpAny_standAt (wpAny_bind (wpAny_holding (wpAny_mono h₁ (fun fx s₂ h₂ => ?_) fun _ _ x => x)))))) fun _ _ x => x)
  exact h₂

/-- super().m(es, kws) as a body -/
theorem fn_super {P : Program} {w : World} {K : PySem.W.Frag} {mg : Str → Option Value} {base : Heap} {N ps ps2 ks : List Str} {x me qual m : Str} {params : Arguments} {scope : Scope} {f cc C f2 : Addr} {fd fd2 : FuncData} {k n : Nat} {sp2 : Sp} {p0 p1 p2 p3 p4 : Pos} {e : Expr} {es : List Expr} {kws : List Keyword} {t tk : TA}
    {g : List Value → List Value → List Value} {gV : List V → List V → List V}
    (Sd : SupD P K x qual params [.Expr (.Call (.Attribute (.Call (.Name "super" p0) [] [] p1) m p2) (e :: es) kws p3) p4] scope cc f fd) (Sc : SupScope N ps scope me) (Cl : SupC K m cc C f2)
    (har : (params.posonlyargs ++ params.args).head?.map (·.arg) = some me)
    (F2 : FnOk P w K mg base (L2.CX P w) k f2 fd2 ps2 sp2) (hb2 : KBn K fd2 ps2 (n + 1) ks g gV) (hsup : mg "super" = none) (htop : (P.main.scope.names.lookup ("super" : Str)).isSome = false)
    (hm : (m == ("__class__" : Str)) = false) (hbi : bootBuiltins "super" = some (.type "super"))
    (ha : ∀ (X : Cx), X.N = N → X.env.scope = scope → PA X (e :: es) t) (hkw : ∀ (X : Cx), X.N = N → X.env.scope = scope → PK X kws tk)
    (hi : ∀ L cd, interactive (PySem.W.ksEnv qual scope L f cd cc) = false) (hs : ∀ L cd, swapsWith (.Call (.Attribute (.Call (.Name "super" p0) [] [] p1) m p2) (e :: es) kws p3) none p4.line (PySem.W.ksEnv qual scope L f cd cc) = pure false)
    (hcall : ∀ env : PySem.Env, ∃ pl : Sem Bool, eval (.Call (.Attribute (.Call (.Name "super" p0) [] [] p1) m p2) (e :: es) kws p3) env = (do
      let ov ← attributeBase (.Call (.Name "super" p0) [] [] p1) m env (eval (.Call (.Name "super" p0) [] [] p1) env)
      standAt p2.atName
      let (f, first) ← holding [ov] (getMethod ov m pl)
      callWith p3 f first (backTo p3 (starEach (e :: es) env)) (backToKw p3 (keywordEach kws env))))
    (hall : ∀ env, (backToKw p3 (keywordEach kws env)).all (·.1.isSome) = true) (hks : ∀ env, (backToKw p3 (keywordEach kws env)).filterMap (·.1) = ks)
    (he : ∀ env, starEach (e :: es) env = (false, eval e env) :: starEach es env) (hpl : ∀ env, ((backTo p3 (starEach (e :: es) env)).any (·.1) || (backToKw p3 (keywordEach kws env)).any (·.1.isNone)) = false) :
    FnOk P w K mg base (L2.CX P w) (k + 1) f fd ps (fun vs H Q E => vs.length = ps.length ∧ ∃ x dx fs, vs[0]? = some (.ref x) ∧ H x = some (.ins C dx fs) ∧
      t (vs.map some) H fun us H1 => tk (vs.map some) H1 fun zs H2 => us.length = n ∧ zs.length = ks.length ∧ sp2 (gV (.ref x :: us) zs) H2 (fun _ H3 => Q .non H3) E) := by
  refine ⟨fun vs H Q E h => h.1, fun A outer s H args us vs Q E hr e0 hb r hsp => ?_⟩
  obtain ⟨hl, xa, dx, fs, hv0, hx, hsp⟩ := hsp
  obtain ⟨oc, od, kV, doc, pm, an, cda, ct, osl, ccl, cdd, vsc, ccs, file, tf, rfl, lk, hcd, lkc, hvs, hfile⟩ := Sd.ex
  have KX : K.In s.heap := e0.mod.kin.keeps fun b o e => (e0.bs b o e).1
  have lim : s.heap.NoLimit := e0.mod.nolimit.keeps fun b o e => (e0.bs b o e).1
  have hloc : ∀ y ∈ ps.zip us, scope.names.lookup y.1 = some .local := fun ⟨n, v⟩ hy => Sc.par n (List.of_mem_zip hy).1
  refine ks_codeAny_call_defAt hr.depth (KX _ _ lk) rfl lim (PySem.W.codeRec_of KX hcd) rfl hb Sc.cel hloc (fun h1 hns hk => ?_) Sc.co Sc.gen Sc.kind
  show PySem.wpAt _ (A.deeper (PySem.W.ksEnv qual scope s.heap.objs.size f (.ref cda) cc)) (.func _ (PySem.W.ksEnv qual scope s.heap.objs.size f (.ref cda) cc)) (execs _ (PySem.W.ksEnv qual scope s.heap.objs.size f (.ref cda) cc)) _ _ _
  have I : Inv (cxS (L2.CX P w) P w K mg base N qual scope f (.ref cda) cc A outer s H E) [] (vs.map some) H { s with heap := h1, toks := s.toks + (ps.zip us).length } :=
    inv_startS Sc Cl hr.hd e0 hl r hns hk
  have hr1 : Room k (cxS (L2.CX P w) P w K mg base N qual scope f (.ref cda) cc A outer s H E).A := hr.deeper _
  refine ks_wpAt_mono (Q := fun fl s' => fl = .next ∧ EP (cxS (L2.CX P w) P w K mg base N qual scope f (.ref cda) cc A outer s H E) [] (vs.map some) (fun _ H3 => Q .non H3) .none s')
    (E := (cxS (L2.CX P w) P w K mg base N qual scope f (.ref cda) cc A outer s H E).xe) ?_ (fun fl s' hq => ?_) (fun e s' hq => hq)
  rotate_left
  · obtain ⟨rfl, v, H', J, rv, q⟩ := hq
    exact ⟨.non, H', J.os, J.bare, J.base, J.hok, rfl, q⟩
  refine ks_wpAt_execs_cons (ks_wpAt_Expr_any (ks_wpAt_mono (Q := fun _ s' => ∃ v, EP (cxS (L2.CX P w) P w K mg base N qual scope f (.ref cda) cc A outer s H E) [] (vs.map some) (fun _ H3 => Q .non H3) v s') ?_ (fun v s' hq => ?_) fun _ _ z => z) (hi _ _) (hs _ _))
  rotate_left
  · obtain ⟨u, v, H', J, rv, q⟩ := hq
    refine PySem.wpAt_of_wpAny ?_
    show wpAny _ _ (execs [] _) _ _ _
    rw [execs_nil]
    exact wpAny_pure ⟨rfl, .non, H', J, rfl, q⟩
  have KX1 := I.kIn
  obtain ⟨cl, cld, csl, hcell⟩ := Cl.cell
  obtain ⟨cdC, hcls⟩ := Cl.cls
  obtain ⟨ar, har1, har2⟩ := Option.map_eq_some_iff.mp har
  have hka : scope.names.lookup me = some .local := Sc.par me (List.mem_of_getElem? Sc.me)
  obtain ⟨m1, hns1, hml⟩ := I.loc
  have hself : m1 me = some (.ref xa) := by
    have h0 : N[0]? = some me := by rw [Sc.pre]; exact Sc.me
    obtain ⟨u, ru, lk⟩ := hml 0 me (.ref xa) h0 (by rw [List.getElem?_map, hv0]; rfl) (.inl hka)
    have ru : u = .ref xa := ru
    subst ru
    rcases lk with z | ⟨z, _⟩
    · exact z.2
    · have z : scope.names.lookup me = some .cell ∨ scope.names.lookup me = some .free := z
      rw [hka] at z
      rcases z with z | z <;> cases z
  have hio : h1.get? xa = some (PySem.W.instObj C dx) := (I.hok xa _ hx).2.2.2.1
  obtain ⟨oD, hD1, hD2, hDb⟩ : ∃ oD, h1.get? C = some oD ∧ oD.data = .cls cdC ∧ base.get? C = some oD := by
    unfold PySem.W.clsIn at hcls
    split at hcls
    · rename_i c d cd' sl ho
      cases hcls
      exact ⟨_, KX1 _ _ ho, rfl, e0.mod.kin _ _ ho⟩
    · cases hcls
  have hxC : xa ≠ C := by
    rintro rfl
    rw [(e0.bs _ _ hDb).2] at hx; cases hx
  obtain ⟨mb, hb1, hb2'⟩ := I.mod.blt
  obtain ⟨pl, hce⟩ := hcall (PySem.W.ksEnv qual scope s.heap.objs.size f (.ref cda) cc)
  refine at_MethodCallK (M := model P w) (pl := pl) ?_ hce
  refine ks_wpAt_super_base (env := PySem.W.ksEnv qual scope s.heap.objs.size f (.ref cda) cc) (ar := ar) Sc.su Sc.cl hm rfl (KX1 _ _ lk) rfl har1 rfl (KX1 _ _ lkc) rfl hvs hfile htop ?_
  rw [har2]
  refine PySem.W.ks_loadName_global Sc.kind Sc.su (Calls.loadGlobal_builtin (env := PySem.W.ksEnv qual scope s.heap.objs.size f (.ref cda) cc) (I.mod.glob.keeps I.bk) hsup (hb1.keeps I.bk) ((hb2' _ (by decide +kernel)).trans hbi) ⟨rfl, ?_⟩)
  refine wpAny_loadName_free Sc.kind Sc.cl rfl ⟨_, KX1 _ _ hcell, rfl⟩ ?_
  refine wpAny_loadName_local Sc.kind hka hns1 hself ?_
  refine ks_wpAny_isType_cls hD1 hD2 ⟨rfl, ?_⟩
  refine ks_wpAny_call_super hD1 hD2 hio rfl (fun c z => by cases z) (PySem.W.looks_mroIn KX1 Cl.sub) (fun h2 hso hk2 => ?_)
  have I2 : Inv (cxS (L2.CX P w) P w K mg base N qual scope f (.ref cda) cc A outer s H E) [] (vs.map some) H { s with heap := h2, toks := s.toks + (ps.zip us).length } := I.kept hk2
  obtain ⟨of, hof, hofc⟩ : ∃ of, h2.get? f2 = some of ∧ of.cls = .type "function" := by
    have ht' : (K.lookup f2).map (·.cls) = some (.type "function") := Cl.fn
    cases z : K.lookup f2 with
    | none => rw [z] at ht'; cases ht'
    | some of => rw [z] at ht'; exact ⟨of, I2.kIn _ _ z, Option.some.inj ht'⟩
  have hfind : PySem.W.alongIn K m ((cdC.mro.dropWhile (· != .ref C)).drop 1) = some (some (.ref f2)) := by
    have z := Cl.find
    unfold PySem.W.ks_superIn at z
    rw [hcls] at z
    exact z
  refine ks_wpAny_getMethod_super hso (PySem.W.looks_opaque I2.kIn Cl.any) (l₀ := cdC.mro) (fun A Q E s k q => wpAny_bind ((PySem.W.looks_clsIn I2.kIn hcls) A _ E s k (wpAny_pure q))) rfl I2.kIn hfind hof hofc hxC hm ?_
  have hq3 : (h2.push { cls := .type "method", data := .fields #[.ref f2, .ref xa] }).get? h2.objs.size = some (PySem.W.methodObj (.ref f2) (.ref xa)) := Heap.get?_push_at rfl rfl
  have I3 := (I2.kept (h' := h2.push { cls := .type "method", data := .fields #[.ref f2, .ref xa] }) (t' := s.toks + (ps.zip us).length + 1) (fun b o e => Heap.get?_push_of_some _ e)).pins_of (pins' := [(h2.objs.size, PySem.W.methodObj (.ref f2) (.ref xa))]) (fun p hp => by
    have e : p = (h2.objs.size, PySem.W.methodObj (.ref f2) (.ref xa)) := by simpa using hp
    subst e
    refine ⟨hq3, I2.hok.fresh (Nat.le_refl _), ?_, I2.nofs (Nat.le_refl _), fun v z => by cases z⟩
    exact Ne.symm (Nat.ne_of_lt I2.lt))
  dsimp only
  refine PySem.W.callWith_of (P := fun h => PySem.W.MethP K h2.objs.size f2 (.ref xa) h) (hpl _) (PySem.W.keeps_M Cl.fi) (evalArgs_kw2 (hall _) ?_ (he _))
  refine thn ((ha (cxS (L2.CX P w) P w K mg base N qual scope f (.ref cda) cc A outer s H E) rfl rfl).run p3 _ _ _ H _ I3 hsp) fun us1 s3 ⟨vs1, H1, I4, r1, q1⟩ => ?_
  refine thn ((hkw (cxS (L2.CX P w) P w K mg base N qual scope f (.ref cda) cc A outer s H E) rfl rfl).run p3 _ _ _ H1 _ I4 q1) fun ws1 s4 ⟨zs1, H2, I5, r2, l1, l2, q2⟩ => ?_
  have hmo := (I5.pin _ (List.mem_append_right _ List.mem_cons_self)).1
  refine ⟨⟨hmo, I5.kIn⟩, ?_⟩
  rw [hks]
  have r3 := hb2.rel (Paired.cons (show RelV (V.ref xa) (Value.ref xa) from rfl) r1) r2
  refine wpAny_call (ks_codeAny_call_bound hmo (codeAny_mono (F2.run _ _ s4 H2 ⟨.ref xa :: us1, ks.zip ws1⟩ (g (.ref xa :: us1) ws1) _ _ E hr1 I5.env0 (hb2.to s4 (.ref xa :: us1) ws1 I5.kIn (by rw [List.length_cons, ← r1.length, l1]) (r2.length.symm.trans l2)) r3 q2) fun rr s5 hq => ?_))
  cases rr with
  | error e => exact passes_call (takes_of rfl rfl rfl rfl) (fun _ _ _ _ h => h) _ _ _ _ _ _ I5 hq
  | ok fl =>
    cases fl with
    | ret u =>
      obtain ⟨v, H', I6, rv, q⟩ := I5.after hq
      exact ⟨_, v, H', I6.pins_of (fun p hp => by cases hp), rv, q⟩
    | next => exact False.elim hq
    | brk => exact False.elim hq
    | cont => exact False.elim hq
end L2.Fn
set_option maxRecDepth 100000
set_option maxHeartbeats 4000000
/-! FnJ: instances made, their fields written, super's promise. -/
namespace L2.Fn
open PySem PySem.Spec PyProof.Rows L2

/-- C(e, .., k = v, ..), the exceptions seen from the slots -/
def tMakeKS (C : Addr) (n m : Nat) (sp : Sp) (gV : List V → List V → List V) (E : St → XK) (t tk : TA) : TE := fun σ H Q => t σ H fun vs H1 => tk σ H1 fun zs H2 => vs.length = n ∧ zs.length = m ∧ ∀ x dx, H2 x = none → H2 dx = none → dx ≠ x →
  sp (gV (.ref x :: vs) zs) (upd (upd H2 dx (.own x)) x (.ins C dx [])) (fun v H3 => v = .non ∧ Q (.ref x) H3) (E σ)
section
variable {X : Cx} {CX : CXT} {k n : Nat} {f C : Addr} {fd : FuncData} {ps ks : List Str} {sp : Sp} {E : St → XK} {x : Str} {p pos : Pos} {e : Expr} {es : List Expr} {kws : List Keyword} {t tk : TA} {g : List Value → List Value → List Value} {gV : List V → List V → List V}
theorem run_makeKS {pins : List (Addr × Obj)} {σ : St} {H : Hp} {s : Shared} {Q : VK} {us ws : List Value} {vs zs : List V} (M : Mk X.K C f) (F : FnOk X.prog X.w X.K X.mg X.base CX k f fd ps sp) (hr : Room (k + 1) X.A) (hb : KBn X.K fd ps (n + 1) ks g gV) (hx : PassesAt CX X σ (E σ))
    (I : Inv X pins σ H s) (r : Vals vs us) (rz : Vals zs ws) (l1 : vs.length = n) (l2 : zs.length = ks.length)
    (h : ∀ x dx, H x = none → H dx = none → dx ≠ x → sp (gV (.ref x :: vs) zs) (upd (upd H dx (.own x)) x (.ins C dx [])) (fun v H2 => v = .non ∧ Q (.ref x) H2) (E σ)) :
    wpAny (model X.prog X.w) X.A (call (.ref C) us (ks.zip ws)) (EP X pins σ Q) X.xe s := by
  have hq := h (s.heap.objs.size + 1) s.heap.objs.size (I.hok.fresh (Nat.le_succ _)) (I.hok.fresh (Nat.le_refl _)) (Nat.ne_of_lt (Nat.lt_succ_self _))
  have I2 := Inv.made (C := C) I
  have r1 : Vals (V.ref (s.heap.objs.size + 1) :: vs) (Value.ref (s.heap.objs.size + 1) :: us) := .cons rfl r
  have r2 := hb.rel r1 rz
  have n1 : (Value.ref (s.heap.objs.size + 1) :: us).length = n + 1 := by
    rw [List.length_cons, ← r.length, l1]
  refine wpAny_call (make_map (f := f) I.kIn M.makes M.init (beq_iff_eq.mp M.fn) (codeAny_mono (F.run _ X.stack _ _ ⟨Value.ref (s.heap.objs.size + 1) :: us, ks.zip ws⟩ (g (Value.ref (s.heap.objs.size + 1) :: us) ws) _ _ (E σ) (hr.make C us (ks.zip ws))
    (I2.env0.make C us (ks.zip ws)) (hb.to _ (Value.ref (s.heap.objs.size + 1) :: us) ws I2.kIn n1 (rz.length.symm.trans l2)) r2 hq) fun r s' hq' => ?_))
  cases r with
  | error e => exact hx pins _ _ e s' I2 hq'
  | ok fl =>
    cases fl with
    | ret u =>
      obtain ⟨v, H', I3, rv, ev, q3⟩ := I2.after hq'
      subst ev
      exact ⟨rv, ⟨V.ref (s.heap.objs.size + 1), H', I3, rfl, q3⟩⟩
    | next => exact False.elim hq'
    | brk => exact False.elim hq'
    | cont => exact False.elim hq'
theorem pe_makeKS (M : Mk X.K C f) (F : FnOk X.prog X.w X.K X.mg X.base CX k f fd ps sp) (hr : Room (k + 1) X.A) (hg : Gl X x) (hm : X.mg x = some (.ref C)) (hb : KBn X.K fd ps (n + 1) ks g gV) (hx : ∀ σ, PassesAt CX X σ (E σ)) (ha : PA X (e :: es) t) (hkw : PK X kws tk)
    (hall : (backToKw pos (keywordEach kws X.env)).all (·.1.isSome) = true := by rfl) (hks : (backToKw pos (keywordEach kws X.env)).filterMap (·.1) = ks := by rfl) (hdb : (x == ("__debug__" : Str)) = false := by decide)
    (he : starEach (e :: es) X.env = (false, eval e X.env) :: starEach es X.env := by rfl) (hpl : ((backTo pos (starEach (e :: es) X.env)).any (·.1) || (backToKw pos (keywordEach kws X.env)).any (·.1.isNone)) = false := by rfl) :
    PE X (.Call (.Name x p) (e :: es) kws pos) (tMakeKS C n ks.length sp gV E t tk) := by
  refine ⟨fun pins s σ H Q I h => ?_⟩
  refine wpAny_Call_Name_kw (ld_glob I hg hm ?_ hdb)
  refine PySem.W.callWith_KW (h₀ := X.base) I.ok.mod.kin M.kp hall (thn (ha.run pos pins s σ H _ I h) fun us s1 ⟨vs, H1, I1, r, q⟩ => ?_) hpl he
  refine thn (hkw.run pos pins s1 σ H1 _ I1 q) fun ws s2 ⟨zs, H2, I2, rz, l1, l2, q2⟩ => ⟨I2.kIn, ?_⟩
  rw [hks]
  exact run_makeKS M F hr hb (hx σ) I2 r rz l1 l2 q2
end

/-! ### what a callee that owns new objects alone leaves -/
section
variable {K : PySem.W.Frag} {cm : Wd} {F F' : Hp} {σ τ : St} {H H2 H' : Hp} {ρ ss ss' : Slots}
theorem post_sub (R : Rel K cm F σ H ρ) (hs : ∀ a o, H a = some o → H2 a = some o) (hn : ∀ a, owns τ ss a → H a = none) (p : Post K cm pinAll F τ H2 ss F' τ H' ss') : Post K cm pinAll F σ H ρ F' σ H' ρ := by
  have up : ∀ a o, H a = some o → H' a = some o := fun a o h => p.keep a o (hs a o h) fun z => by rw [hn a z] at h; cases h
  have lm : ∀ a, F' a ≠ none → F a ≠ none ∨ H a = none := fun a h => by
    rcases p.lim a h with z | z | z
    · exact .inl z
    · exact .inr (hn a z)
    · refine .inr ?_
      cases e : H a with
      | none => rfl
      | some o => rw [hs a o e] at z; cases z
  refine ⟨⟨R.len, p.rel.sub, fun i s h1 h2 => ?_, R.sep⟩, p.mono, fun a h => ?_, fun a o h _ => up a o h, fun a h => .inl h, fun _ _ => rfl, rfl⟩
  · obtain ⟨v, h3, h4⟩ := R.slot i s h1 h2
    refine ⟨v, h3, ?_⟩
    cases h4 with
    | val r => exact .val (r.mono p.mono)
    | err q r => exact .err (fun b o h => p.mono b o (q b o h)) r
    | @own a o s h5 h6 h7 =>
      refine .own (up a o h5) ?_ (h7.mono p.mono)
      cases e : F' a with
      | none => rfl
      | some u =>
        rcases lm a (by rw [e]; simp) with z | z
        · exact absurd h6 z
        · rw [h5] at z; cases z
  · rcases lm a h with z | z
    · exact .inl z
    · exact .inr (.inr z)
theorem rel_new {x dx : Addr} {C : Str} {vs : List V} {ds : List D} (R : Rel K cm F σ H ρ) (hx : H x = none) (hd : H dx = none) (hne : dx ≠ x) (r : RepL K cm F vs ds) :
    Rel K cm F ((V.ref x :: vs).map some) (upd (upd H dx (.own x)) x (.ins (cm C) dx [])) (.ins C [] :: ds.map .val) := by
  have own0 : ∀ i a, ownAt ((V.ref x :: vs).map some) (.ins C [] :: ds.map .val) i a → i = 0 := fun i a ⟨s, h1, h2, _⟩ => by
    cases i with
    | zero => rfl
    | succ i =>
      rw [List.getElem?_cons_succ, List.getElem?_map] at h1
      cases q : ds[i]? with
      | none => rw [q] at h1; cases h1
      | some d => rw [q] at h1; cases h1; cases h2
  refine ⟨by simp [r.length], fun a o h => ?_, fun i s h1 h2 => ?_, fun i j a h1 h2 => (own0 i a h1).trans (own0 j a h2).symm⟩
  · have e := R.sub a o h
    rw [upd_ne (ne_of_none e hx), upd_ne (ne_of_none e hd)]; exact e
  · cases i with
    | zero => cases h1; exact ⟨_, rfl, .own upd_same (R.noF hx) (.ins .nil)⟩
    | succ i =>
      rw [List.getElem?_cons_succ, List.getElem?_map] at h1
      cases q : ds[i]? with
      | none => rw [q] at h1; cases h1
      | some d =>
        rw [q] at h1; cases h1
        obtain ⟨v, e1, e2⟩ := r.get q
        exact ⟨v, by simp [e1], .val e2⟩
end

/-- keyword values as data -/
structure KE' (X : Cx) (cm : Wd) (W : WX) (kws : List Keyword) (t : TA) (m : ME (List D)) : Prop where
  pk : PK X kws t
  sim : Sim X.K cm W (RDs X.K cm) t m
section
variable {X : Cx} {cm : Wd} {W : WX} {P : Nat → Bool} {e a b c : Expr} {es : List Expr} {kws : List Keyword} {t ta tb tc : TE} {ts tk : TA} {m ma mb mc : ME D} {pos p kpos : Pos} {nm : Option Str}
theorem ke_nil : KE' X cm W [] tNil mNil := ⟨pk_nil, fun ρ r e F σ H Q hr hp => by cases ret_ok e; exact hp [] F H (Post.refl hr) .nil⟩
theorem ke_cons {ms : ME (List D)} (ha : DE X cm W a ta ma) (hs : KE' X cm W kws ts ms) : KE' X cm W (⟨nm, a, kpos⟩ :: kws) (tCons ta ts) (mCons ma ms) := by
  refine ⟨pk_cons ha.pe hs.pk, fun ρ r e F σ H Q hr hp => ?_⟩
  refine ha.sim.step e hr hp fun d ρ1 v F1 H1 e1 p1 r1 => ?_
  refine hs.sim.step e1 p1.rel (hp.trans tr_Ds p1) fun ds ρ2 vs F2 H2 e2 p2 r2 => ?_
  cases ret_ok e2
  exact hp _ F2 H2 (p1.trans p2) (.cons (Rep.mono p2.mono r1) r2)
/-- C(e, .., k = v, ..): what __init__ made of the new instance -/
def mMakeR (C : Str) (f : Fun') (ds : List D) : ME S := fun ρ => match f (.ins C [] :: ds.map .val) with
  | some (.ret (.val .non) (.ins C' fs :: _)) => if C' = C then some (.ok (.ins C fs) ρ) else none
  | some (.exc E fs _) => some (.ex E fs ρ)
  | _ => none
def mMakeK (C : Str) (f : Fun') (n m : Nat) (ms mk : ME (List D)) : ME S := ms.bnd fun ds => mk.bnd fun ks ρ => if ds.length = n ∧ ks.length = m then mMakeR C f (ds ++ ks) ρ else none
theorem oe_makeK {C x : Str} {f : Fun'} {fi : Addr} {fd : FuncData} {ps ks : List Str} {k n : Nat} {ms mk : ME (List D)} {g : List Value → List Value → List Value} (M : Mk X.K (cm C) fi) (Fk : FnOk X.prog X.w X.K X.mg X.base (L2.CX X.prog X.w) k fi fd ps (spOf X.K cm (n + 1 + ks.length) f)) (hr : Room (k + 1) X.A) (hg : Gl X x) (hm : X.mg x = some (.ref (cm C)))
    (hb : KBn X.K fd ps (n + 1) ks g fun vs zs => vs ++ zs) (tk' : Takes X W) (hs : AE X cm W (e :: es) ts ms) (hk : KE' X cm W kws tk mk)
    (hall : (backToKw pos (keywordEach kws X.env)).all (·.1.isSome) = true := by rfl) (hks : (backToKw pos (keywordEach kws X.env)).filterMap (·.1) = ks := by rfl) (hdb : (x == ("__debug__" : Str)) = false := by decide)
    (he : starEach (e :: es) X.env = (false, eval e X.env) :: starEach es X.env := by rfl) (hpl : ((backTo pos (starEach (e :: es) X.env)).any (·.1) || (backToKw pos (keywordEach kws X.env)).any (·.1.isNone)) = false := by rfl) :
    OE X cm W (.Call (.Name x p) (e :: es) kws pos) (tMakeKS (cm C) n ks.length (spOf X.K cm (n + 1 + ks.length) f) (fun vs zs => vs ++ zs) (WE W) ts tk) (mMakeK C f n ks.length ms mk) := by
  refine ⟨pe_makeKS M Fk hr hg hm hb (fun σ => passAt tk' σ) hs.pa hk.pk hall hks hdb he hpl, fun ρ r e F σ H Q hr hp => ?_⟩
  refine hs.sim.step e hr hp fun ds ρ1 vs F1 H1 e1 p1 r1 => ?_
  refine hk.sim.step e1 p1.rel (hp.trans tr_O p1) fun kd ρ2 zs F2 H2 e2 p2 r2 => ?_
  split at e2
  rotate_left
  · cases e2
  rename_i hl
  have r1' : RepL X.K cm F1 vs ds := r1
  have r2' : RepL X.K cm F2 zs kd := r2
  have p := p1.trans p2
  have hp2 := hp.trans tr_O p
  refine ⟨by rw [r1'.length]; exact hl.1, by rw [r2'.length]; exact hl.2, fun q dq n1 n2 n3 => ?_⟩
  have ra : RepL X.K cm F2 (vs ++ zs) (ds ++ kd) := (RepL.mono p2.mono r1').append r2'
  have R2 := rel_new (C := C) p.rel n1 n2 n3 ra
  have hsub : ∀ a o, H2 a = some o → upd (upd H2 dq (.own q)) q (.ins (cm C) dq []) a = some o := fun a o h => by rw [upd_ne (ne_of_none h n1), upd_ne (ne_of_none h n2)]; exact h
  have hnew : ∀ a, owns ((V.ref q :: (vs ++ zs)).map some) (.ins C [] :: (ds ++ kd).map .val) a → H2 a = none := fun a ⟨i, s, h1, h2, h3⟩ => by
    cases i with
    | zero => cases h3; exact n1
    | succ i =>
      rw [List.getElem?_cons_succ, List.getElem?_map] at h1
      cases q : (ds ++ kd)[i]? with
      | none => rw [q] at h1; cases h1
      | some d => rw [q] at h1; cases h1; cases h2
  unfold mMakeR at e2
  suffices hh : ∃ c, f (.ins C [] :: (ds ++ kd).map .val) = some c ∧ CPost X.K cm F2 ((V.ref q :: (vs ++ zs)).map some) (upd (upd H2 dq (.own q)) q (.ins (cm C) dq [])) (.ins C [] :: (ds ++ kd).map .val) (fun v H3 => v = .non ∧ Q (.ref q) H3) (WE W σ) c by
    obtain ⟨c, h1, h2⟩ := hh
    exact ⟨by show (V.ref q :: vs ++ zs).length = _; simp [r1'.length, r2'.length, hl.1, hl.2]; omega, F2, _, c, R2, h1, h2⟩
  split at e2
  · rename_i C' fs ss' q2
    split at e2
    · rename_i ec
      subst ec
      cases e2
      refine ⟨_, q2, fun v F' H' pp rr => ⟨?_, ?_⟩⟩
      · cases rr.1.of_val; rfl
      · have ps := post_sub p.rel hsub hnew pp
        obtain ⟨v0, h1, h2⟩ := pp.rel.slot 0 _ rfl (by simp)
        cases h1
        refine hp2 _ F' H' ps ⟨h2, fun a e o => ?_⟩
        cases e
        exact ⟨fun z => (p.rel.owned' z).1 n1, .inr n1⟩
    · cases e2
  · rename_i E fs ss' q2
    cases e2
    exact ⟨_, q2, fun od F' H' pp rr => hp2 od F' H' (post_sub p.rel hsub hnew pp) rr⟩
  · cases e2

/-! ### self.f = e -/
def putD' (f : Str) (v : D) : List (Str × D) → List (Str × D)
  | [] => [(f, v)]
  | (g, x) :: r => if g = f then (g, v) :: r else (g, x) :: putD' f v r
theorem RepF.put {K : PySem.W.Frag} {cl : Str → Addr} {F : Hp} {vs : List (Str × V)} {ds : List (Str × D)} {f : Str} {v : V} {d : D} (h : RepF K cl F vs ds) (r : Rep K cl F v d) : RepF K cl F (putF f v vs) (putD' f d ds) := by
  induction vs generalizing ds with
  | nil => cases h; exact .cons r .nil
  | cons w vs ih =>
    cases h with
    | @cons k v' d' vs ds' a b =>
      unfold putF putD'
      by_cases q : k = f
      · rw [if_pos q, if_pos q]; exact .cons r b
      · rw [if_neg q, if_neg q]; exact .cons a (ih b)
def sFldN (L : List Str) (f : Str) (i : Nat) (m : ME D) : MS := m.thn fun d ρ => match ρ[i]? with
  | some (.ins C fs) => if C ∈ L ∧ fs.length < 1000 then some (.nx (ρ.set i (.ins C (putD' f d fs)))) else none
  | _ => none
theorem se_fldN {L : List Str} {f x : Str} {i : Nat} {px p' : Pos} (hL : FldOk X.K cm L f) (hN : X.N[i]? = some x) (hv : Vis X.env.scope x) (ha : DE X cm W a ta ma) (hd : (x == ("__debug__" : Str)) = false := by decide) (hcd : (x == ("__classdict__" : Str)) = false := by decide)
    (hs : swapsWith a (some (.Attribute (.Name x px) f p')) pos.line X.env = pure false := by rfl) : SE X cm W P (.Assign [.Attribute (.Name x px) f p'] a pos) (sFld X.K (tVar i) ta f) (sFldN L f i ma) := by
  refine ⟨ps_fld (pe_var hN hv hd hcd) ha.pe hs, fun ρ r e F σ H D hr hp => ?_⟩
  refine ha.sim.stepS e hr hp fun d ρ1 v F1 H1 e1 p1 r1 => ?_
  split at e1
  · rename_i C fs q
    split at e1
    · rename_i hc
      cases e1
      obtain ⟨v0, h2, h3⟩ := p1.rel.slot i _ q (by simp)
      obtain ⟨a, o, rfl, h4, h5, h6⟩ := h3.of_own rfl
      cases h6 with
      | @ins _ dx _ _ rf =>
        refine ⟨_, h2, a, _, _, _, rfl, h4, (hL _ hc.1).1, (hL _ hc.1).2, by rw [rf.length]; exact hc.2, ?_⟩
        have p2 := Post.write (P := P) (s' := .ins C (putD' f d fs)) p1.rel q rfl h2 (RepO.ins (C := C) (dx := dx) (rf.put (f := f) r1))
        exact hp _ σ _ (p1.any.trans p2)
    · cases e1
  · cases e1

/-! ### super().__init__ -/
def fnSup (C : Str) (f : Fun') : Fun' := fun ss => match ss with
  | .ins C' fs :: _ => if C' = C then (match f ss with
    | some (.ret _ ss') => some (.ret (.val .non) ss')
    | r => r) else none
  | _ => none
theorem fn_sup4 {P : Program} {w : World} {K : PySem.W.Frag} {cm : Wd} {mg : Str → Option Value} {base : Heap} {ps2 : List Str} {x s0 s1 s2 s3 m qual : Str} {params : Arguments} {scope : Scope} {f cc f2 : Addr} {C : Str} {fd fd2 : FuncData} {k : Nat} {f' : Fun'} {p0 p1 p2 p3 p4 q1 q2 q3 q4 : Pos}
    {g : List Value → List Value → List Value}
    (Sd : SupD P K x qual params [.Expr (.Call (.Attribute (.Call (.Name "super" p0) [] [] p1) m p2) [.Name s1 q1, .Name s2 q2] [⟨some s3, .Name s3 q3, q4⟩] p3) p4] scope cc f fd) (Sc : SupScope [s0, s1, s2, s3] [s0, s1, s2, s3] scope s0) (Cl : SupC K m cc (cm C) f2)
    (har : (params.posonlyargs ++ params.args).head?.map (·.arg) = some s0)
    (F2 : FnOk P w K mg base (L2.CX P w) k f2 fd2 ps2 (spOf K cm 4 f')) (hb2 : KBn K fd2 ps2 3 [s3] g fun vs zs => vs ++ zs) (hsup : mg "super" = none) (htop : (P.main.scope.names.lookup ("super" : Str)).isSome = false)
    (hm : (m == ("__class__" : Str)) = false) (hbi : bootBuiltins "super" = some (.type "super"))
    (hi : ∀ L cd, interactive (PySem.W.ksEnv qual scope L f cd cc) = false) (hs : ∀ L cd, swapsWith (.Call (.Attribute (.Call (.Name "super" p0) [] [] p1) m p2) [.Name s1 q1, .Name s2 q2] [⟨some s3, .Name s3 q3, q4⟩] p3) none p4.line (PySem.W.ksEnv qual scope L f cd cc) = pure false)
    (hcall : ∀ env : PySem.Env, ∃ pl : Sem Bool, eval (.Call (.Attribute (.Call (.Name "super" p0) [] [] p1) m p2) [.Name s1 q1, .Name s2 q2] [⟨some s3, .Name s3 q3, q4⟩] p3) env = (do
      let ov ← attributeBase (.Call (.Name "super" p0) [] [] p1) m env (eval (.Call (.Name "super" p0) [] [] p1) env)
      standAt p2.atName
      let (f, first) ← holding [ov] (getMethod ov m pl)
      callWith p3 f first (backTo p3 (starEach [.Name s1 q1, .Name s2 q2] env)) (backToKw p3 (keywordEach [⟨some s3, .Name s3 q3, q4⟩] env))))
    (hall : ∀ env, (backToKw p3 (keywordEach [⟨some s3, .Name s3 q3, q4⟩] env)).all (·.1.isSome) = true) (hks : ∀ env, (backToKw p3 (keywordEach [⟨some s3, .Name s3 q3, q4⟩] env)).filterMap (·.1) = [s3])
    (he : ∀ env, starEach [.Name s1 q1, .Name s2 q2] env = (false, eval (.Name s1 q1) env) :: starEach [.Name s2 q2] env) (he2 : ∀ env, starEach [.Name s2 q2] env = (false, eval (.Name s2 q2) env) :: starEach [] env) (hpl : ∀ env, ((backTo p3 (starEach [.Name s1 q1, .Name s2 q2] env)).any (·.1) || (backToKw p3 (keywordEach [⟨some s3, .Name s3 q3, q4⟩] env)).any (·.1.isNone)) = false)
    (hd : ∀ y ∈ [s1, s2, s3], (y == ("__debug__" : Str)) = false ∧ (y == ("__classdict__" : Str)) = false) :
    FnOk P w K mg base (L2.CX P w) (k + 1) f fd [s0, s1, s2, s3] (spOf K cm 4 (fnSup C f')) := by
  have vis : ∀ (X : Cx), X.env.scope = scope → ∀ y ∈ [s0, s1, s2, s3], Vis X.env.scope y := fun X e y hy => .inl (by rw [e]; exact Sc.par y hy)
  have F3 := fn_super (t := tCons (tVar 1) (tCons (tVar 2) tNil)) (tk := tCons (tVar 3) tNil) (n := 2) Sd Sc Cl har F2 hb2 hsup htop hm hbi
    (fun X eN eS => pa_cons (pe_var (by rw [eN]; rfl) (vis X eS s1 (by simp)) (hd s1 (by simp)).1 (hd s1 (by simp)).2) (pa_cons (pe_var (by rw [eN]; rfl) (vis X eS s2 (by simp)) (hd s2 (by simp)).1 (hd s2 (by simp)).2) pa_nil (he2 _)) (he _))
    (fun X eN eS => pk_cons (pe_var (by rw [eN]; rfl) (vis X eS s3 (by simp)) (hd s3 (by simp)).1 (hd s3 (by simp)).2) pk_nil) hi hs hcall hall hks he hpl
  refine F3.imp fun vs H Q E h => ?_
  obtain ⟨hl, F, ss, r, R, e, hp⟩ := h
  match vs, hl with
  | [v0, v1, v2, v3], _ =>
    match ss, R.len with
    | [t0, t1, t2, t3], _ =>
      unfold fnSup at e
      split at e
      · rename_i C' fs rest eq
        cases eq
        split at e
        · rename_i ec
          subst ec
          obtain ⟨v, h1, h2⟩ := R.slot 0 _ rfl (by simp)
          cases h1
          obtain ⟨a, o, rfl, h4, h5, h6⟩ := h2.of_own rfl
          cases h6 with
          | ins rf =>
            refine ⟨rfl, a, _, _, rfl, h4, v1, rfl, v2, rfl, v3, rfl, rfl, rfl, rfl, F, [.ins C' fs, t1, t2, t3], ?_⟩
            cases q : f' [.ins C' fs, t1, t2, t3] with
            | none => rw [q] at e; cases e
            | some z =>
              rw [q] at e
              refine ⟨z, R, rfl, ?_⟩
              cases z with
              | ret s ss' =>
                cases e
                exact fun v F' H' p x => hp .non F' H' p ⟨.val .non, fun _ _ z => by cases z⟩
              | exc E fs ss' =>
                cases e
                exact hp
        · cases e
      · cases e
end
end L2.Fn
set_option maxRecDepth 100000
set_option maxHeartbeats 4000000
/-! FnK: a list or a tuple walked, enumerate of both. -/
namespace L2.Fn
open PySem PySem.Spec PyProof.Rows L2

section
open Builtin AutoSeq1
theorem meets_enumT (l : Addr) (items : Array Value) (n : Nat) (dct : Option Addr) (sl : Array (Option Value)) :
    Meets (Builtin.«enumerate.__new__» ⟨[.type "enumerate", .ref l], []⟩) (fun _ R s => s.heap.get? l = some { cls := .type "tuple", dict := dct, data := .seq items n, slots := sl } ∧
      R (.ok (.ret (.ref (s.heap.push { cls := .type "tuple_iterator", data := .fields #[.ref l, .int 0 0] }).objs.size)))
        { s with heap := (s.heap.push { cls := .type "tuple_iterator", data := .fields #[.ref l, .int 0 0] }).push { cls := .type "enumerate", data := .fields #[.none, .bool false, .ref s.heap.objs.size, rawInt 0, .none, .none] } }) :=
  .of_wp fun prog w A R s ⟨hl, h⟩ => by
    obtain ⟨hp, g, d, tk, os⟩ := s
    have hL : hp.IsTuple l items := ⟨_, hl, rfl, n, rfl⟩
    have hsub := PySem.sub_enumerate
    wp_walk using wpAny_loadPart' hl
    refine wpAny_stack_any fun st => wpAny_pure ?_
    split
    · rename_i c _ _ _ _ _
      cases (c == Value.type "enumerate")
      · wp_walk using wpAny_loadPart' hl, wpAny_pyIter_tuple hL
        exact ⟨_, rfl, h⟩
      · wp_walk using wpAny_loadPart' hl, wpAny_pyIter_tuple hL
        exact ⟨_, rfl, h⟩
    · wp_walk using wpAny_loadPart' hl, wpAny_pyIter_tuple hL
      exact ⟨_, rfl, h⟩
end
section
variable {prog : Program} {w : World} {A : Around} {E : Value → Shared → Prop} {s : Shared}
theorem call_enumT {l : Addr} {items : Array Value} {Q : Value → Shared → Prop} (hL : s.heap.IsTuple l items)
    (h : ∀ h', IsEnum h' (s.heap.objs.size + 1) s.heap.objs.size 0 .none → h'.IsTupleIter s.heap.objs.size l 0 → h'.objs.size = s.heap.objs.size + 2 →
      (∀ b o, s.heap.get? b = some o → h'.get? b = some o) → Q (.ref (s.heap.objs.size + 1)) { s with heap := h' }) :
    wpAny (model prog w) A (call (.type "enumerate") [.ref l]) Q E s := by
  obtain ⟨⟨c, dct, dt, sl⟩, hl, hc, n, hd⟩ := hL
  replace hc : c = .type "tuple" := hc
  replace hd : dt = .seq items n := hd
  subst hc hd
  refine callType_new F.called_enumerate (by decide) (F.typeCall_enumerate_1 _) (F.newCall_enumerate_1 _) (fun obj => F.args_object_init_2 obj _) F.entry_enumerate_new
    (meets_enumT l items n dct sl) ⟨hl, ?_⟩
  have hz : (s.heap.push { cls := .type "tuple_iterator", data := .fields #[.ref l, .int 0 0] }).objs.size = s.heap.objs.size + 1 := Heap.size_push ..
  show _ ∧ _
  rw [hz]
  have he : IsEnum ((s.heap.push { cls := .type "tuple_iterator", data := .fields #[.ref l, .int 0 0] }).push
      { cls := .type "enumerate", data := .fields #[.none, .bool false, .ref s.heap.objs.size, rawInt 0, .none, .none] }) (s.heap.objs.size + 1) s.heap.objs.size 0 .none := by
    have := Heap.get?_push_size (s.heap.push { cls := .type "tuple_iterator", data := .fields #[.ref l, .int 0 0] })
      (o := { cls := .type "enumerate", data := .fields #[.none, .bool false, .ref s.heap.objs.size, rawInt 0, .none, .none] }) rfl
    rw [hz] at this; exact this
  refine ⟨⟨_, he, rfl⟩, h _ he ⟨_, Heap.get?_push_of_some _ (Heap.get?_push_size _ rfl), rfl, rfl⟩ (by rw [Heap.size_push, hz]) fun b o x => Heap.get?_push_of_some _ (Heap.get?_push_of_some _ x)⟩
end

theorem enumT_end {prog : Program} {w : World} {A : Around} {E : Value → Shared → Prop} {s : Shared} {e it a : Addr} {items : Array Value} {i : Nat} {j : Int} {old : Value} {Q : Option Value → Shared → Prop} (hh : A.handled = none)
    (he : IsEnum s.heap e it j old) (hit : s.heap.IsTupleIter it a i) (ht : s.heap.IsTuple a items) (hx : items[i]? = none)
    (hQ : ∀ h', Heap.ExtBut it s.heap h' → Q none { s with heap := h' }) : wpAny (model prog w) A (pyNext (.ref e)) Q E s := by
  have hT : s.TypeIs (.ref e) "enumerate" := ⟨_, he, rfl⟩
  unfold pyNext
  refine wpAny_bind (wpAny_attempt (wpAny_callSpecial?_slot (name := Str.ofString "__next__") hT F.slot_enumerate_next
    (wpAny_call_entry F.slot_enumerate_next hT F.entry_enumerate_next ?_ (F.args_enumerate_next_1 _))))
  show wpAny _ _ (field (.ref e) 2 >>= _) _ _ _
  refine wpAny_bind (wpAny_field he rfl (x := .ref it) rfl ?_)
  refine wpAny_bind (wpAny_nextOf_tuple_end hh hit ht hx fun h' x he' hx' => ?_)
  obtain ⟨o, ho, hc⟩ := hx'
  refine wpAny_bind (wpAny_isInstance (T := "StopIteration") (b := true) ⟨o, ho, hc⟩ isSubtype_stop ?_)
  exact wpAny_pure (hQ _ he')

def Itet (K : PySem.W.Frag) (a : Addr) : It :=
  ⟨fun i H => ∃ (xs : List V) (x : V), SqT K H a xs ∧ xs[i]? = some x, fun i H v H' => ∃ T x, v = .ref T ∧ H T = none ∧ H' = upd H T (.tup [.int (i : Nat), x]) ∧ ∀ xs, SqT K H a xs → xs[i]? = some x, fun i H => ∃ xs : List V, SqT K H a xs ∧ xs.length ≤ i⟩
theorem turn_enumT {P : Program} {w : World} {K : PySem.W.Frag} {elts : List Expr} {kk : Nat} {tpos : Pos} (a e it : Addr) :
    Turn P w K (.Tuple elts kk tpos) (Itet K a) [e, it] e (fun i h => (∃ old, IsEnum h e it ((i : Nat) : Int) old) ∧ h.IsTupleIter it a i ∧ e ≠ it) where
  mem := by simp
  obj := fun i h st b hb => by
    obtain ⟨⟨old, he⟩, ⟨o, ho, hc, hd⟩, _⟩ := st
    have e' : b = e ∨ b = it := by simpa using hb
    rcases e' with z | z
    · rw [z]; exact ⟨_, he, fun v q => nomatch q⟩
    · rw [z]; exact ⟨o, ho, fun v q => by rw [hd] at q; cases q⟩
  keep := fun i h h' st k => let ⟨⟨old, he⟩, hi, hne⟩ := st; ⟨⟨old, k e (by simp) _ he⟩, hi.at fun o q => k it (by simp) o q, hne⟩
  item := by
    intro X hP hw hK hc i pins s σ H E I hf st hg
    subst hP hw hK
    obtain ⟨⟨old, he⟩, hit, hne⟩ := st
    obtain ⟨xs, x, hq, hx⟩ := hg
    obtain ⟨its, rv, p, hz⟩ := I.tuple hq
    obtain ⟨u, hu, ru⟩ := rv.get hx
    have p : s.heap.IsTuple a its.toArray := p
    have hel : e < s.heap.objs.size := Heap.lt_size he
    have hil : it < s.heap.objs.size := by obtain ⟨_, q, _⟩ := hit; exact Heap.lt_size q
    have hait : a ≠ it := by
      rintro rfl
      obtain ⟨o1, e1, _, d1⟩ := hit
      obtain ⟨o2, e2, _, n, d2⟩ := p
      rw [e1] at e2; cases e2; rw [d1] at d2; cases d2
    have hae : e ≠ a := by
      rintro rfl
      obtain ⟨o2, e2, _, n, d2⟩ := p
      rw [he] at e2; cases e2; cases d2
    refine wpAny_pyNext_enum_itemD (Draws.tuple (show X.A.in1.handled = none from I.ok.hd hc) it a hait its.toArray) he ⟨hit, p⟩ (by
      obtain ⟨q, _⟩ := List.getElem?_eq_some_iff.mp hu; simpa using q) hne (by simp [hne, hae]) fun y h' tk hy ho hit' hT hsz hk => ?_
    have ey : y = u := by
      have hy : its.toArray[i]? = some y := hy
      rw [List.getElem?_toArray, hu] at hy; exact (Option.some.inj hy).symm
    subst ey
    refine ⟨_, rfl, wpAny_letOwnedTupleGo_enum (s := { s with heap := h', toks := tk + 1 }) ho fun h'' he' sb => ?_⟩
    have hT2 : h''.get? s.heap.objs.size = some { cls := .type "tuple", data := .seq #[.int i tk, y] } := (sb.2 _ (Nat.ne_of_gt hel)).trans hT
    have new : ObjOk X.prog X.w (upd H s.heap.objs.size (.tup [.int (i : Nat), x])) h'' s.heap.objs.size (.tup [.int (i : Nat), x]) :=
      ⟨by show 2 ≤ sizeLine; decide, [.int i tk, y], .cons ⟨_, rfl⟩ (.cons ru .nil), ⟨_, hT2, rfl, _, rfl⟩⟩
    have I1 : Inv X pins σ (upd H s.heap.objs.size (.tup [.int (i : Nat), x])) { s with heap := h'', toks := tk + 1 } :=
      I.turnedNew (ch := [e, it]) (fun b ob hb q => (sb.2 b (fun z => hb (by simp [z]))).trans (hk b ob (fun z => hb (by simp [z])) (fun z => hb (by simp [z])) q)) hf (Nat.le_refl _) new
    refine ⟨.ref s.heap.objs.size, _, I1, rfl, ⟨_, x, rfl, I.hok.fresh (Nat.le_refl _), rfl, fun ys hy => by rw [I.tuple_inj hy hq]; exact hx⟩, ⟨⟨y, ?_⟩, hit'.1.at fun o q => (sb.2 it (Ne.symm hne)).trans q, hne⟩, fun b hb => ?_⟩
    · have e1 : ((i + 1 : Nat) : Int) = (i : Int) + 1 := by omega
      rw [e1]; exact he'
    · have hb' : b < s.heap.objs.size := by
        have e' : b = e ∨ b = it := by simpa using hb
        rcases e' with z | z
        · rw [z]; exact hel
        · rw [z]; exact hil
      rw [upd_ne (Nat.ne_of_lt hb')]
      exact (hf b hb).1
  done := by
    intro X hP hw hK hc i pins s σ H E I hf st hg
    subst hP hw hK
    obtain ⟨⟨old, he⟩, hit, hne⟩ := st
    obtain ⟨xs, hq, hx⟩ := hg
    obtain ⟨its, rv, p, hz⟩ := I.tuple hq
    have p : s.heap.IsTuple a its.toArray := p
    obtain ⟨f0, f1, f2, f3, f4, f5⟩ := hf it (by simp)
    have hl := rv.length
    exact enumT_end (I.ok.hd hc) he hit p (by simp; omega) fun h' eb => ⟨rfl, I.turned (t' := s.toks) (fun b o hb q => eb b o hb q) f0 f1 f3 f4 f5⟩
  self := fun A i s Q E st h => let ⟨⟨_, he⟩, _⟩ := st; wpAny_pyIter_enum he h

theorem Rep.seqT {K : PySem.W.Frag} {cm : Wd} {F : Hp} {a : Addr} {vs : List V} {ds : List D} (h : SqT K F a vs) (r : RepL K cm F vs ds) : Wk K cm F (Itet K a) (enumD ds) where
  stop := fun i H m hl => ⟨vs, SqT.mono m h, by rw [r.length]; simpa [enumD] using hl⟩
  go := fun i H m hl => by
    have hv : i < vs.length := by rw [r.length]; simpa [enumD] using hl
    exact ⟨vs, vs[i], SqT.mono m h, by simp [hv]⟩
  yld := fun i d e F1 σ1 H1 ρ1 x H2 m hr y => by
    obtain ⟨T, z, rfl, hT, rfl, y⟩ := y
    simp only [enumD, List.getElem?_mapIdx] at e
    cases q : ds[i]? with
    | none => rw [q] at e; cases e
    | some d' =>
      rw [q] at e
      cases e
      obtain ⟨v, h1, h2⟩ := r.get q
      have := y vs (SqT.mono (fun a o q => hr.sub a o (m a o q)) h)
      rw [h1] at this
      cases this
      exact ⟨_, Post.cold hr hT, rd_tup (σ := σ1) (ρ := ρ1) hr hT (.cons .int (.cons (h2.mono m) .nil))⟩
/-- a list or a tuple -/
def iSeq (K : PySem.W.Frag) (tl : TE) : TI := fun σ H R => tl σ H fun x H1 => ∃ a, x = .ref a ∧ (((∃ xs, SqL K H1 a xs) ∧ R (Itl K a) H1) ∨ ((∃ xs, SqT K H1 a xs) ∧ R (Itt K a) H1))
def iEnumS (K : PySem.W.Frag) (ta : TA) : TI := fun σ H R => ta σ H fun vs H1 => ∃ a xs, vs = [.ref a] ∧ ((SqL K H1 a xs ∧ R (Ite K a) H1) ∨ (SqT K H1 a xs ∧ R (Itet K a) H1))
section
variable {X : Cx} {cm : Wd} {W : WX} {tg e a b c : Expr} {te ta tb tc : TE} {m ma mb mc : ME D} {pos p : Pos} {P : Nat → Bool}
theorem pi_seq {l : Expr} {tl : TE} (hl : PE X l tl) : PI X tg l (iSeq X.K tl) := by
  refine ⟨fun pins s σ H R I h => ?_⟩
  refine thn (hl.run pins s σ H _ I h) fun v s1 ⟨x, H1, I1, r1, q1⟩ => ?_
  obtain ⟨a, e, q⟩ := q1
  subst e
  cases r1
  rcases q with ⟨⟨xs, hq⟩, q⟩ | ⟨⟨xs, hq⟩, q⟩
  · obtain ⟨its, rv, p, hz⟩ := I1.list hq
    refine wpAny_pyIter_list p.isList ?_
    refine ⟨s1.heap.objs.size, [s1.heap.objs.size], _, _, H1, rfl, I1.kept (t' := s1.toks) fun b o e => Heap.get?_push_of_some _ e, turn_list a _, ⟨_, Heap.get?_push_size _ rfl, rfl, rfl⟩, fun b hb => ?_, q⟩
    have e : b = s1.heap.objs.size := by simpa using hb
    subst e
    exact I1.fpOk (Nat.le_refl _) (I1.hok.fresh (Nat.le_refl _))
  · obtain ⟨its, rv, p, hz⟩ := I1.tuple hq
    refine wpAny_pyIter_tuple (show s1.heap.IsTuple a its.toArray from p) ?_
    refine ⟨s1.heap.objs.size, [s1.heap.objs.size], _, _, H1, rfl, I1.kept (t' := s1.toks) fun b o e => Heap.get?_push_of_some _ e, turn_tuple a _, ⟨_, Heap.get?_push_size _ rfl, rfl, rfl⟩, fun b hb => ?_, q⟩
    have e : b = s1.heap.objs.size := by simpa using hb
    subst e
    exact I1.fpOk (Nat.le_refl _) (I1.hok.fresh (Nat.le_refl _))
theorem pi_enumS {ta : TA} {tpos : Pos} {elts : List Expr} {kk : Nat} (hg : Gl X "enumerate") (hm : X.mg "enumerate" = none) (ha : PA X [e] ta) (hs : starEach [e] X.env = [(false, eval e X.env)] := by rfl) :
    PI X (.Tuple elts kk tpos) (.Call (.Name "enumerate" p) [e] [] pos) (iEnumS X.K ta) := by
  refine ⟨fun pins s σ H R I h => ?_⟩
  refine Call_ (ld_blt I hg hm boot_enumerate (PyProof.Rows.callWith_type1 (thn (ha.run pos pins s σ H _ I h) fun us s1 ⟨vs, H1, I1, r1, q1⟩ => ?_) hs rfl))
  obtain ⟨a, xs, ex, q⟩ := q1
  subst ex
  cases r1 with
  | cons r rr =>
    cases rr
    cases r
    have fin : ∀ b, b ∈ [s1.heap.objs.size + 1, s1.heap.objs.size] → s1.heap.objs.size ≤ b := fun b hb => by
      have e' : b = s1.heap.objs.size + 1 ∨ b = s1.heap.objs.size := by simpa using hb
      rcases e' with z | z
      · rw [z]; exact Nat.le_add_right _ _
      · rw [z]; exact Nat.le_refl _
    rcases q with ⟨hq, q⟩ | ⟨hq, q⟩
    · obtain ⟨its, rv, p', hz⟩ := I1.list hq
      refine call_enumerate_list p'.isList fun h' he hit hsz hk => wpAny_pyIter_enum he ?_
      have I2 : Inv X pins σ H1 { s1 with heap := h' } := I1.kept (t' := s1.toks) hk
      exact ⟨s1.heap.objs.size + 1, [s1.heap.objs.size + 1, s1.heap.objs.size], _, _, H1, rfl, I2, turn_enum a (s1.heap.objs.size + 1) s1.heap.objs.size, ⟨⟨.none, he⟩, hit, Nat.succ_ne_self _⟩, fun b hb => I1.fpOk (fin b hb) (I1.hok.fresh (fin b hb)), q⟩
    · obtain ⟨its, rv, p', hz⟩ := I1.tuple hq
      refine call_enumT (show s1.heap.IsTuple a its.toArray from p') fun h' he hit hsz hk => wpAny_pyIter_enum he ?_
      have I2 : Inv X pins σ H1 { s1 with heap := h' } := I1.kept (t' := s1.toks) hk
      exact ⟨s1.heap.objs.size + 1, [s1.heap.objs.size + 1, s1.heap.objs.size], _, _, H1, rfl, I2, turn_enumT a (s1.heap.objs.size + 1) s1.heap.objs.size, ⟨⟨.none, he⟩, hit, Nat.succ_ne_self _⟩, fun b hb => I1.fpOk (fin b hb) (I1.hok.fresh (fin b hb)), q⟩
def mItems (m : ME D) : ME (List D) := m.bnd fun d => opt (itemsD d)
def mEnum (m : ME D) : ME (List D) := m.bnd fun d => opt ((itemsD d).map enumD)
theorem ie_seq (h : DE X cm W e te m) : IE X cm W tg e (iSeq X.K te) (mItems m) := by
  refine ⟨pi_seq h.pe, fun ρ r e F σ H R hr hp => ?_⟩
  refine h.sim.stepI e hr hp fun d ρ1 v F1 H1 e1 p1 r1 => ?_
  obtain ⟨xs, e2, rfl⟩ := opt_ok e1
  cases r1 with
  | lst h1 h2 => cases e2; exact ⟨_, rfl, .inl ⟨⟨_, SqL.of (p1.rel.sub _ _ h1)⟩, hp _ F1 H1 p1 (wk_list (SqL.of h1) h2)⟩⟩
  | scr h1 h2 => cases e2; exact ⟨_, rfl, .inl ⟨⟨_, SqL.mono p1.rel.sub h1⟩, hp _ F1 H1 p1 (wk_list h1 h2)⟩⟩
  | tup h1 h2 => cases e2; exact ⟨_, rfl, .inr ⟨⟨_, SqT.of (p1.rel.sub _ _ h1)⟩, hp _ F1 H1 p1 (wk_tup (SqT.of h1) h2)⟩⟩
  | ktp h1 h2 => cases e2; exact ⟨_, rfl, .inr ⟨⟨_, SqT.mono p1.rel.sub h1⟩, hp _ F1 H1 p1 (wk_tup h1 h2)⟩⟩
  | _ => cases e2
theorem ie_enum {elts : List Expr} {kk : Nat} {tpos : Pos} (hg : Gl X "enumerate") (hm : X.mg "enumerate" = none) (h : DE X cm W a ta ma) (h1 : starEach (a :: []) X.env = (false, eval a X.env) :: starEach [] X.env := by rfl) (hs : starEach [a] X.env = [(false, eval a X.env)] := by rfl) :
    IE X cm W (.Tuple elts kk tpos) (.Call (.Name "enumerate" p) [a] [] pos) (iEnumS X.K (tCons ta tNil)) (mEnum ma) := by
  refine ⟨pi_enumS hg hm (pa_cons h.pe pa_nil h1) hs, fun ρ r e F σ H R hr hp => ?_⟩
  refine h.sim.stepI e hr hp fun d ρ1 v F1 H1 e1 p1 r1 => ?_
  obtain ⟨xs, e2, rfl⟩ := opt_ok e1
  cases r1 with
  | lst h1 h2 => cases e2; exact ⟨_, _, rfl, .inl ⟨SqL.of (p1.rel.sub _ _ h1), hp _ F1 H1 p1 (wk_enum (SqL.of h1) h2)⟩⟩
  | scr h1 h2 => cases e2; exact ⟨_, _, rfl, .inl ⟨SqL.mono p1.rel.sub h1, hp _ F1 H1 p1 (wk_enum h1 h2)⟩⟩
  | tup h1 h2 => cases e2; exact ⟨_, _, rfl, .inr ⟨SqT.of (p1.rel.sub _ _ h1), hp _ F1 H1 p1 (Rep.seqT (SqT.of h1) h2)⟩⟩
  | ktp h1 h2 => cases e2; exact ⟨_, _, rfl, .inr ⟨SqT.mono p1.rel.sub h1, hp _ F1 H1 p1 (Rep.seqT h1 h2)⟩⟩
  | _ => cases e2
/-- range(a, b, c) -/
def rangeD3 (lo c : Int) (n : Nat) : List D := (List.range n).map fun i => D.int (lo + (i : Nat) * c)
instance : ∀ i j c n, Decidable (RgC i j c n) := fun i j c n => by unfold RgC; infer_instance
def gRange3 : D → D → D → Option (List D)
  | .int i, .int j, .int c => if RgC i j c (Builtin.Range.rangeSize i j c).toNat then some (rangeD3 i c (Builtin.Range.rangeSize i j c).toNat) else none
  | _, _, _ => none
def mRange3 (ma mb mc : ME D) : ME (List D) := ma.bnd fun x => mb.bnd fun y => mc.bnd fun z => opt (gRange3 x y z)
/-! ### list(range(..)), tuple(range(..)) -/
instance : ∀ i j, Decidable (RgOk i j) := fun i j => by unfold RgOk; infer_instance
def gLstRg (lo hi : D) : Option S := match lo, hi with
  | .int i, .int j => if RgOk i j then some (.lst (rangeD i (j - i).toNat)) else none
  | _, _ => none
def gTupRg (lo hi : D) : Option D := match lo, hi with
  | .int i, .int j => if RgOk i j then some (.tup (rangeD i (j - i).toNat)) else none
  | _, _ => none
end
end L2.Fn
set_option maxRecDepth 100000
set_option maxHeartbeats 4000000
/-! FnL: a dict comprehension, a comprehension of two clauses. -/
namespace L2.Fn
open PySem PySem.Spec PyProof.Rows L2

section
variable {K : PySem.W.Frag} {cm : Wd} {W : WX}
def dcL (g : MG) (tt : ME Bool) (tk tv : ME D) (vs : List Nat) : List D → List (Key × D) → Slots → Option (List (Key × D) × Slots)
  | [], acc, ρ => some (acc, ρ)
  | d :: ds, acc, ρ => match g (.val d) (wipeE ρ vs) with
    | none => none
    | some ρ1 => match tt ρ1 with
      | some (.ok true ρ2) => (match tk ρ2 with
        | some (.ok y ρ3) => (match tv ρ3 with
          | some (.ok z ρ4) => (match keyD y with
            | some k => if acc.length < sizeLine then dcL g tt tk tv vs ds (putD acc k z) (wipeE ρ4 vs) else none
            | none => none)
          | _ => none)
        | _ => none)
      | some (.ok false ρ2) => dcL g tt tk tv vs ds acc (wipeE ρ2 vs)
      | _ => none
def mDc (it : ME (List D)) (g : MG) (tt : ME Bool) (tk tv : ME D) (vs : List Nat) : ME S := it.bnd fun ds ρ =>
  match dcL g tt tk tv vs ds [] ρ with
    | some (ys, ρ') => some (.ok (.dK ys) ρ')
    | none => none
/-! ### two clauses -/
/-- the second clause's turns: what they add -/
def lc2I (g1 : MG) (tt1 : ME Bool) (te : ME D) (vs1 : List Nat) : List D → List D → Slots → Option (List D × Slots)
  | [], acc, ρ => some (acc, ρ)
  | d :: ds, acc, ρ => match g1 (.val d) (wipeE ρ vs1) with
    | none => none
    | some ρ1 => match tt1 ρ1 with
      | some (.ok true ρ2) => (match te ρ2 with
        | some (.ok y ρ3) => if acc.length < sizeLine then lc2I g1 tt1 te vs1 ds (acc ++ [y]) (wipeE ρ3 vs1) else none
        | _ => none)
      | some (.ok false ρ2) => lc2I g1 tt1 te vs1 ds acc (wipeE ρ2 vs1)
      | _ => none
def lc2O (g : MG) (tt : ME Bool) (mi1 : ME (List D)) (inner : List D → List D → Slots → Option (List D × Slots)) (vs : List Nat) : List D → List D → Slots → Option (List D × Slots)
  | [], acc, ρ => some (acc, ρ)
  | d :: ds, acc, ρ => match g (.val d) (wipeE ρ vs) with
    | none => none
    | some ρ1 => match tt ρ1 with
      | some (.ok true ρ2) => (match mi1 ρ2 with
        | some (.ok es ρ3) => (match inner es acc ρ3 with
          | some (acc', ρ4) => lc2O g tt mi1 inner vs ds acc' (wipeE ρ4 vs)
          | none => none)
        | _ => none)
      | some (.ok false ρ2) => lc2O g tt mi1 inner vs ds acc (wipeE ρ2 vs)
      | _ => none
def mLc2 (it : ME (List D)) (g : MG) (tt : ME Bool) (it1 : ME (List D)) (g1 : MG) (tt1 : ME Bool) (te : ME D) (vs vs1 : List Nat) : ME S := it.bnd fun ds ρ =>
  match lc2O g tt it1 (lc2I g1 tt1 te vs1) vs ds [] ρ with
    | some (ys, ρ') => some (.ok (.lst ys) ρ')
    | none => none
end
end L2.Fn
set_option maxRecDepth 100000
set_option maxHeartbeats 4000000
/-! FnM: the rules of FnL as judgements; sorted of tuples. -/
namespace L2.Fn
open PySem PySem.Spec PyProof.Rows L2
section
variable {X : Cx} {cm : Wd} {W : WX} {P : Nat → Bool} {pos : Pos} {wi : TI} {g : TG} {tt : TT} {te : TE} {mi : ME (List D)} {mg : MG} {mt : ME Bool} {me : ME D} {elt kx vx tgt iter : Expr} {ifs : List Expr} {scope : Scope} {own : List (Str × Nat)}
end

/-! ### sorted of tuples of ints -/
def tupsD : List D → Option (List (List Int))
  | [] => some []
  | .tup ds :: r => match intsD ds, tupsD r with
    | some ns, some nss => some (ns :: nss)
    | _, _ => none
  | _ :: _ => none
def sortT (B : Int) (nss : List (List Int)) : List (List Int) := nss.mergeSort fun a b => decide (TS.code B a ≤ TS.code B b)
def bdT (d : Nat) (B : Int) (ns : List Int) : Bool := decide (ns.length = d) && ns.all fun m => decide (0 ≤ m) && decide (m < B)
def gSortT (d : Nat) (B : Int) : D → Option S
  | .lst xs => (tupsD xs).bind fun nss => if nss.length < 64 ∧ nss.all (bdT d B) = true then some (.lst ((sortT B nss).map fun ns => D.tup (ns.map D.int))) else none
  | _ => none
section
variable {X : Cx} {cm : Wd}
end
end L2.Fn
set_option maxRecDepth 100000
set_option maxHeartbeats 4000000
/-! FnW: short words for printed derivations. -/
namespace L2.Fn
open PySem PySem.Spec PyProof.Rows L2

/-! ### comprehension blocks -/
def nkB (a : Option NameKind) (b : NameKind) : Bool := a == some b
def blkB (N : List Str) (sc scope : Scope) (own : List (Str × Nat)) : Bool :=
  (scope.kind == .function) && (scope.names.all fun y => scope.names.lookup y.1 == some y.2) && (own.all fun p => N[p.2]? == some p.1) &&
    (scope.names.all fun y => !(y.2 == .free) || (sc.names.lookup y.1 == some .cell || sc.names.lookup y.1 == some .free)) &&
    (scope.names.all fun y => !(y.2 == .local || y.2 == .cell) || ((own.map (·.1)).contains y.1 || !N.contains y.1))
theorem blk_ok {N : List Str} {sc scope : Scope} {own : List (Str × Nat)} (h : blkB N sc scope own = true) : BlkOk N sc scope own := by
  unfold blkB at h
  simp only [Bool.and_eq_true, List.all_eq_true, Bool.or_eq_true, Bool.not_eq_true', beq_iff_eq] at h
  obtain ⟨⟨⟨⟨h1, h2⟩, h3⟩, h4⟩, h5⟩ := h
  refine ⟨?_, fun y hy => h2 y hy, fun p hp => h3 p hp, fun y hy e => ?_, fun y hy e => ?_⟩
  · revert h1; cases scope.kind <;> intro h1 <;> first | rfl | cases h1
  · rcases h4 y hy with z | z
    · rw [e] at z; cases z
    · exact z
  · rcases h5 y hy with z | z
    · rcases e with e | e
      · rw [e] at z; cases z
      · rw [e] at z; cases z
    · rcases z with z | z
      · exact .inl (by simpa using z)
      · exact .inr (by simpa using z)
theorem takes_WF {X : Cx} : Takes X WF := fun u s' ⟨_, _, _, _, _, _, _, _, _, _, _, _, _, _, _, _, w⟩ => w.elim

section
variable {X : Cx} {cm : Wd} {W : WX} {P : Nat → Bool} {x : Str} {e a b c : Expr} {es : List Expr} {t ta tb tc : TE} {ts tk : TA} {m ma mb mc : ME D} {mo : ME S} {ms : ME (List Ar)} {pos p px apos p' pos' tpos : Pos}
theorem de_v (i : Nat) (hN : X.N[i]? = some x := by rfl) (hv : Vis X.env.scope x := by first | exact Or.inl rfl | exact Or.inr (Or.inl rfl) | exact Or.inr (Or.inr rfl)) (hd : (x == ("__debug__" : Str)) = false := by decide) (hcd : (x == ("__classdict__" : Str)) = false := by decide) : DE X cm W (.Name x pos) (tVar i) (mVar i) := de_var hN hv hd hcd
theorem oe_v (i : Nat) (hN : X.N[i]? = some x := by rfl) (hv : Vis X.env.scope x := by first | exact Or.inl rfl | exact Or.inr (Or.inl rfl) | exact Or.inr (Or.inr rfl)) (hd : (x == ("__debug__" : Str)) = false := by decide) (hcd : (x == ("__classdict__" : Str)) = false := by decide) : OE X cm W (.Name x pos) (tVar i) (mMove i) := oe_move hN hv hd hcd
theorem ce_v (i : Nat) (hs : CE' X cm W es ts ms) (hN : X.N[i]? = some x := by rfl) (hv : Vis X.env.scope x := by first | exact Or.inl rfl | exact Or.inr (Or.inl rfl) | exact Or.inr (Or.inr rfl)) (hd : (x == ("__debug__" : Str)) = false := by decide) (hcd : (x == ("__classdict__" : Str)) = false := by decide)
    (h : starEach (.Name x px :: es) X.env = (false, eval (.Name x px) X.env) :: starEach es X.env := by rfl) : CE' X cm W (.Name x px :: es) (tCons (tVar i) ts) (mIo i ms) := ce_io hs hN hv hd hcd h
theorem ge_v (i : Nat) (hnd : X.N.Nodup) (hi : X.N[i]? = some x := by rfl) (hx : Loc X.env.scope x := by first | exact Or.inl rfl | exact Or.inr rfl) (hP : P i = false := by rfl) (hf : X.fn x = true ∨ X.env.scope.names.lookup x = some .local := by first | exact Or.inl rfl | exact Or.inr rfl) : GE X cm P (.Name x pos) (gName i) (gSetM i) := ge_name hnd hi hx hP hf
end
/-! ### what is known of a def, a class, an error -/
structure Cal (P : Program) (w : World) (K : PySem.W.Frag) (mg : Str → Option Value) (base : Heap) (cm : Wd) (x : Str) (k n : Nat) (f : Fun') : Prop where
  ok : ∃ fd ps, FnOk P w K mg base (L2.CX P w) k (He.ga K x) fd ps (spOf K cm n f) ∧ Binds K fd ps []
  g : mg x = some (.ref (He.ga K x))
  kp : PySem.W.keepIn K (.ref (He.ga K x)) = true
structure Mak (P : Program) (w : World) (K : PySem.W.Frag) (mg : Str → Option Value) (base : Heap) (cm : Wd) (C : Str) (k n : Nat) (ks : List Str) (f : Fun') : Prop where
  ok : ∃ fd ps g, FnOk P w K mg base (L2.CX P w) k (He.ma K (cm C) "__init__") fd ps (spOf K cm (n + 1 + ks.length) f) ∧ KBn K fd ps (n + 1) ks g (fun vs zs => vs ++ zs)
  mkr : Mk K (cm C) (He.ma K (cm C) "__init__")
  g : mg C = some (.ref (cm C))
structure ErrP (P : Program) (w : World) (K : PySem.W.Frag) (mg : Str → Option Value) (base : Heap) (cm : Wd) (C f : Str) : Prop where
  T : OexC K (cm C)
  iC : PySem.W.findIn K (.ref (cm C)) "__init__" = some (some (.ref (He.ma K (cm C) "__init__")))
  tI : PySem.W.typeIn K (.ref (He.ma K (cm C) "__init__")) = some (.type "function")
  ok : ∃ fd ps, FnOk P w K mg base CX0 1 (He.ma K (cm C) "__init__") fd ps (spExc (cm C) f) ∧ Binds K fd ps []
  g : mg C = some (.ref (cm C))
def Ln (ms : ME (List Ar)) (n : Nat) : Prop := ∀ ρ as ρ', ms ρ = some (.ok as ρ') → as.length = n
theorem ln_nil : Ln aNil 0 := fun _ _ _ h => an_nil h
theorem ln_cons {m : ME D} {ms : ME (List Ar)} {n : Nat} (h : Ln ms n) : Ln (aCons m ms) (n + 1) := fun _ _ _ q => an_cons h q
theorem ln_io {j : Nat} {ms : ME (List Ar)} {n : Nat} (h : Ln ms n) : Ln (mIo j ms) (n + 1) := fun _ _ _ q => an_io h q
section
variable {X : Cx} {cm : Wd} {W : WX} {P : Nat → Bool} {x C f' : Str} {e a b c : Expr} {es : List Expr} {kws : List Keyword} {t ta tb tc : TE} {ts tk : TA} {m ma mb mc : ME D} {ms : ME (List Ar)} {f : Fun'} {k n : Nat} {ks : List Str} {pos p px p' : Pos}
theorem oe_cal (Cl : Cal X.prog X.w X.K X.mg X.base cm x k n f) (hr : Room k X.A) (hg : Gl X x) (tk : Takes X W) (hs : CE' X cm W (e :: es) ts ms) (hn : Ln ms n)
    (hdb : (x == ("__debug__" : Str)) = false := by decide) (he : starEach (e :: es) X.env = (false, eval e X.env) :: starEach es X.env := by rfl) (hpl : (backTo pos (starEach es X.env)).any (·.1) = false := by rfl) :
    OE X cm W (.Call (.Name x p) (e :: es) [] pos) (tCallSD (spOf X.K cm n f) [] (WE W) ts) (mCall f [] ms) := by
  obtain ⟨fd, ps, h1, h2⟩ := Cl.ok
  exact oe_call h1 hr hg Cl.g Cl.kp h2 .nil (fun _ => .nil) tk hs hn hdb he hpl
theorem oe_mak {ms mk : ME (List D)} (M : Mak X.prog X.w X.K X.mg X.base cm C k n ks f) (hr : Room (k + 1) X.A) (hg : Gl X C) (tk' : Takes X W) (hs : AE X cm W (e :: es) ts ms) (hk : KE' X cm W kws tk mk)
    (hall : (backToKw pos (keywordEach kws X.env)).all (·.1.isSome) = true := by rfl) (hks : (backToKw pos (keywordEach kws X.env)).filterMap (·.1) = ks := by rfl) (hdb : (C == ("__debug__" : Str)) = false := by decide)
    (he : starEach (e :: es) X.env = (false, eval e X.env) :: starEach es X.env := by rfl) (hpl : ((backTo pos (starEach (e :: es) X.env)).any (·.1) || (backToKw pos (keywordEach kws X.env)).any (·.1.isNone)) = false := by rfl) :
    OE X cm W (.Call (.Name C p) (e :: es) kws pos) (tMakeKS (cm C) n ks.length (spOf X.K cm (n + 1 + ks.length) f) (fun vs zs => vs ++ zs) (WE W) ts tk) (mMakeK C f n ks.length ms mk) := by
  obtain ⟨fd, ps, g, h1, h2⟩ := M.ok
  exact oe_makeK M.mkr h1 hr hg M.g h2 tk' hs hk hall hks hdb he hpl
theorem se_rais (E : ErrP X.prog X.w X.K X.mg X.base cm C f') (hc : X.calm = true) (tk : Takes X W) (hr : Room 2 X.A) (hg : Gl X C) (ha : DE X cm W a ta ma)
    (hdb : (C == ("__debug__" : Str)) = false := by decide) (he : starEach (a :: []) X.env = (false, eval a X.env) :: starEach [] X.env := by rfl) (hpl : (backTo pos (starEach [] X.env)).any (·.1) = false := by rfl) :
    SE X cm W P (.Raise (some (.Call (.Name C p) [a] [] pos)) none p') (fun _ σ H => tMkO (cm C) (spExc (cm C) f') [] (tCons ta tNil) σ H fun cls d H' => W cls d σ H') (sRaise1 C f' ma) := by
  obtain ⟨fd, ps, h1, h2⟩ := E.ok
  exact se_raise1 hc tk E.T E.iC E.tI h1 hr h2 hg E.g ha hdb he hpl
end

theorem u1 {k : Nat} {A : Around} (r : Room k A) : A.units + 1 < cLine := by have := r.units; omega
def cmOf (K : PySem.W.Frag) : Wd := ⟨fun C => He.ga K C, fun _ _ _ _ => False⟩
end L2.Fn
set_option maxRecDepth 100000
set_option maxHeartbeats 4000000
/-! FnX: the words with K told, so that a comprehension's reading leans on nothing of its block. -/
namespace L2.Fn
open PySem PySem.Spec PyProof.Rows L2
section
variable {X : Cx} {cm : Wd} {W : WX} {P : Nat → Bool} {x f' C : Str} {e a b c tgt : Expr} {es : List Expr} {t ta tb tc te : TE} {ts tk : TA} {m ma mb mc : ME D} {mo : ME S} {ms : ME (List Ar)} {pos p px apos p' pos' tpos p2 : Pos} {f : Fun'} {k n : Nat}
theorem k_fv (K : PySem.W.Frag) (i : Nat) {L : List Str} {f : Str} (hL : FldOk K cm L f) (hK : X.K = K := by rfl) (hN : X.N[i]? = some x := by rfl) (hv : Vis X.env.scope x := by first | exact Or.inl rfl | exact Or.inr (Or.inl rfl) | exact Or.inr (Or.inr rfl)) (hd : (x == ("__debug__" : Str)) = false := by decide) (hcd : (x == ("__classdict__" : Str)) = false := by decide)
    (hb : attributeBase (.Name x px) f X.env (eval (.Name x px) X.env) = eval (.Name x px) X.env := by rfl) : DE X cm W (.Attribute (.Name x px) f pos) (tFld K (tVar i) f) (mFldN L f i) := by subst hK; exact de_fldN hL hN hv hd hcd hb
theorem k_con (K : PySem.W.Frag) {L : List (Str × D)} {f : Str} (hL : ConOk K cm L f) (h : DE X cm W e t m) (hK : X.K = K := by rfl) (hb : attributeBase e f X.env (eval e X.env) = eval e X.env := by rfl) : DE X cm W (.Attribute e f pos) (tCon K t f) (mCon L f m) := by subst hK; exact de_con hL h hb
theorem k_ix (K : PySem.W.Frag) (ha : DE X cm W a ta ma) (hb : DE X cm W b tb mb) (hK : X.K = K := by rfl) (hs : PlainIx b := by exact fun _ _ => rfl) : DE X cm W (.Subscript a b pos) (tOp (rIx K) ta tb) (mIx ma mb) := by subst hK; exact de_ix ha hb hs
theorem k_ixv (K : PySem.W.Frag) (i : Nat) (hb : DE X cm W b tb mb) (hK : X.K = K := by rfl) (hN : X.N[i]? = some x := by rfl) (hv : Vis X.env.scope x := by first | exact Or.inl rfl | exact Or.inr (Or.inl rfl) | exact Or.inr (Or.inr rfl)) (hd : (x == ("__debug__" : Str)) = false := by decide) (hcd : (x == ("__classdict__" : Str)) = false := by decide) (hs : PlainIx b := by exact fun _ _ => rfl) : DE X cm W (.Subscript (.Name x px) b pos) (tOp (rIx K) (tVar i) tb) (mIxN i mb) := by subst hK; exact de_ixN hN hv hb hs hd hcd
theorem k_len (K : PySem.W.Frag) (hm : X.mg "len" = none) (h : DE X cm W a ta ma) (hK : X.K = K := by rfl) (hg : Gl X "len" := by rfl)
    (h1 : starEach (a :: []) X.env = (false, eval a X.env) :: starEach [] X.env := by rfl) (hpl : (backTo pos (starEach [] X.env)).any (·.1) = false := by rfl) : DE X cm W (.Call (.Name "len" p) [a] [] pos) (tCB (fun xs H Q => ∃ x n, xs = [x] ∧ LenV K x H n ∧ Q (.int n) H) (tCons ta tNil)) (mLen ma) := by
  subst hK; exact de_len hg hm h (by decide) (by decide) h1 hpl
theorem k_lenv (K : PySem.W.Frag) (i : Nat) (hm : X.mg "len" = none) (hK : X.K = K := by rfl) (hN : X.N[i]? = some x := by rfl) (hv : Vis X.env.scope x := by first | exact Or.inl rfl | exact Or.inr (Or.inl rfl) | exact Or.inr (Or.inr rfl)) (hd : (x == ("__debug__" : Str)) = false := by decide) (hcd : (x == ("__classdict__" : Str)) = false := by decide) (hg : Gl X "len" := by rfl)
    (h1 : starEach (.Name x px :: []) X.env = (false, eval (.Name x px) X.env) :: starEach [] X.env := by rfl) (hpl : (backTo pos (starEach [] X.env)).any (·.1) = false := by rfl) :
    DE X cm W (.Call (.Name "len" p) [.Name x px] [] pos) (tCB (fun xs H Q => (∃ x n, xs = [x] ∧ LenV K x H n ∧ Q (.int n) H) ∨ ∃ p kvs, xs = [.ref p] ∧ H p = some (.dK kvs) ∧ Q (.int kvs.length) H) (tCons (tVar i) tNil)) (mLenN i) := by
  subst hK; exact de_lenN hg hm hN hv hd hcd (by decide) (by decide) h1 hpl
theorem k_sl (K : PySem.W.Frag) {lo hi : Option Expr} {tl th : TO} {ml mh : ME (Option Int)} (h : DE X cm W a ta ma) (hl : OEp X cm W lo tl ml) (hh : OEp X cm W hi th mh) (hK : X.K = K := by rfl) : OE X cm W (.Subscript a (.Slice lo hi none p2) pos) (tSl (rSlL K) ta tl th) (mSlL ma ml mh) := by subst hK; exact oe_slL h hl hh
theorem k_eq (K : PySem.W.Frag) (hu : X.A.units + 64 < cLine) (hK : X.K = K := by rfl) : OpR X (compareOp .Eq) (rEqD K) := by subst hK; exact op_eqD hu
theorem k_ne (K : PySem.W.Frag) (hu : X.A.units + 64 < cLine) (hK : X.K = K := by rfl) : OpR X (compareOp .NotEq) (rNeD K) := by subst hK; exact op_neD hu
theorem k_in (K : PySem.W.Frag) (hK : X.K = K := by rfl) : OpR X (compareOp .In) (rIn K false) := by subst hK; exact op_in_seq
theorem k_tinv (K : PySem.W.Frag) (neg : Bool) (i : Nat) {op : CmpOp} (hx : OpR X (compareOp op) (rIn K neg)) (ha : DE X cm W a ta ma) (hK : X.K = K := by rfl) (hN : X.N[i]? = some x := by rfl) (hv : Vis X.env.scope x := by first | exact Or.inl rfl | exact Or.inr (Or.inl rfl) | exact Or.inr (Or.inr rfl)) (hd : (x == ("__debug__" : Str)) = false := by decide) (hcd : (x == ("__classdict__" : Str)) = false := by decide) (hm : behindInMarks op (.Name x px) = false := by rfl) :
    TEs X cm W (.Compare a [op] [.Name x px] pos) (tTest (tOp (rIn K neg) ta (tVar i))) (mTest (mInN neg i ma)) := by subst hK; exact te_inN neg hx ha hN hv hd hcd hm
theorem k_seq (K : PySem.W.Frag) (h : DE X cm W e te m) (hK : X.K = K := by rfl) : IE X cm W tgt e (iSeq K te) (mItems m) := by subst hK; exact ie_seq h
theorem k_enum (K : PySem.W.Frag) {elts : List Expr} {kk : Nat} (hm : X.mg "enumerate" = none) (h : DE X cm W a ta ma) (hK : X.K = K := by rfl) (hg : Gl X "enumerate" := by rfl) (h1 : starEach (a :: []) X.env = (false, eval a X.env) :: starEach [] X.env := by rfl) (hs : starEach [a] X.env = [(false, eval a X.env)] := by rfl) :
    IE X cm W (.Tuple elts kk tpos) (.Call (.Name "enumerate" p) [a] [] pos) (iEnumS K (tCons ta tNil)) (mEnum ma) := by subst hK; exact ie_enum hg hm h h1 hs
theorem k_tup (K : PySem.W.Frag) {es : List Expr} {kk : Nat} {g : TGs} {ms : MGs} {n : Nat} (hc : X.calm = true) (h : GEs X cm P es g ms) (hK : X.K = K := by rfl) (hn : (assignEach es X.env).length = n := by rfl) (hst : (assignEach es X.env).findIdx? (·.1) = none := by rfl) :
    GE X cm P (.Tuple es kk pos) (gTL K n g) (gTupM n ms) := by subst hK; exact ge_tup hc h hn hst
theorem k_isT (K : PySem.W.Frag) {T : String} {f : String → Bool} {y : Str} (hT : IsT T f) (hm : X.mg "isinstance" = none) (hm2 : X.mg y = none) (hv2 : bootBuiltins y = some (.type T)) (ha : DE X cm W a ta ma) (hK : X.K = K := by rfl) (hg : Gl X "isinstance" := by rfl) (hg2 : Gl X y := by rfl) (hyn : y ≠ "__name__" := by decide) (hyd : (y == ("__debug__" : Str)) = false := by decide)
    (h1 : starEach (.Name y p2 :: []) X.env = (false, eval (.Name y p2) X.env) :: starEach [] X.env := by rfl) (h2 : starEach (a :: [.Name y p2]) X.env = (false, eval a X.env) :: starEach [.Name y p2] X.env := by rfl) (hpl : (backTo pos (starEach [.Name y p2] X.env)).any (·.1) = false := by rfl) :
    OE X cm W (.Call (.Name "isinstance" p) [a, .Name y p2] [] pos) (tCB (rIsi K) (tCons ta (tCons (tC (.ty T)) tNil))) (mIsT f ma) := by subst hK; exact oe_isT hT hg hm hg2 hm2 hv2 ha hyn hyd h1 h2 hpl
theorem k_list (K : PySem.W.Frag) (hK : X.K = K := by rfl) : CallR X (.type "list") (fun xs H Q => ∃ p ys, xs = [.ref p] ∧ (SqL K H p ys ∨ SqT K H p ys) ∧ ∀ l, H l = none → Q (.ref l) (upd H l (.lst ys))) := by subst hK; exact call_list_of
theorem k_tuple (K : PySem.W.Frag) (hK : X.K = K := by rfl) : CallR X (.type "tuple") (fun xs H Q => ∃ p ys, xs = [.ref p] ∧ ((SqL K H p ys ∧ ∀ l, H l = none → Q (.ref l) (upd H l (.tup ys))) ∨ (SqT K H p ys ∧ Q (.ref p) H))) := by subst hK; exact call_tuple_of
theorem k_sorted (K : PySem.W.Frag) (hK : X.K = K := by rfl) : CallR X (.builtin "sorted") (rSortedI K) := by subst hK; exact cr_sortedI
theorem k_cal (K : PySem.W.Frag) (Cl : Cal X.prog X.w K X.mg X.base cm x k n f) (hr : Room k X.A) (tk : Takes X W) (hs : CE' X cm W (e :: es) ts ms) (hn : Ln ms n) (hK : X.K = K := by rfl) (hg : Gl X x := by rfl)
    (hdb : (x == ("__debug__" : Str)) = false := by decide) (he : starEach (e :: es) X.env = (false, eval e X.env) :: starEach es X.env := by rfl) (hpl : (backTo pos (starEach es X.env)).any (·.1) = false := by rfl) :
    OE X cm W (.Call (.Name x p) (e :: es) [] pos) (tCallSD (spOf K cm n f) [] (WE W) ts) (mCall f [] ms) := by subst hK; exact oe_cal Cl hr hg tk hs hn hdb he hpl
end
end L2.Fn
set_option maxRecDepth 100000
set_option maxHeartbeats 4000000
/-! FnY: facts told by the head, the law's def at its call. -/
namespace L2.Fn
open PySem PySem.Spec PyProof.Rows L2

/-! ### error classes -/
def oexB (K : PySem.W.Frag) (C : Addr) : Bool := (match K.lookup C with
  | some ⟨.type ty, _, .cls cd, sl⟩ => decide (ty = "type") && (match cd.mro, sl.toList with
    | .ref C' :: bm, [_, _, _, _, some (.builtin n), _] => C' == C && n == "ValueError.__new__" && !cd.hasDel && cd.hasDict && PySem.HandSPX.refsVE bm
    | _, _ => false)
  | _ => false) && (decide (PySem.W.findIn K (.ref C) "__setattr__" = some (some (.builtin "object.__setattr__"))) && (decide (PySem.W.subIn K (.ref C) (.type "BaseException") = some true) && (decide (PySem.W.typeIn K (.ref C) = some (.type "type")) && PySem.W.keepIn K (.ref C))))
theorem oexB_ok {K : PySem.W.Frag} {C : Addr} (h : oexB K C = true) : OexC K C := by
  obtain ⟨h1, h⟩ := Bool.and_eq_true_iff.mp h
  obtain ⟨h2, h⟩ := Bool.and_eq_true_iff.mp h
  obtain ⟨h3, h⟩ := Bool.and_eq_true_iff.mp h
  obtain ⟨h4, h5⟩ := Bool.and_eq_true_iff.mp h
  refine ⟨?_, of_decide_eq_true h2, of_decide_eq_true h3, of_decide_eq_true h4, h5⟩
  split at h1
  · rename_i ty dd cd sl ho
    obtain ⟨q1, q2⟩ := Bool.and_eq_true_iff.mp h1
    have e1 := of_decide_eq_true q1
    subst e1
    split at q2
    · rename_i C' bm k0 k1 k2 k3 n k5 hm hs
      simp only [Bool.and_eq_true, beq_iff_eq, Bool.not_eq_true'] at q2
      obtain ⟨⟨⟨⟨e1, e2⟩, e3⟩, e4⟩, e5⟩ := q2
      subst e1 e2
      obtain ⟨n1, n2, n3, n4, n5, n6, n7, n8, n9, n10, n11⟩ := cd
      simp only at hm e3 e4
      subst hm e3 e4
      have es : sl = #[k0, k1, k2, k3, some (.builtin "ValueError.__new__"), k5] := by
        rw [← Array.toList_inj]; exact hs
      subst es
      exact ⟨_, _, _, _, bm, _, _, _, _, _, _, _, _, _, _, ho, e5⟩
    · cases q2
  · cases h1
def excCB (K : PySem.W.Frag) (D : Addr) : Bool := decide (PySem.W.findIn K (.ref D) "__getattribute__" = some (some (.builtin "BaseException.__getattribute__"))) && (decide (PySem.W.findIn K (.ref D) "__getattr__" = some none) && (decide (PySem.W.subIn K (.ref D) (.type "BaseException") = some true) && (PySem.W.hasDictIn K D &&
  (decide (PySem.W.findIn K (.ref D) "__class__" = some (some (.builtin "object.__class__"))) && (decide (PySem.W.specialIn K (.builtin "object.__class__") "__get__" = some (some (.builtin "getset_descriptor.__get__"))) && (decide (PySem.W.takesIn K (.builtin "object.__class__") = some true) && decide (PySem.W.mroIn K D (.type "object") = some true)))))))
theorem excCB_ok {K : PySem.W.Frag} {D : Addr} (h : excCB K D = true) : ExcC K D := by
  obtain ⟨h1, h⟩ := Bool.and_eq_true_iff.mp h
  obtain ⟨h2, h⟩ := Bool.and_eq_true_iff.mp h
  obtain ⟨h3, h⟩ := Bool.and_eq_true_iff.mp h
  obtain ⟨h4, h⟩ := Bool.and_eq_true_iff.mp h
  obtain ⟨h5, h⟩ := Bool.and_eq_true_iff.mp h
  obtain ⟨h6, h⟩ := Bool.and_eq_true_iff.mp h
  obtain ⟨h7, h8⟩ := Bool.and_eq_true_iff.mp h
  exact ⟨of_decide_eq_true h1, of_decide_eq_true h2, of_decide_eq_true h3, h4, of_decide_eq_true h5, of_decide_eq_true h6, of_decide_eq_true h7, of_decide_eq_true h8⟩
def kitB (K : PySem.W.Frag) (C D : Addr) : Bool := decide (PySem.W.kitOne K (.ref C) (.ref D) = some true)
def initB (K : PySem.W.Frag) (C : Addr) : Bool := decide (PySem.W.findIn K (.ref C) "__init__" = some (some (.ref (He.ma K C "__init__")))) && decide (PySem.W.typeIn K (.ref (He.ma K C "__init__")) = some (.type "function"))

/-! ### a method with super() -/
abbrev SupV : Type := Option (Str × Str × Arguments × FuncBody × Scope × Addr × Addr)
def supW (K : PySem.W.Frag) (C m : Str) : SupV := match K.lookup (He.ma K (He.ga K C) m) with
  | some ⟨_, _, .func fd, _⟩ => some (fd.name, fd.qualname, fd.params, fd.body, fd.scope, fd.globals, fd.builtins)
  | _ => none
def ccOf (K : PySem.W.Frag) (f : Addr) : Addr := match K.lookup f with
  | some ⟨_, _, .func fd, _⟩ => (match fd.closure with
    | [(_, c)] => c
    | _ => 0)
  | _ => 0
def supB (P : Program) (K : PySem.W.Frag) (C m q : Str) (f2 : Addr) : Bool :=
  let f := He.ma K (He.ga K C) m
  let cc := ccOf K f
  (match K.lookup f with
  | some ⟨_, _, .func fd, _⟩ => (match fd.closure with
    | [(n, _)] => n == "__class__"
    | _ => false) && (match fd.defaults with
    | .none => true
    | _ => false) && PySem.W.codeIn K fd.code q && (match fd.code with
    | .ref cda => (match K.lookup cda with
      | some ⟨_, _, .fields vs, _⟩ => (match vs[2]? with
        | some (Value.str file _) => (P.main.file : Str) == file
        | _ => false)
      | _ => false)
    | _ => false)
  | _ => false) && (match K.lookup cc with
  | some ⟨_, _, .cell (some (.ref D)), _⟩ => D == He.ga K C
  | _ => false) && ((PySem.W.clsIn K (He.ga K C)).isSome && (decide (PySem.W.mroIn K (He.ga K C) (.ref (He.ga K C)) = some true) && (decide (PySem.W.ks_superIn K (He.ga K C) (He.ga K C) m = some (some (.ref f2))) &&
    (decide (PySem.W.typeIn K (.ref f2) = some (.type "function")) && (PySem.W.fnIn K f2 && decide (PySem.W.nsIn K cStatics "thirdparty.any" = some none))))))
theorem sup_ok {P : Program} {K : PySem.W.Frag} {C m q x : Str} {f2 : Addr} {params : Arguments} {body : List Stmt} {scope : Scope} (h : supB P K C m q f2 = true) (w : supW K C m = some (x, q, params, .stmts body, scope, mainGlobals, builtinsNs)) :
    (∃ fd, SupD P K x q params body scope (ccOf K (He.ma K (He.ga K C) m)) (He.ma K (He.ga K C) m) fd) ∧ SupC K m (ccOf K (He.ma K (He.ga K C) m)) (He.ga K C) f2 := by
  unfold supB at h
  simp only [Bool.and_eq_true] at h
  obtain ⟨⟨h1, h2⟩, h3, h4, h5, h6, h7, h8⟩ := h
  refine ⟨?_, ?_⟩
  · unfold supW at w
    split at w
    · rename_i oc od fd osl ho
      rw [ho] at h1
      simp only [Bool.and_eq_true] at h1
      obtain ⟨⟨⟨g1, g2⟩, g3⟩, g4⟩ := h1
      obtain ⟨n1, n2, n3, n4, n5, n6, n7, n8, n9, n10, n11, n12, n13, n14, n15⟩ := fd
      have e := Option.some.inj w
      simp only [Prod.mk.injEq] at e
      obtain ⟨e1, e2, e3, e4, e5, e6, e7⟩ := e
      subst e1 e2 e3 e4 e5 e6 e7
      simp only at g1 g2 g3 g4
      split at g1
      · rename_i n c
        have : n = "__class__" := beq_iff_eq.mp g1
        subst this
        have hcc : ccOf K (He.ma K (He.ga K C) m) = c := by unfold ccOf; rw [ho]
        split at g2
        · split at g4
          · rename_i cda
            split at g4
            · rename_i ccl cdd vs ccs ho2
              split at g4
              · rename_i file tf hv
                rw [hcc]
                exact ⟨_, _, _, _, _, _, _, _, _, _, _, _, _, _, _, _, rfl, ho, g3, ho2, hv, g4⟩
              · cases g4
            · cases g4
          · cases g4
        · cases g2
      · cases g1
    · cases w
  · refine ⟨?_, Option.isSome_iff_exists.mp h3, of_decide_eq_true h4, of_decide_eq_true h5, of_decide_eq_true h6, h7, of_decide_eq_true h8⟩
    split at h2
    · rename_i D sl ho
      have := beq_iff_eq.mp h2
      subst this
      exact ⟨_, _, _, ho⟩
    · cases h2
/-! ### keywords all written -/
theorem FunD.kall {K : PySem.W.Frag} {x qual : Str} {params : Arguments} {body : List Stmt} {scope : Scope} {f : Addr} {fd : FuncData} {ps ks : List Str} {n : Nat} (F : FunD K x qual params body scope [] [] f fd)
    (h : ∀ (kV doc pm : Value) (an : Option Addr) (cdv ct : Value) (us ws : List Value), us.length = n → ws.length = ks.length → bindArgs (PySem.W.fnOf x qual params body scope .none kV doc pm an cdv ct) ⟨us, ks.zip ws⟩ = pure (ps.zip (us ++ ws))) :
    KBn K fd ps n ks (fun us ws => us ++ ws) (fun vs zs => vs ++ zs) := by
  obtain ⟨oc, od, dV, kV, doc, pm, an, cdv, ct, osl, rfl, lk, hcd, hD, hK⟩ := F.ex
  rcases hD with ⟨_, rfl⟩ | ⟨e, _⟩
  · exact ⟨fun s us ws X l1 l2 => .of_eq (h kV doc pm an cdv ct us ws l1 l2), fun r1 r2 => r1.append r2⟩
  · exact absurd rfl e
theorem SupD.kall {P : Program} {K : PySem.W.Frag} {x qual : Str} {params : Arguments} {body : List Stmt} {scope : Scope} {cc f : Addr} {fd : FuncData} {ps ks : List Str} {n : Nat} (F : SupD P K x qual params body scope cc f fd)
    (h : ∀ (kV doc pm : Value) (an : Option Addr) (cdv ct : Value) (cc : Addr) (us ws : List Value), us.length = n → ws.length = ks.length → bindArgs (PySem.W.ksFn x qual params body scope .none kV doc pm an cdv ct cc) ⟨us, ks.zip ws⟩ = pure (ps.zip (us ++ ws))) :
    KBn K fd ps n ks (fun us ws => us ++ ws) (fun vs zs => vs ++ zs) := by
  obtain ⟨oc, od, kV, doc, pm, an, cda, ct, osl, ccl, cdd, vsc, ccs, file, tf, rfl, lk, hcd, lkc, hvs, hfile⟩ := F.ex
  exact ⟨fun s us ws X l1 l2 => .of_eq (h kV doc pm an (.ref cda) ct cc us ws l1 l2), fun r1 r2 => r1.append r2⟩
/-! ### the Hook -/
def af (g : Addr → Option Obj) : List Addr := cStatics :: He.asD g 5
structure SaysF (fa : List He.Fa) (fn : List He.DefD) (ex : PySem.W.Frag → Bool) (sw : PySem.W.Frag → List SupV) (sv : List SupV) (K : PySem.W.Frag) : Prop where
  d : He.SaysD fa fn K
  ex : ex K = true
  sw : sw K = sv
abbrev AlF : Type := He.AlD × Bool × List SupV
def obsF (fa : List He.Fa) (fn : List He.DefD) (ex : PySem.W.Frag → Bool) (sw : PySem.W.Frag → List SupV) (g : Addr → Option Obj) : AlF := (He.obsD fa fn (He.frG g (af g)), ex (He.frG g (af g)), sw (He.frG g (af g)))
def hookF (fa : List He.Fa) (fn : List He.DefD) (ex : PySem.W.Frag → Bool) (sw : PySem.W.Frag → List SupV) (sv : List SupV) : PySem.W.Hook where
  α := AlF
  obs := fun s => obsF fa fn ex sw s.heap.get?
  val := fun _ => (He.valD fn, true, sv)
  says := fun _ h => ∃ K : PySem.W.Frag, K.In h ∧ SaysF fa fn ex sw sv K
  of := fun _ _ e => ⟨_, He.frG_in, ⟨congrArg (fun z : AlF => z.1) e, congrArg (fun z : AlF => z.2.1) e, congrArg (fun z : AlF => z.2.2) e⟩⟩
  keeps := fun _ _ _ ⟨K, hK, c⟩ k => ⟨K, PySem.W.Frag.In.keeps hK k, c⟩
/-! ### the law's own def -/
def spNo (sp : Sp) : Sp := fun vs H Q _ => sp vs H Q fun _ _ _ => False
theorem fn_cx0 {P : Program} {w : World} {K : PySem.W.Frag} {mg : Str → Option Value} {base : Heap} {k : Nat} {f : Addr} {fd : FuncData} {ps : List Str} {sp : Sp} (F : FnOk P w K mg base (L2.CX P w) k f fd ps sp) : FnOk P w K mg base CX0 k f fd ps (spNo sp) := by
  refine ⟨fun vs H Q E h => F.len vs H Q _ h, fun A outer s H args us vs Q E hr he hb hv hs => codeAny_mono (F.run A outer s H args us vs Q _ hr he hb hv hs) fun r s' h => ?_⟩
  cases r with
  | ok fl => cases fl <;> exact h
  | error e =>
    obtain ⟨_, _, _, _, _, _, _, _, _, _, _, _, z⟩ := h
    exact z.elim
theorem law_sp {K : PySem.W.Frag} {cm : Wd} {f : Fun'} {H : Hp} {a : Addr} {ns : List Int} {ss : List S} (hS : SqL K H a (ns.map V.int)) (h : f [.val (.scr (ns.map D.int))] = some (.ret (.val (.bl true)) ss)) : spNo (spOf K cm 1 f) [.ref a] H (fun v _ => v = .bl true) fun _ _ _ => False := by
  refine ⟨rfl, H, _, _, ⟨rfl, fun _ _ h => h, fun i s h1 h2 => ?_, fun i j b h1 h2 => ?_⟩, h, fun v F' H' p x => ?_⟩
  · cases i with
    | zero => cases h1; exact ⟨_, rfl, .val (.scr hS (RepL.of_ints ns))⟩
    | succ i => simp at h1
  · obtain ⟨s, q1, q2, _⟩ := h1
    cases i with
    | zero => cases q1; cases q2
    | succ i => simp at q1
  · exact rep_bl x.1.of_val
end L2.Fn
set_option maxRecDepth 100000
set_option maxHeartbeats 4000000
/-! FnHk: the Hook over a list of addresses that is told. -/
namespace L2.Fn
open PySem PySem.Spec PyProof.Rows L2
def obsL (as : List Addr) (fa : List He.Fa) (fn : List He.DefD) (ex : PySem.W.Frag → Bool) (sw : PySem.W.Frag → List SupV) (g : Addr → Option Obj) : AlF := (fun K : PySem.W.Frag => (He.obsD fa fn K, ex K, sw K)) (He.frG g as)
def hookL (as : List Addr) (fa : List He.Fa) (fn : List He.DefD) (ex : PySem.W.Frag → Bool) (sw : PySem.W.Frag → List SupV) (sv : List SupV) : PySem.W.Hook where
  α := AlF
  obs := fun s => obsL as fa fn ex sw s.heap.get?
  val := fun _ => (He.valD fn, true, sv)
  says := fun _ h => ∃ K : PySem.W.Frag, K.In h ∧ SaysF fa fn ex sw sv K
  of := fun _ _ e => ⟨_, He.frG_in, ⟨congrArg (fun z : AlF => z.1) e, congrArg (fun z : AlF => z.2.1) e, congrArg (fun z : AlF => z.2.2) e⟩⟩
  keeps := fun _ _ _ ⟨K, hK, c⟩ k => ⟨K, PySem.W.Frag.In.keeps hK k, c⟩
theorem obsL_eq {as : List Addr} {fa : List He.Fa} {fn : List He.DefD} {ex : PySem.W.Frag → Bool} {sw : PySem.W.Frag → List SupV} {sv : List SupV} {g : Addr → Option Obj} {s : Shared} (h : ∀ a, g a = s.heap.get? a) : obsL as fa fn ex sw g = (hookL as fa fn ex sw sv).obs s := by
  have e : g = s.heap.get? := funext h
  rw [e] <;> rfl
end L2.Fn
set_option maxRecDepth 100000
set_option maxHeartbeats 4000000
/-! FnZ: several except clauses that name the error. -/
namespace L2.Fn
open PySem PySem.Spec PyProof.Rows L2
/-- a clause: the class that it names, its suite's reading -/
abbrev Clz := Value × (Addr → Value → Option Addr → TS)
def unE (i : Nat) (D : Ends) : Ends := { nx := fun τ G => D.nx (τ.set i none) G, rt := D.rt, bk := fun τ G => D.bk (τ.set i none) G, ct := fun τ G => D.ct (τ.set i none) G }
/-- what the clauses want of an error that leaves the body -/
def wAsL (K : PySem.W.Frag) (i : Nat) (W0 : WX) (D : Ends) : List Clz → WX
  | [] => W0
  | k :: r => fun cl d σ H => ∃ b, PySem.W.exmOne K cl k.1 = some b ∧ (b = true → ∀ p, H p = none → k.2 p cl d (unE i D) (σ.set i (some (.ref p))) H) ∧ (b = false → wAsL K i W0 D r cl d σ H)
inductive ClzOk (X : Cx) (nm : Str) : List ExceptHandler → List Clz → Prop
  | nil : ClzOk X nm [] []
  | cons {x : Str} {k : Clz} {b0 : Stmt} {sts : List Stmt} {q1 q2 : Pos} {hr : List ExceptHandler} {r : List Clz} (hc : Names X x k.1)
      (hz : ∀ (p : Addr) (oe : Obj) (cl : Value) (d : Option Addr) (pn : List (Addr × Obj)), Zc cl d oe → (∃ vs, oe.data = .fields vs) → PSs (X.suite p ((p, oe) :: pn)) (b0 :: sts) (k.2 p cl d)) (hr' : ClzOk X nm hr r) :
      ClzOk X nm (.ExceptHandler (some (.Name x q1)) (some nm) (b0 :: sts) q2 :: hr) (k :: r)
section
variable {X : Cx} {nm : Str} {i : Nat} {body : List Stmt} {h0 : ExceptHandler} {hr : List ExceptHandler} {ks : List Clz} {pos : Pos} {tb : WX → TS} {W0 : WX}
theorem ps_try_asL (hs : X.stack = X.env :: X.outer) (hf : X.env.frame = some X.env.locals) (hN : X.N.Nodup) (hi : X.N[i]? = some nm) (hln : X.env.kindOf nm = some .local) (tk : Takes X W0)
    (hb : ∀ (W : WX) (pn : List (Addr × Obj)) (xe : Value → Shared → Prop), Takes (X.tr pn xe) W → PassesOwn (model X.prog X.w) X.A X.env xe → PSs (X.tr pn xe) body (tb W))
    (hh : ClzOk X nm (h0 :: hr) ks) : PS X (.Try body (h0 :: hr) [] [] pos) (fun D σ H => tb (wAsL X.K i W0 D ks) D σ H) := by
  constructor
  intro pins st0 σ0 H0 D I0 z0
  have ok := I0.ok
  have frs_ : X.A.frames = some (X.env :: X.outer) := by rw [ok.frames, hs]
  have loc_ : Loc X.env.scope nm := .inl hln
  refine wpAny_Try_except ?_
  let after : Value → Shared → Prop := fun u t1 => wpAny (model X.prog X.w) X.A (noteFrame u X.env) (fun _ t2 => wpAny (model X.prog X.w) X.A (setFlight u none) (fun _ t3 =>
    wpAny (model X.prog X.w) X.A (handleBy u X.env (h0 :: hr)) (SP X pins D) X.xe t3) X.xe t2) X.xe t1
  have takes_ : Takes (X.tr (X.pn ++ pins) after) (wAsL X.K i W0 D ks) := by
    intro u t1 xx
    obtain ⟨p, B, tI, pins', σ1, H1, cl, d, rfl, Ja, nb, up, sky, na, os, ag, w⟩ := xx
    have Jb : Inv X pins σ1 H1 tI := Ja.ofTry ok
    have sky2 : Sky B (X.env :: X.outer) p (Zc cl d) X.env.locals t1.heap := by rw [← hs]; exact sky
    show wpAny (model X.prog X.w) X.A (noteFrame (.ref p) X.env) _ _ _
    refine Sky.land Zc.steady frs_ hf sky2 fun g3 l3 u3 => ?_
    have Jc : Inv X pins σ1 H1 { t1 with heap := g3 } := Jb.landed nb l3.1 (up.trans u3) os ag
    obtain ⟨o3, vs3, at3, z3, d3⟩ := l3.there
    have nofr : p ∉ frs (X.env :: X.outer) := fun hm => by
      obtain ⟨_, o', e', no⟩ := l3.2.2.1.mem hm
      rw [at3] at e'
      cases e'
      exact no _ d3
    have nloc : p ≠ X.env.locals := fun z => nofr (List.mem_filterMap.mpr ⟨X.env, List.mem_cons_self, by rw [hf, z]⟩)
    have nfs : p ∉ X.fs := fun hm => by
      obtain ⟨e, he, q⟩ := List.mem_filterMap.mp hm
      exact nofr (List.mem_filterMap.mpr ⟨e, List.mem_cons_of_mem _ he, q⟩)
    have S3 := Jc.suite at3 d3 na nloc nfs
    have walk : ∀ {hr' : List ExceptHandler} {ks' : List Clz}, ClzOk X nm hr' ks' → wAsL X.K i W0 D ks' cl d σ1 H1 → wpAny (model X.prog X.w) X.A (handleBy (.ref p) X.env hr') (SP X pins D) X.xe { t1 with heap := g3 } := by
      intro hr' ks' hk
      induction hk with
      | nil =>
        intro w
        refine wpAny_handleBy_nil ?_
        obtain ⟨m1, m2, m3, o4, vs4, T4, oT4, ts4, at4, z4, d4, f4, r4⟩ := id l3
        unfold PySem.passOn
        refine wpAny_bind (wpAny_field at4 d4 f4 ?_)
        rw [if_neg (by simp : ¬ ((Value.ref T4 == Value.none) = true))]
        have last : wpAny (model X.prog X.w) X.A (setFlight (.ref p) X.env.frame) (fun _ t4 => wpAny (model X.prog X.w) X.A (throw (.ref p) : Sem Flow) (SP X pins D) X.xe t4) X.xe { t1 with heap := g3 } := by
          rw [hf]
          exact HandSPX.setFlight_upZ l3 fun g4 hg4 u4 => wpAny_throw (tk _ _ ⟨p, B, tI, pins, σ1, H1, cl, d, rfl, Jb, nb, (up.trans u3).trans u4, .inr (.inr (by rw [hs]; exact hg4)), na, os, ag, w⟩)
        first
          | exact wpAny_bind (wpAny_pure (wpAny_bind last))
          | exact wpAny_bind last
      | @cons x k b0 sts q1 q2 hr2 r2 hc hz _ ih =>
        rintro ⟨b, hb1, yes, no⟩
        refine wpAny_handleBy_cons (codeAny_handlers_test ?_) (by intro q; cases q)
        have looks : PySem.W.Looks (model X.prog X.w) g3 (typeOf (.ref p)) cl := fun _ _ _ _ k q => wpAny_typeOf_ref (k _ _ at3) (by rw [z3.1]; exact q)
        have names : ∀ {Q E : Value → Shared → Prop}, Q k.1 { t1 with heap := g3 } → wpAny (model X.prog X.w) (X.A.mark (some (.ref p))) (eval (.Name x q1) X.env) Q E { t1 with heap := g3 } := by
          intro Q E q
          obtain ⟨hg, hdb, hm | ⟨hm, hv, hnn⟩⟩ := hc
          · exact ld_glob (X := X.suite p ((p, o3) :: (X.pn ++ pins))) S3 hg hm q hdb
          · exact ld_blt (X := X.suite p ((p, o3) :: (X.pn ++ pins))) S3 hg hm hv q hnn hdb
        refine names ((PySem.W.exm_one (M := model X.prog X.w) Jc.kIn looks hb1).here ?_)
        cases b with
        | false => exact ih (no rfl)
        | true =>
          refine codeAny_handlers_suite_as ?_
          refine HandSPX.lands_againZ l3 fun g4 l4 u4 => ?_
          have Jd : Inv X pins σ1 H1 { t1 with heap := g4 } := Jb.landed nb l4.1 ((up.trans u3).trans u4) os ag
          obtain ⟨o4, vs4, at4, z4, d4⟩ := l4.there
          refine store_ok (X := X.suite p ((p, o4) :: (X.pn ++ pins))) (v := .ref p) (Jd.suite at4 d4 na nloc nfs) hN hi loc_ rfl (fun t5 S5 => ?_) (.inr hln)
          refine wpAny_mono ((hz p o4 cl d (X.pn ++ pins) z4 ⟨_, d4⟩).run [] t5 _ H1 _ S5 (yes rfl p na)) (fun fl t6 sp => ?_) (fun _ _ z => False.elim z)
          have done : ∀ {σ6 : St} {H6 : Hp} {Q : Shared → Prop}, Inv (X.suite p ((p, o4) :: (X.pn ++ pins))) [] σ6 H6 t6 → (∀ t7, Inv X pins (σ6.set i none) H6 t7 → Q t7) →
              wpAny (model X.prog X.w) X.A (do bindName X.env nm .none; unbindBehindTheSuite X.env nm q2) (fun _ t7 => Q t7) X.xe t6 := fun S6 q => gone_ok (S6.unsuite ok) hN hi hln q
          cases fl with
          | next => obtain ⟨σ6, H6, S6, q6⟩ := sp; exact done S6 fun t7 J7 => ⟨_, _, J7, q6⟩
          | brk => obtain ⟨σ6, H6, S6, q6⟩ := sp; exact done S6 fun t7 J7 => ⟨_, _, J7, q6⟩
          | cont => obtain ⟨σ6, H6, S6, q6⟩ := sp; exact done S6 fun t7 J7 => ⟨_, _, J7, q6⟩
          | ret u => obtain ⟨v6, σ6, H6, S6, r6, q6⟩ := sp; exact done S6 fun t7 J7 => ⟨_, _, _, J7, r6, q6⟩
    exact walk hh w
  refine wpAny_mono ((hb (wAsL X.K i W0 D ks) (X.pn ++ pins) after takes_ PassesOwn.looking).run [] st0 σ0 H0 D (I0.toTry _) z0) (fun fl t1 sp => ?_) (fun _ _ z => z)
  cases fl with
  | next => obtain ⟨σ1, H1, J1, q⟩ := sp; exact wpAny_execs_nil ⟨σ1, H1, J1.ofTry ok, q⟩
  | brk => obtain ⟨σ1, H1, J1, q⟩ := sp; exact ⟨σ1, H1, J1.ofTry ok, q⟩
  | cont => obtain ⟨σ1, H1, J1, q⟩ := sp; exact ⟨σ1, H1, J1.ofTry ok, q⟩
  | ret u => obtain ⟨v, σ1, H1, J1, r, q⟩ := sp; exact ⟨v, σ1, H1, J1.ofTry ok, r, q⟩
end
/-- a handler: which classes it catches, its suite -/
abbrev Hdl := (Str → Option Bool) × MS
/-- a suite's end, seen from outside -/
def hEnd (i : Nat) : Option Out → Option Out
  | some (.nx ρ2) => if (ρ2.set i .no).all notErr then some (.nx (ρ2.set i .no)) else none
  | some (.bk ρ2) => if (ρ2.set i .no).all notErr then some (.bk (ρ2.set i .no)) else none
  | some (.ct ρ2) => if (ρ2.set i .no).all notErr then some (.ct (ρ2.set i .no)) else none
  | some (.rt s ρ2) => if (ρ2.set i .no).all notErr && notErr s then some (.rt s (ρ2.set i .no)) else none
  | _ => none
def sHand (i : Nat) (C : Str) (fs : List (Str × D)) (ρ1 : Slots) : List Hdl → Option Out
  | [] => some (.ex C fs ρ1)
  | h :: r => match h.1 C with
    | some true => if i < ρ1.length then hEnd i (h.2 (ρ1.set i (.err C fs))) else none
    | some false => sHand i C fs ρ1 r
    | none => none
def sTryL (i : Nat) (mb : MS) (hs : List Hdl) : MS := fun ρ => match mb ρ with
  | some (.ex C fs ρ1) => if ρ1.all notErr then sHand i C fs ρ1 hs else none
  | r => r
inductive HzOk (X : Cx) (cm : Wd) (P : Nat → Bool) (nm : Str) : List ExceptHandler → List Clz → List Hdl → Prop
  | nil : HzOk X cm P nm [] [] []
  | cons {x : Str} {c : Value} {ts : Addr → Value → Option Addr → TS} {sub : Str → Option Bool} {ms : MS} {b0 : Stmt} {sts : List Stmt} {q1 q2 : Pos} {hr : List ExceptHandler} {r : List Clz} {hs : List Hdl} (hc : Names X x c) (hsub : ExmOk X.K cm sub c)
      (hz : ∀ (p : Addr) (oe : Obj) (cl : Value) (d : Option Addr) (pn : List (Addr × Obj)), Zc cl d oe → (∃ vs, oe.data = .fields vs) → SSE (X.suite p ((p, oe) :: pn)) (errWd X.K cm p cl d) WF P (b0 :: sts) (ts p cl d) ms) (hr' : HzOk X cm P nm hr r hs) :
      HzOk X cm P nm (.ExceptHandler (some (.Name x q1)) (some nm) (b0 :: sts) q2 :: hr) ((c, ts) :: r) ((sub, ms) :: hs)
section
variable {X : Cx} {cm : Wd} {W : WX} {P : Nat → Bool} {nm : Str} {i : Nat} {body : List Stmt} {h0 : ExceptHandler} {hr : List ExceptHandler} {ks : List Clz} {hs : List Hdl} {pos : Pos} {tb : WX → TS} {mb : MS}
theorem HzOk.clz (h : HzOk X cm P nm hr ks hs) : ClzOk X nm hr ks := by
  induction h with
  | nil => exact .nil
  | cons hc _ hz _ ih => exact .cons hc (fun p oe cl d pn z1 z2 => (hz p oe cl d pn z1 z2).pss) ih
/-- the clauses, one after the other -/
theorem sim_hand {F : Hp} {σ : St} {H : Hp} {ρ ρ1 : Slots} {De : Ends} {C : Str} {fs : List (Str × D)} {d : Option Addr} {F1 : Hp} {σ1 : St} {H1 : Hp} {z : Out} (hP : P i = false) (hk : HzOk X cm P nm hr ks hs) (p1 : Post X.K cm P F σ H ρ F1 σ1 H1 ρ1) (hx : ExR X.K cm F1 d fs) (hne : NoErr ρ1)
    (e : sHand i C fs ρ1 hs = some z) (hp : SPost X.K cm W P F σ H ρ De z) : wAsL X.K i W De ks (.ref (cm C)) d σ1 H1 := by
  induction hk with
  | nil =>
    cases e
    exact hp d F1 σ1 H1 p1 hx
  | @cons x c ts sub ms b0 sts q1 q2 hr r hs hc hsub hz hr' ih =>
    unfold sHand at e
    dsimp only at e
    cases hsb : sub C with
    | none => rw [hsb] at e; cases e
    | some b =>
      rw [hsb] at e
      refine ⟨b, hsub C b hsb, fun eb p hpn => ?_, fun eb => ?_⟩
      · subst eb
        dsimp only at e
        split at e
        · rename_i hi1
          have su := (hz p { cls := .ref (cm C), dict := d, data := .fields #[] } (.ref (cm C)) d [] ⟨rfl, rfl⟩ ⟨_, rfl⟩).sim
          obtain ⟨R2, ow2⟩ := rel_err (q := p) (cls := .ref (cm C)) p1.rel hne hi1 hx rfl
          have back : ∀ {F' : Hp} {σ' : St} {H' : Hp} {ρ' : Slots}, (ρ'.set i .no).all notErr = true → Post X.K (errWd X.K cm p (.ref (cm C)) d) P F1 (σ1.set i (some (.ref p))) H1 (ρ1.set i (.err C fs)) F' σ' H' ρ' → Post X.K cm P F σ H ρ F' (σ'.set i none) H' (ρ'.set i .no) := by
            intro F' σ' H' ρ' hn p2
            refine p1.trans ⟨Rel.wd (cm := errWd X.K cm p (.ref (cm C)) d) rfl (rel_no p2.rel) (noErr_of hn), p2.mono, fun b hb => (p2.lim b hb).elim .inl fun z => z.elim (fun z => .inr (.inl (ow2 b z))) fun z => .inr (.inr z), fun b o hb n => p2.keep b o hb fun z => n (ow2 b z), fun b hb => ?_, fun k hk => ?_, ?_⟩
            · obtain ⟨j, _, z⟩ := owns_no hb
              rcases p2.new b ⟨j, z⟩ with z | z
              · exact .inl (ow2 b z)
              · exact .inr z
            · have hk' : k ≠ i := fun z => by rw [z, hP] at hk; cases hk
              rw [List.getElem?_set_ne (Ne.symm hk'), p2.pin k hk, List.getElem?_set_ne (Ne.symm hk')]
            · rw [List.length_set, p2.sl, List.length_set]
          cases q2 : ms (ρ1.set i (.err C fs)) with
          | none => rw [q2] at e; cases e
          | some z2 =>
            rw [q2] at e
            refine su _ z2 q2 F1 _ H1 _ R2 ?_
            cases z2 with
            | nx ρ2 =>
              simp only [hEnd] at e
              split at e
              · rename_i hn; cases e; exact fun F' σ' H' p2 => hp F' _ H' (back hn p2)
              · cases e
            | bk ρ2 =>
              simp only [hEnd] at e
              split at e
              · rename_i hn; cases e; exact fun F' σ' H' p2 => hp F' _ H' (back hn p2)
              · cases e
            | ct ρ2 =>
              simp only [hEnd] at e
              split at e
              · rename_i hn; cases e; exact fun F' σ' H' p2 => hp F' _ H' (back hn p2)
              · cases e
            | rt s ρ2 =>
              simp only [hEnd] at e
              split at e
              · rename_i hn
                cases e
                obtain ⟨hn1, hn2⟩ := Bool.and_eq_true_iff.mp hn
                refine fun v F' σ' H' p2 x => hp v F' _ H' (back hn1 p2) ⟨RepS.wd (K := X.K) (cm := errWd X.K cm p (.ref (cm C)) d) (cm' := cm) rfl x.1 (fun C' fs' ec => by rw [ec] at hn2; cases hn2), fun b eb o => ⟨fun z => ?_, ?_⟩⟩
                · obtain ⟨j, _, z⟩ := owns_no z
                  exact (x.2 b eb o).1 ⟨j, z⟩
                · rcases (x.2 b eb o).2 with z | z
                  · exact p1.new b (ow2 b z)
                  · exact p1.gone z
              · cases e
            | ex C' fs' ρ2 => cases e
        · cases e
      · subst eb
        exact ih e
theorem se_tryL (hs' : X.stack = X.env :: X.outer) (hf : X.env.frame = some X.env.locals) (hN : X.N.Nodup) (hi : X.N[i]? = some nm) (hln : X.env.kindOf nm = some .local) (tk : Takes X W)
    (hb : ∀ (W : WX) (pn : List (Addr × Obj)) (xe : Value → Shared → Prop), Takes (X.tr pn xe) W → PassesOwn (model X.prog X.w) X.A X.env xe → SSE (X.tr pn xe) cm W P body (tb W) mb)
    (hk : HzOk X cm P nm (h0 :: hr) ks hs) (hP : P i = false := by rfl) :
    SE X cm W P (.Try body (h0 :: hr) [] [] pos) (fun De σ H => tb (wAsL X.K i W De ks) De σ H) (sTryL i mb hs) := by
  refine ⟨ps_try_asL hs' hf hN hi hln tk (fun W pn xe t p => (hb W pn xe t p).pss) hk.clz, fun ρ r e F σ H De hr hp => ?_⟩
  have tk0 : Takes (X.tr [] fun e s1 => wpAny (model X.prog X.w) X.A (noteFrame e X.env) (fun _ s2 => wpAny (model X.prog X.w) X.A (setFlight e none) (fun _ _ => True) (fun _ _ => True) s2) (fun _ _ => True) s1) (wAsL X.K i W De ks) := by
    rintro u s' ⟨a, B, sI, pins', σ', H', cls, d, rfl, J', nb, up, sky, na, os, ag, w⟩
    have hfr : X.A.frames = some (X.env :: X.outer) := by rw [← hs']; exact J'.ok.frames
    have sky' : Sky B (X.env :: X.outer) a (Zc cls d) X.env.locals s'.heap := by rw [← hs']; exact sky
    exact Sky.land (Q := fun _ _ => True) Zc.steady hfr hf sky' fun _ _ _ => True.intro
  have sb := (hb (wAsL X.K i W De ks) [] _ tk0 PassesOwn.looking).sim
  unfold sTryL at e
  cases q : mb ρ with
  | none => rw [q] at e; cases e
  | some z =>
    rw [q] at e
    refine sb ρ z q F σ H De hr ?_
    cases z with
    | nx ρ1 => cases e; exact hp
    | bk ρ1 => cases e; exact hp
    | ct ρ1 => cases e; exact hp
    | rt s ρ1 => cases e; exact hp
    | ex C fs ρ1 =>
      intro d F1 σ1 H1 p1 hx
      simp only at e
      split at e
      · rename_i hne
        exact sim_hand hP hk p1 hx (noErr_of hne) e hp
      · cases e
end
/-! ### str(b), max(xs), min(xs), xs.index(y) -/
section
variable {X : Cx} {cm : Wd} {W : WX} {P : Nat → Bool} {e o : Expr} {te to : TE} {me mo : ME D} {pos : Pos}
def rStrB : List V → Hp → VK → Prop := fun xs H Q => ∃ b : Bool, xs = [.bl b] ∧ Q (.str (if b then "True" else "False")) H
def gStrB : D → Option S
  | .bl b => some (.val (.str (if b then "True" else "False")))
  | _ => none
/-- the greatest, the least of some ints -/
def topI (ns : List Int) : Int := (ns.find? fun m => ns.all fun y => decide (y ≤ m)).getD 0
def lowI (ns : List Int) : Int := (ns.find? fun m => ns.all fun y => decide (m ≤ y)).getD 0
def gExt (f : List Int → Int) : D → Option S
  | .lst xs => (intsD xs).bind fun ns => if 0 < ns.length then some (.val (.int (f ns))) else none
  | _ => none
abbrev gMaxL := gExt topI
abbrev gMinL := gExt lowI
def gIndex : D → D → Option D := fun x y => match x, flatD y with
  | .lst xs, some v => (flatsD xs).bind fun ys => (ys.findIdx? fun z => eqV z v).map fun j => D.int j
  | _, _ => none
/-- o.index(e), o a list -/
def mIndex (mo me : ME D) : ME D := mo.bnd fun x => match x with
  | .lst xs => me.bnd fun y => opt (gIndex (.lst xs) y)
  | _ => fun _ => none
end
def kinB (K : PySem.W.Frag) (C D : Addr) : Bool := decide (PySem.W.kitOne K (.ref C) (.ref D) = some false)
end L2.Fn
set_option maxRecDepth 100000
set_option maxHeartbeats 4000000
/-! FnV: a name's own list walked, asked for its type, and it stays the name's own. -/
namespace L2.Fn
open PySem PySem.Spec PyProof.Rows L2
def lcNL (j : Nat) (g : MG) (tt : ME Bool) (te : ME D) (vs : List Nat) : Nat → Nat → List D → Slots → Option (List D × Slots)
  | 0, _, _, _ => none
  | f + 1, k, acc, ρ => match ρ[j]? with
    | some (.lst xs) => if xs.length ≤ sizeLine then (match xs[k]? with
      | none => some (acc, ρ)
      | some d => match g (.val d) (wipeE ρ vs) with
        | none => none
        | some ρ1 => match tt ρ1 with
          | some (.ok true ρ2) => (match te ρ2 with
            | some (.ok y ρ3) => lcNL j g tt te vs f (k + 1) (acc ++ [y]) (wipeE ρ3 vs)
            | _ => none)
          | some (.ok false ρ2) => lcNL j g tt te vs f (k + 1) acc (wipeE ρ2 vs)
          | _ => none) else none
    | _ => none
/-- the list at a slot, its length -/
def lenAt (ρ : Slots) (j : Nat) : Nat := match ρ[j]? with
  | some (.lst xs) => xs.length
  | _ => 0
def mLcLive (j : Nat) (g : MG) (tt : ME Bool) (te : ME D) (vs : List Nat) : ME S := fun ρ => match lcNL j g tt te vs (lenAt ρ j + 1) 0 [] ρ with
  | some (ys, ρ') => some (.ok (.lst ys) ρ')
  | none => none
def mLcN (j : Nat) (g : MG) (tt : ME Bool) (te : ME D) (vs : List Nat) : ME S := fun ρ => match ρ[j]? with
  | some (.val _) => mLc (mItems (mVar j)) g tt te vs ρ
  | _ => mLcLive j g tt te vs ρ
section
variable {K : PySem.W.Frag} {cm : Wd} {W : WX}
end
section
variable {X : Cx} {cm : Wd} {W : WX} {g : TG} {tt : TT} {te : TE} {j : Nat} {mg : MG} {mt : ME Bool} {me : ME D} {elt tgt : Expr} {ifs : List Expr} {scope : Scope} {own : List (Str × Nat)} {x : Str} {px pos : Pos}
end
/-! ### for over a parameter's list, which stays its own -/
def sLoopN (j : Nat) (g : MG) (b : MS) : Nat → Nat → MS
  | 0, _ => fun _ => none
  | f + 1, k => fun ρ => match ρ[j]? with
    | some (.lst xs) => (match xs[k]? with
      | none => some (.nx ρ)
      | some d => match g (.val d) ρ with
        | none => none
        | some ρ1 => match b ρ1 with
          | some (.nx ρ') => sLoopN j g b f (k + 1) ρ'
          | some (.ct ρ') => sLoopN j g b f (k + 1) ρ'
          | some (.bk ρ') => some (.nx ρ')
          | r => r)
    | _ => none
def sForN (j : Nat) (g : MG) (b : MS) : MS := fun ρ => match ρ[j]? with
  | some (.val d) => (match itemsD d with
    | some ds => sLoop g b ds ρ
    | none => none)
  | _ => sLoopN j g b (lenAt ρ j + 1) 0 ρ
section
variable {X : Cx} {cm : Wd} {W : WX} {P : Nat → Bool} {tg : Expr} {body : List Stmt} {g : TG} {tb : TS} {j : Nat} {mg : MG} {mb : MS} {x : Str} {px pos : Pos}
end
/-! ### isinstance(name, T), the name's own list looked at -/
def mIsTN (f : String → Bool) (j : Nat) : ME S := fun ρ => match ρ[j]? with
  | some (.val d) => opt (gIsT f d) ρ
  | some (.lst _) => some (.ok (.val (.bl (f "list"))) ρ)
  | _ => none
section
variable {X : Cx} {cm : Wd} {W : WX} {j : Nat} {x : Str} {px p p2 pos : Pos}
end
end L2.Fn
set_option maxRecDepth 100000
set_option maxHeartbeats 4000000
/-! FnT: methods of own classes, called on instances. -/
namespace L2.Fn
open PySem PySem.Spec PyProof.Rows L2
/-- a method: of the class C, of n parameters with self -/
structure Met (P : Program) (w : World) (K : PySem.W.Frag) (mg : Str → Option Value) (base : Heap) (cm : Wd) (C m : Str) (k n : Nat) (f : Fun') : Prop where
  cls : Cls K (cm C)
  ok : ∃ k' g fd ps, k' ≤ k ∧ Meth K (cm C) m g ∧ FnOk P w K mg base (L2.CX P w) k' g fd ps (spOf K cm n f) ∧ Binds K fd ps []
theorem met_all {P : Program} {w : World} {K : PySem.W.Frag} {mg : Str → Option Value} {base : Heap} {cm : Wd} {tbl : List (Str × Fun')} {m : Str} {k n : Nat} (h : ∀ q ∈ tbl, Met P w K mg base cm q.1 m k n q.2) : ∀ C f, tbl.lookup C = some f → Met P w K mg base cm C m k n f := by
  induction tbl with
  | nil => intro C f e; cases e
  | cons q tbl ih =>
    intro C f e
    rw [List.lookup_cons] at e
    split at e
    · rename_i hq
      cases e
      rw [beq_iff_eq.mp hq]
      exact h q List.mem_cons_self
    · exact ih (fun r hr => h r (List.mem_cons_of_mem _ hr)) C f e
def tMethT (K : PySem.W.Frag) (cm : Wd) (tbl : List (Str × Fun')) (m : Str) (n : Nat) (to : TE) (t : TA) (W : WX) : TE := fun σ H Q => to σ H fun x H1 => ∃ (a : Addr) (C : Str) (dx : Addr) (fs : List (Str × V)) (f : Fun'), x = .ref a ∧ H1 a = some (.ins (cm C) dx fs) ∧ fs.lookup m = none ∧ tbl.lookup C = some f ∧ t σ H1 fun vs H2 => spOf K cm n f (.ref a :: vs) H2 Q (WE W σ)
def mMeth (tbl : List (Str × Fun')) (m : Str) (mo : ME D) (ms : ME (List Ar)) : ME S := mo.bnd fun o => match o with
  | .obj C fs => (match tbl.lookup C, fs.lookup m with
    | some f, none => mCall f [] (aCons (ret o) ms)
    | _, _ => fun _ => none)
  | _ => fun _ => none
section
variable {X : Cx} {cm : Wd} {W : WX} {o e : Expr} {es : List Expr} {to : TE} {t : TA} {mo : ME D} {ms : ME (List Ar)} {tbl : List (Str × Fun')} {m : Str} {k n : Nat} {apos pos : Pos} {pl : Sem Bool}
end
section
variable {X : Cx} {cm : Wd} {W : WX} {o e : Expr} {es : List Expr} {to : TE} {t : TA} {mo : ME D} {ms : ME (List Ar)} {tbl : List (Str × Fun')} {m : Str} {k n : Nat} {apos pos : Pos} {pl : Sem Bool}
end
end L2.Fn
set_option maxRecDepth 100000
set_option maxHeartbeats 4000000
/-! FnS: a range as a value, walked. -/
namespace L2.Fn
open PySem PySem.Spec PyProof.Rows L2
section
variable {X : Cx} {cm : Wd} {W : WX} {tg e : Expr} {te : TE} {m : ME D}
def rRng1 : List V → Hp → VK → Prop := fun vs H Q => ∃ j, vs = [V.int j] ∧ ∀ p, H p = none → Q (.ref p) (upd H p (.rng 0 j))
/-- range(n), kept -/
def gRng1 : D → Option S
  | .int j => some (.val (.rng 0 j))
  | _ => none
def iRngV (tl : TE) : TI := fun σ H R => tl σ H fun x H1 => ∃ (a : Addr) (lo hi : Int), x = .ref a ∧ H1 a = some (.rng lo hi) ∧ (-(2 ^ 62) ≤ lo ∧ lo < 2 ^ 62 ∧ -(2 ^ 62) ≤ hi ∧ hi < 2 ^ 62) ∧ R (Itr lo (hi - lo).toNat) H1
def itemsR : D → Option (List D)
  | .rng lo hi => if (-(2 ^ 62) ≤ lo ∧ lo < 2 ^ 62 ∧ -(2 ^ 62) ≤ hi ∧ hi < 2 ^ 62) then some (rangeD lo (hi - lo).toNat) else none
  | _ => none
def mItemsR (m : ME D) : ME (List D) := m.bnd fun d => opt (itemsR d)
end
section
variable {X : Cx} {cm : Wd} {W : WX} {tg e : Expr} {te : TE} {m : ME D}
end
end L2.Fn
set_option maxRecDepth 100000
set_option maxHeartbeats 4000000
/-! FnN: chained comparisons; raise of a class without own __init__. -/
namespace L2.Fn
open PySem PySem.Spec PyProof.Rows L2
section
variable {X : Cx} {cm : Wd} {W : WX} {P : Nat → Bool} {e a b c : Expr} {t ta tb tc : TE} {m ma mb mc : ME D} {pos p p' : Pos}
/-- what raise C() asks of C -/
structure ErrP0 (K : PySem.W.Frag) (mg : Str → Option Value) (cm : Wd) (C : Str) : Prop where
  q : ∃ N I bm B, ExcBaseFacts B N I bm ∧ PySem.W.excIn K (cm C) bm N = true
  k : PySem.W.keepIn K (.ref (cm C)) = true
  s : PySem.W.subIn K (.ref (cm C)) (.type "BaseException") = some true
  t : PySem.W.typeIn K (.ref (cm C)) = some (.type "type")
  g : mg C = some (.ref (cm C))
def sRaise0 (C : Str) : MS := fun ρ => some (.ex C [] ρ)
def exc0B (K : PySem.W.Frag) (C : Addr) : Bool := PySem.W.excIn K C [.type "ValueError", .type "Exception", .type "BaseException", .type "object"] "ValueError.__new__" && (PySem.W.keepIn K (.ref C) && (decide (PySem.W.subIn K (.ref C) (.type "BaseException") = some true) && decide (PySem.W.typeIn K (.ref C) = some (.type "type"))))
end
end L2.Fn
set_option maxRecDepth 100000
set_option maxHeartbeats 4000000
/-! FnO: own operators: a - parts. -/
namespace L2.Fn
open PySem PySem.Spec PyProof.Rows L2
section
open PySem.W
end
/-- a method that is an operator of the class -/
structure MetO (P : Program) (w : World) (K : PySem.W.Frag) (mg : Str → Option Value) (base : Heap) (cm : Wd) (C m : Str) (k n : Nat) (f : Fun') : Prop extends Met P w K mg base cm C m k n f where
  sf : PySem.W.selfFirst K (cm C) = true
/-- what may stand behind -: a list, a tuple, None -/
inductive TyR (H : Hp) : V → String → Prop where
  | non : TyR H .non "NoneType"
  | lst {a : Addr} {xs : List V} (e : H a = some (.lst xs)) : TyR H (.ref a) "list"
  | tup {a : Addr} {xs : List V} (e : H a = some (.tup xs)) : TyR H (.ref a) "tuple"
def tSubT (K : PySem.W.Frag) (cm : Wd) (tbl : List (Str × Fun')) (ta tb : TE) (W : WX) : TE := fun σ H Q => ta σ H fun x H1 => tb σ H1 fun y H2 => ∃ (a : Addr) (C : Str) (dx : Addr) (fs : List (Str × V)) (f : Fun') (T : String), x = .ref a ∧ H2 a = some (.ins (cm C) dx fs) ∧ tbl.lookup C = some f ∧ TyR H2 y T ∧ spOf K cm 2 f [.ref a, y] H2 Q (WE W σ)
def mSubT (tbl : List (Str × Fun')) (ma mb : ME D) : ME S := ma.bnd fun o => mb.bnd fun y => match o, y with
  | .obj C fs, .tup xs => (match tbl.lookup C with
    | some f => mCall f [] (aCons (ret (.obj C fs)) (aCons (ret (.tup xs)) aNil))
    | none => fun _ => none)
  | .obj C fs, .lst xs => (match tbl.lookup C with
    | some f => mCall f [] (aCons (ret (.obj C fs)) (aCons (ret (.lst xs)) aNil))
    | none => fun _ => none)
  | .obj C fs, .non => (match tbl.lookup C with
    | some f => mCall f [] (aCons (ret (.obj C fs)) (aCons (ret .non) aNil))
    | none => fun _ => none)
  | _, _ => fun _ => none
section
variable {X : Cx} {cm : Wd} {W : WX} {a b : Expr} {ta tb : TE} {ma mb : ME D} {tbl : List (Str × Fun')} {k : Nat} {pos : Pos}
end
def sfB (K : PySem.W.Frag) (C : Addr) : Bool := PySem.W.selfFirst K C
section
variable {X : Cx} {cm : Wd} {W : WX} {p p2 pos : Pos}
end
def kvtB (K : PySem.W.Frag) (C : Addr) (T : String) : Bool := decide (PySem.W.kitOne K (.ref C) (.type T) = some true)
end L2.Fn
set_option maxRecDepth 100000
set_option maxHeartbeats 4000000
/-! FnU: slices of tuples. -/
namespace L2.Fn
open PySem PySem.Spec PyProof.Rows L2
section
open HT
variable {prog : Program} {w : World} {A : Around} {E : Value → Shared → Prop} {s : Shared}
end
/-- t[lo:hi], the whole of it or not -/
def rSlA (K : PySem.W.Frag) : V → Option Int → Option Int → Hp → VK → Prop := fun x lo hi H Q => ∃ a xs, x = .ref a ∧ SqT K H a xs ∧
  ((HT.sIx xs.length 0 lo = 0 ∧ HT.sIx xs.length xs.length hi = xs.length) → Q (.ref a) H) ∧ (¬ (HT.sIx xs.length 0 lo = 0 ∧ HT.sIx xs.length xs.length hi = xs.length) → ∀ p, H p = none → Q (.ref p) (upd H p (.tup (cutV xs lo hi))))
section
variable {X : Cx} {cm : Wd} {W : WX} {a : Expr} {ta : TE} {ma : ME D} {pos : Pos}
def mSlT (m : ME D) (ml mh : ME (Option Int)) : ME S := m.bnd fun d => ml.bnd fun lo => mh.bnd fun hi => match d with
  | .tup xs => ret (.val (.tup (cutD xs lo hi)))
  | _ => fun _ => none
end
end L2.Fn
set_option maxRecDepth 100000
set_option maxHeartbeats 1000000
/-! FnAa: a for with yields within, in a generator def. -/
namespace L2.Fn
open PySem PySem.Spec PyProof.Rows L2 GenW
section
variable {M : Model} {A : Around} {R : GenEnd} {Y : Protocol} {n : Nat} {s₀ : Shared} {c : Code} {fs : List Frame} {s : Shared} {env : Env}
  {K : Flow → Sem PySem.Fin} {J : Value → Sem PySem.Fin} {gd : Bool → Bool} {lv : List Value → List Value}
end
section
variable {prog : Program} {w : World} {A : Around} {R : GenEnd} {Y : Protocol} {n : Nat} {s₀ : Shared} {fs : List Frame} {s : Shared} {env : Env}
/-- an exception leaves the loop's code -/
def outOf (env : Env) (e : Value) : Sem PySem.Fin := (do noteFrame e env; theTreesLotGoes e : Sem Unit).wrap (fun _ => .raise e) .raise id id
end
section
variable {X : Cx}
/-- W: the invariant by the turn and a measure; the list: what is out so far -/
def tGFor (wi : TI) (g : TG) (tb : TGn) : TGn := fun D ys σ H => wi σ H fun J H1 => ∃ W : Nat → Nat → List V → L2.St → Hp → Prop, (∃ m, W 0 m ys σ H1) ∧ ∀ i m ys σ H, W i m ys σ H →
  (J.stop i H ∧ D.nx ys σ H) ∨ (J.go i H ∧ ∃ N : List V → L2.St → Hp → Prop, (∀ ys' σ' H', N ys' σ' H' → ∃ m', m' < m ∧ W (i + 1) m' ys' σ' H') ∧ ∀ x H', J.yld i H x H' → g x σ H' fun σ2 H2 => tb { D with nx := N, ct := N, bk := D.nx } ys σ2 H2)
end
end L2.Fn
set_option maxRecDepth 100000
set_option maxHeartbeats 1000000
/-! FnAb: a generator def's body, told: what is out so far beside the slots. -/
namespace L2.Fn
open PySem PySem.Spec PyProof.Rows L2 GenW
abbrev MGn := List D → Slots → Option (List D × Out)
section
variable (K : PySem.W.Frag) (cm : Wd) (W : WX) (P : Nat → Bool)
def GPost (F : Hp) (σ : St) (H : Hp) (ρ : Slots) (De : GEnds) : List D × Out → Prop
  | (ds, .nx ρ') => ∀ F' σ' H' ys, Post K cm P F σ H ρ F' σ' H' ρ' → RepL K cm F' ys ds → De.nx ys σ' H'
  | (ds, .bk ρ') => ∀ F' σ' H' ys, Post K cm P F σ H ρ F' σ' H' ρ' → RepL K cm F' ys ds → De.bk ys σ' H'
  | (ds, .ct ρ') => ∀ F' σ' H' ys, Post K cm P F σ H ρ F' σ' H' ρ' → RepL K cm F' ys ds → De.ct ys σ' H'
  | (_, .rt _ _) => False
  | (_, .ex C fs ρ') => ∀ od F' σ' H', Post K cm P F σ H ρ F' σ' H' ρ' → ExR K cm F' od fs → W (.ref (cm C)) od σ' H'
def SimGn (t : TGn) (m : MGn) : Prop := ∀ ds ρ r, m ds ρ = some r → ∀ F σ H (De : GEnds) ys, Rel K cm F σ H ρ → RepL K cm F ys ds → GPost K cm W P F σ H ρ De r → t De ys σ H
end
section
variable {K : PySem.W.Frag} {cm : Wd} {W : WX} {P : Nat → Bool} {F F1 : Hp} {σ σ1 : St} {H H1 : Hp} {ρ ρ1 : Slots} {De : GEnds} {r : List D × Out}
theorem GPost.trans (h : GPost K cm W P F σ H ρ De r) (p : Post K cm P F σ H ρ F1 σ1 H1 ρ1) : GPost K cm W P F1 σ1 H1 ρ1 De r := by
  obtain ⟨ds, o⟩ := r
  cases o with
  | nx ρ' => exact fun F' σ' H' ys q => h F' σ' H' ys (p.trans q)
  | bk ρ' => exact fun F' σ' H' ys q => h F' σ' H' ys (p.trans q)
  | ct ρ' => exact fun F' σ' H' ys q => h F' σ' H' ys (p.trans q)
  | rt s ρ' => exact h
  | ex C fs ρ' => exact fun od F' σ' H' q x => h od F' σ' H' (p.trans q) x
end
section
variable (X : Cx) (cm : Wd) (W : WX) (P : Nat → Bool)
structure GSE (st : Stmt) (t : TGn) (m : MGn) : Prop where
  gs : GS X st t
  sim : SimGn X.K cm W P t m
structure GSSE (sts : List Stmt) (t : TGn) (m : MGn) : Prop where
  gss : GSs X sts t
  sim : SimGn X.K cm W P t m
end
section
variable {X : Cx} {cm : Wd} {W : WX} {P : Nat → Bool} {st : Stmt} {rest body : List Stmt} {t : TS} {tg t1 u : TGn} {m : MS} {m1 m2 : MGn} {e c : Expr} {te : TE} {tA : TT} {mA : ME Bool} {pos yp : Pos}
/-- a statement that hands out nothing -/
def yPlain (m : MS) : MGn := fun ds ρ => match m ρ with
  | some (.rt _ _) => none
  | some o => some (ds, o)
  | none => none
def yNil : MGn := fun ds ρ => some (ds, .nx ρ)
def ySeq (m1 m2 : MGn) : MGn := fun ds ρ => match m1 ds ρ with
  | some (ds', .nx ρ') => m2 ds' ρ'
  | r => r
/-- yield e -/
def yYield (me : ME D) : MGn := fun ds ρ => if ds.length < sizeLine then (match me ρ with
  | some (.ok d ρ') => some (ds ++ [d], .nx ρ')
  | some (.ex C fs ρ') => some (ds, .ex C fs ρ')
  | none => none) else none
/-- while -/
def yWhile (c : ME Bool) (b : MGn) : Nat → MGn
  | 0 => fun _ _ => none
  | n + 1 => fun ds ρ => match c ρ with
    | some (.ok k ρ1) => if k then (match b ds ρ1 with
      | some (ds', .nx ρ') => yWhile c b n ds' ρ'
      | some (ds', .ct ρ') => yWhile c b n ds' ρ'
      | some (ds', .bk ρ') => some (ds', .nx ρ')
      | r => r) else some (ds, .nx ρ1)
    | some (.ex C fs ρ1) => some (ds, .ex C fs ρ1)
    | none => none
/-- for -/
def yLoop (g : MG) (b : MGn) : List D → MGn
  | [] => fun ys ρ => some (ys, .nx ρ)
  | d :: ds => fun ys ρ => match g (.val d) ρ with
    | none => none
    | some ρ1 => match b ys ρ1 with
      | some (ys', .nx ρ') => yLoop g b ds ys' ρ'
      | some (ys', .ct ρ') => yLoop g b ds ys' ρ'
      | some (ys', .bk ρ') => some (ys', .nx ρ')
      | r => r
def yFor (it : ME (List D)) (g : MG) (b : MGn) : MGn := fun ys ρ => match it ρ with
  | some (.ok ds ρ') => yLoop g b ds ys ρ'
  | some (.ex C fs ρ') => some (ys, .ex C fs ρ')
  | none => none
end
end L2.Fn
set_option maxRecDepth 100000
set_option maxHeartbeats 1000000
/-! FnAc: a generator def's promise; list(f(..)) of it. -/
namespace L2.Fn
open PySem PySem.Spec PyProof.Rows L2 GenW
inductive GCR where
  | ret (ds : List D) (ss : List S)
  | exc (C : Str) (fs : List (Str × D)) (ss : List S)
abbrev GFun := List S → Option GCR
def runGen (n : Nat) (l : List Bool) (m : MGn) : GFun := fun ss => match m [] (ss ++ List.replicate n .no) with
  | some (ds, .nx ρ) => some (.ret ds (maskL l ρ))
  | some (_, .ex C fs ρ) => some (.exc C fs (maskL l ρ))
  | _ => none
section
variable (K : PySem.W.Frag) (cm : Wd)
def GCPost (F : Hp) (τ : St) (H : Hp) (ss : List S) (Q : List V → Hp → Prop) (E : XK) : GCR → Prop
  | .ret ds ss' => ∀ ys F' H', Post K cm pinAll F τ H ss F' τ H' ss' → RepL K cm F' ys ds → Q ys H'
  | .exc C fs ss' => ∀ od F' H', Post K cm pinAll F τ H ss F' τ H' ss' → ExR K cm F' od fs → E (.ref (cm C)) od H'
def gspOf (n : Nat) (f : GFun) : SpG := fun vs H Q E => vs.length = n ∧ ∃ F ss r, Rel K cm F (vs.map some) H ss ∧ f ss = some r ∧ GCPost K cm F (vs.map some) H ss Q E r
end
section
variable {X : Cx} {cm : Wd} {W : WX} {e : Expr} {es : List Expr} {ts : TA} {ms : ME (List D)} {pos pos' p pl : Pos}
def mListG (f : GFun) (ms : ME (List D)) : ME S := ms.bnd fun ds ρ => match f (ds.map S.val) with
  | some (.ret out _) => some (.ok (.lst out) ρ)
  | _ => none
end
end L2.Fn
set_option maxRecDepth 100000
set_option maxHeartbeats 1000000
/-! FnAd: what is known of a generator def; stars in displays. -/
namespace L2.Fn
open PySem PySem.Spec PyProof.Rows L2
structure GCal (P : Program) (w : World) (K : PySem.W.Frag) (mg : Str → Option Value) (base : Heap) (cm : Wd) (x : Str) (k n : Nat) (f : GFun) : Prop where
  ok : ∃ fd ps, GFn P w K mg base k (He.ga K x) fd ps (gspOf K cm n f) ∧ Binds K fd ps []
  g : mg x = some (.ref (He.ga K x))
  kp : PySem.W.keepIn K (.ref (He.ga K x)) = true
def LnD (ms : ME (List D)) (n : Nat) : Prop := ∀ ρ ds ρ', ms ρ = some (.ok ds ρ') → ds.length = n
section
variable {X : Cx} {cm : Wd} {W : WX} {x : Str} {e : Expr} {es : List Expr} {te : TE} {ts : TA} {me : ME D} {ms : ME (List D)} {f : GFun} {k n : Nat} {pos pos' p pl : Pos}
/-- a star in a display -/
def mStar (me : ME D) (ms : ME (List D)) : ME (List D) := me.bnd fun d => match d with
  | .tup xs => ms.bnd fun ds => ret (xs ++ ds)
  | .ktp xs => ms.bnd fun ds => ret (xs ++ ds)
  | .lst xs => ms.bnd fun ds => ret (xs ++ ds)
  | _ => fun _ => none
end
section
variable {X : Cx} {cm : Wd} {W : WX} {a : Expr} {ta : TE} {ma : ME D} {pos : Pos}
end
end L2.Fn
set_option maxRecDepth 100000
set_option maxHeartbeats 1000000
/-! FnAe: < of pairs (number, tuple of numbers). -/
namespace L2.Fn
open PySem PySem.Spec PyProof.Rows L2
def lexP (i j : Int) (ns ms : List Int) : Bool := if i = j then HT.lexLt ns ms else decide (i < j)
def rLtP (K : PySem.W.Frag) : R2 := fun x y H Q => ∃ a b i j ka kb ns ms, x = .ref a ∧ y = .ref b ∧ SqT K H a [.int i, .ref ka] ∧ SqT K H b [.int j, .ref kb] ∧
  SqT K H ka (ns.map V.int) ∧ SqT K H kb (ms.map V.int) ∧ Q (.bl (lexP i j ns ms)) H
/-- what < of two pairs gives -/
def gLtP : D → D → Option S
  | .tup [.int i, .tup xs], .tup [.int j, .tup ys] => match intsD xs, intsD ys with
    | some ns, some ms => some (.val (.bl (lexP i j ns ms)))
    | _, _ => none
  | _, _ => none
/-- `is not` of two bools -/
def gNotB : D → D → Option S
  | .bl a, .bl b => some (.val (.bl (!decide (a = b))))
  | _, _ => none
end L2.Fn
set_option maxRecDepth 100000
set_option maxHeartbeats 1000000
/-! FnBa: texts: split, join, f-strings, signs of a text, int of a text, slices. -/
namespace L2.Fn
open PySem PySem.Spec PyProof.Rows L2
/-! ### lists of texts -/
def strsD : List D → Option (List Str)
  | [] => some []
  | .str x :: ds => (strsD ds).map (x :: ·)
  | _ :: _ => none
theorem RepL.strs {K : PySem.W.Frag} {cm : Wd} {F : Hp} {vs : List V} {ds : List D} {ys : List Str} (h : RepL K cm F vs ds) (e : strsD ds = some ys) : vs = ys.map V.str := by
  induction vs generalizing ds ys with
  | nil => cases h; cases e; rfl
  | cons v vs ih =>
    cases h with
    | cons a b =>
      cases a with
      | str =>
        simp only [strsD] at e
        cases q : strsD _ with
        | none => rw [q] at e; cases e
        | some ms => rw [q] at e; cases e; simp [ih b q]
      | _ => cases e
theorem RepL.of_strs {K : PySem.W.Frag} {cm : Wd} {F : Hp} : ∀ ys : List Str, RepL K cm F (ys.map V.str) (ys.map D.str)
  | [] => .nil
  | y :: ys => .cons .str (RepL.of_strs ys)
theorem strsD_map : ∀ ys : List Str, strsD (ys.map D.str) = some ys
  | [] => rfl
  | y :: ys => by simp [strsD, strsD_map ys]
section
variable {X : Cx} {cm : Wd} {W : WX} {a b e o : Expr} {ta tb te to : TE} {ma mb me mo : ME D} {pos apos : Pos}
/-- a.split(b) -/
def mSplit (ma mb : ME D) : ME S := ma.bnd fun x => match x with
  | .str a => mb.bnd fun y => match y with
    | .str b => if (b.length == 0) = false ∧ a.length + 2 ≤ sizeLine then ret (.lst ((Txt.split a b).map D.str)) else fun _ => none
    | _ => fun _ => none
  | _ => fun _ => none
theorem oe_split (ho : DE X cm W o to mo) (he : DE X cm W e te me) (hs : starEach [e] X.env = [(false, eval e X.env)] := by rfl) (hbase : attributeBase o "split" X.env (eval o X.env) = eval o X.env := by rfl) (hline : (apos.endLine == pos.line) = true := by rfl) :
    OE X cm W (.Call (.Attribute o "split" apos) [e] [] pos) (tM1 (fun x xs H Q => ∃ a b, x = .str a ∧ xs = [.str b] ∧ (b.length == 0) = false ∧ a.length + 2 ≤ sizeLine ∧ rNewStrs (Txt.split a b) H Q) to te) (mSplit mo me) := by
  refine ⟨pe_split ho.pe he.pe hs hbase hline, fun ρ r e F σ H Q hr hp => ?_⟩
  refine ho.sim.step e hr hp fun dx ρ1 x F1 H1 e1 p1 r1 => ?_
  have r1 : Rep X.K cm F1 x dx := r1
  cases r1 with
  | str =>
    refine ⟨⟨_, rfl⟩, ?_⟩
    refine he.sim.step e1 p1.rel (hp.trans tr_O p1) fun dy ρ2 y F2 H2 e2 p2 r2 => ?_
    have r2 : Rep X.K cm F2 y dy := r2
    cases r2 with
    | str =>
      simp only at e2
      split at e2
      · rename_i hb
        cases ret_ok e2
        refine ⟨_, _, rfl, rfl, hb.1, hb.2, fun q hq => ?_⟩
        exact hp _ _ _ ((p1.trans p2).trans (Post.warm p2.rel hq)) (tr_O _ _ _ _ _ _ _ _ _ _ _ _ (p1.trans p2) (rd_lst p2.rel hq (RepL.of_strs _)))
      · cases e2
    | _ => cases e2
  | _ => cases e1
/-- a.join(b) -/
def mJoin (ma mb : ME D) : ME D := ma.bnd fun x => match x with
  | .str a => mb.bnd fun y => match itemsD y with
    | some ds => (match strsD ds with
      | some ys => if (ys.map (·.length)).sum + ys.length * a.length ≤ 16777216 then ret (.str (Txt.join a ys)) else fun _ => none
      | none => fun _ => none)
    | none => fun _ => none
  | _ => fun _ => none
theorem de_join (K : PySem.W.Frag) (ho : DE X cm W o to mo) (he : DE X cm W e te me) (hK : X.K = K := by rfl) (hs : starEach [e] X.env = [(false, eval e X.env)] := by rfl) (hbase : attributeBase o "join" X.env (eval o X.env) = eval o X.env := by rfl) (hline : (apos.endLine == pos.line) = true := by rfl) :
    DE X cm W (.Call (.Attribute o "join" apos) [e] [] pos) (tM1 (fun x xs H Q => ∃ a p, ∃ ys : List Str, x = .str a ∧ xs = [.ref p] ∧ (SqL K H p (ys.map V.str) ∨ SqT K H p (ys.map V.str)) ∧
      (ys.map (·.length)).sum + ys.length * a.length ≤ 16777216 ∧ Q (.str (Txt.join a ys)) H) to te) (mJoin mo me) := by
  subst hK
  refine ⟨pe_join ho.pe he.pe hs hbase hline, fun ρ r e F σ H Q hr hp => ?_⟩
  refine ho.sim.step e hr hp fun dx ρ1 x F1 H1 e1 p1 r1 => ?_
  have r1 : Rep X.K cm F1 x dx := r1
  cases r1 with
  | @str sp =>
    refine ⟨⟨_, rfl⟩, ?_⟩
    refine he.sim.step e1 p1.rel (hp.trans tr_D p1) fun dy ρ2 y F2 H2 e2 p2 r2 => ?_
    have r2 : Rep X.K cm F2 y dy := r2
    have fin : ∀ {p : Addr} {vs : List V} {ds : List D}, itemsD dy = some ds → (SqL X.K H2 p vs ∨ SqT X.K H2 p vs) → RepL X.K cm F2 vs ds → y = .ref p →
        ∃ (a : Str) (p : Addr), ∃ ys : List Str, (V.str sp : V) = .str a ∧ [y] = [.ref p] ∧ (SqL X.K H2 p (ys.map V.str) ∨ SqT X.K H2 p (ys.map V.str)) ∧ (ys.map (·.length)).sum + ys.length * a.length ≤ 16777216 ∧ Q (.str (Txt.join a ys)) H2 := by
      intro p vs ds ei hv rv ey
      subst ey
      simp only [ei] at e2
      cases q : strsD ds with
      | none => rw [q] at e2; cases e2
      | some ys =>
        rw [q] at e2
        simp only at e2
        split at e2
        · rename_i hz
          cases ret_ok e2
          have z := rv.strs q
          subst z
          exact ⟨_, _, ys, rfl, rfl, hv, hz, hp _ F2 H2 (p1.trans p2) .str⟩
        · cases e2
    cases r2 with
    | lst h1 h2 => exact fin rfl (.inl (SqL.of (p2.rel.sub _ _ h1))) h2 rfl
    | scr h1 h2 => exact fin rfl (.inl (SqL.mono p2.rel.sub h1)) h2 rfl
    | tup h1 h2 => exact fin rfl (.inr (SqT.of (p2.rel.sub _ _ h1))) h2 rfl
    | ktp h1 h2 => exact fin rfl (.inr (SqT.mono p2.rel.sub h1)) h2 rfl
    | _ => cases e2
  | _ => cases e1
/-- {x} in an f-string -/
def mFmt (m : ME D) : ME D := m.bnd fun x => match x with
  | .str a => if a.length ≤ sizeLine then ret (.str a) else fun _ => none
  | .int i => if i.natAbs.log2 < 1920 then ret (.str (Str.ofString (toString i))) else fun _ => none
  | _ => fun _ => none
theorem de_fmt (h : DE X cm W e te me) : DE X cm W (.FormattedValue e (-1) none pos) (tFmt te) (mFmt me) := by
  refine ⟨pe_fmt h.pe, fun ρ r e F σ H Q hr hp => ?_⟩
  refine h.sim.step e hr hp fun dx ρ1 x F1 H1 e1 p1 r1 => ?_
  have r1 : Rep X.K cm F1 x dx := r1
  cases r1 with
  | str =>
    simp only at e1
    split at e1
    · rename_i hz
      cases ret_ok e1
      exact .inl ⟨_, rfl, hz, hp _ F1 H1 p1 .str⟩
    · cases e1
  | int =>
    simp only at e1
    split at e1
    · rename_i hz
      cases ret_ok e1
      exact .inr ⟨_, rfl, hz, hp _ F1 H1 p1 .str⟩
    · cases e1
  | _ => cases e1
/-- the parts of an f-string, one behind the other -/
def mJs : List (ME D) → Str → ME D
  | [], acc => ret (.str acc)
  | m :: ms, acc => m.bnd fun x => match x with
    | .str y => if (acc ++ y).length ≤ sizeLine then mJs ms (acc ++ y) else fun _ => none
    | _ => fun _ => none
inductive JE (X : Cx) (cm : Wd) (W : WX) : List Expr → List TE → List (ME D) → Prop
  | nil : JE X cm W [] [] []
  | cons {e : Expr} {t : TE} {m : ME D} {es : List Expr} {ts : List TE} {ms : List (ME D)} (h : DE X cm W e t m) (r : JE X cm W es ts ms) : JE X cm W (e :: es) (t :: ts) (m :: ms)
theorem JE.pj {es : List Expr} {ts : List TE} {ms : List (ME D)} (h : JE X cm W es ts ms) : PJ X es ts := by
  induction h with
  | nil => exact .nil
  | cons h r ih => exact .cons h.pe ih
theorem JE.sim {es : List Expr} {ts : List TE} {ms : List (ME D)} (h : JE X cm W es ts ms) : ∀ acc : Str, Sim X.K cm W (RD X.K cm) (fun σ H Q => tJs ts acc σ H fun out H1 => Q (.str out) H1) (mJs ms acc) := by
  induction h with
  | nil =>
    intro acc ρ r e F σ H Q hr hp
    cases ret_ok e
    exact hp _ F H (Post.refl hr) .str
  | @cons e t m es ts ms h r ih =>
    intro acc ρ r e F σ H Q hr hp
    refine h.sim.step e hr hp fun dx ρ1 x F1 H1 e1 p1 r1 => ?_
    have r1 : Rep X.K cm F1 x dx := r1
    cases r1 with
    | str =>
      simp only at e1
      split at e1
      · rename_i hz
        exact ⟨_, rfl, hz, ih _ _ _ e1 _ _ _ _ p1.rel (hp.trans tr_D p1)⟩
      · cases e1
    | _ => cases e1
theorem de_joined {v1 v2 : Expr} {rest : List Expr} {ts : List TE} {ms : List (ME D)} (h : JE X cm W (v1 :: v2 :: rest) ts ms) : DE X cm W (.JoinedStr (v1 :: v2 :: rest) pos) (fun σ H Q => tJs ts Str.empty σ H fun out H1 => Q (.str out) H1) (mJs ms Str.empty) :=
  ⟨pe_joined h.pj, h.sim Str.empty⟩
/-- the signs of a text -/
def mSigns (m : ME D) : ME (List D) := m.bnd fun x => match x with
  | .str a => ret (a.cps.toList.map fun c => D.str ⟨#[c]⟩)
  | _ => fun _ => none
theorem wk_str {K : PySem.W.Frag} {F : Hp} {x : Str} : Wk K cm F (Its x) (x.cps.toList.map fun c => D.str ⟨#[c]⟩) where
  stop := fun i H m hl => by
    show x.cps.size ≤ i
    simpa using hl
  go := fun i H m hl => by
    show i < x.cps.size
    simpa using hl
  yld := fun i d e F1 σ1 H1 ρ1 y H2 m hr z => by
    obtain ⟨rfl, c, hc, rfl⟩ := z
    have : d = .str ⟨#[c]⟩ := by
      rw [List.getElem?_map, Array.getElem?_toList, hc] at e
      cases e
      rfl
    subst this
    exact ⟨F1, Post.refl hr, .str⟩
theorem ie_str {tg : Expr} (h : DE X cm W e te me) : IE X cm W tg e (iStr te) (mSigns me) := by
  refine ⟨pi_str h.pe, fun ρ r e F σ H R hr hp => ?_⟩
  refine h.sim.stepI e hr hp fun d ρ1 v F1 H1 e1 p1 r1 => ?_
  cases r1 with
  | str => cases ret_ok e1; exact ⟨_, rfl, hp _ F1 H1 p1 wk_str⟩
  | _ => cases e1
/-- a sign in a text -/
def gInS (neg : Bool) : D → D → Option S
  | .str x, .str y => match x.cps.toList with
    | [c] => some (.val (.bl (if neg then !decide (c ∈ y.cps.toList) else decide (c ∈ y.cps.toList))))
    | _ => none
  | _, _ => none
theorem str_one {x : Str} {c : Nat} (h : x.cps.toList = [c]) : x = ⟨#[c]⟩ := by
  cases x with
  | mk a =>
    have : a = #[c] := by
      apply Array.toList_inj.mp
      exact h
    rw [this]
theorem od_notInS {K : PySem.W.Frag} : OpD K cm (fun x y H Q => ∃ (c : Nat) (z : Str), x = .str ⟨#[c]⟩ ∧ y = .str z ∧ Q (.bl (!decide (c ∈ z.cps.toList))) H) (gInS true) := by
  intro F σ H ρ x y dx dy s Q hr hx hy hg hQ
  unfold gInS at hg
  split at hg
  · rename_i a b
    split at hg
    · rename_i c hc
      cases hg
      cases hx
      cases hy
      have := str_one hc
      subst this
      exact ⟨_, _, rfl, rfl, hQ _ F H (Post.refl hr) (rd_val .bl)⟩
    · cases hg
  · cases hg
/-- s[lo:hi] of a text -/
def mSlS (m : ME D) (ml mh : ME (Option Int)) : ME S := m.bnd fun d => ml.bnd fun lo => mh.bnd fun hi => match d with
  | .str z => if z.length ≤ sizeLine then ret (.val (.str (cutS z lo hi))) else fun _ => none
  | _ => fun _ => none
theorem oe_slS {lo hi : Option Expr} {tl th : TO} {ml mh : ME (Option Int)} {p2 : Pos} (h : DE X cm W a ta ma) (hl : OEp X cm W lo tl ml) (hh : OEp X cm W hi th mh) : OE X cm W (.Subscript a (.Slice lo hi none p2) pos) (tSl rSlS ta tl th) (mSlS ma ml mh) := by
  refine ⟨pe_slice sl_str h.pe hl.po hh.po, fun ρ r e F σ H Q hr hp => ?_⟩
  refine h.sim.step e hr hp fun d ρ1 v F1 H1 e1 p1 r1 => ?_
  refine hl.sim.step e1 p1.rel (hp.trans tr_O p1) fun l ρ2 l' F2 H2 e2 p2 r2 => ?_
  cases (show l' = l from r2)
  refine hh.sim.step e2 p2.rel ((hp.trans tr_O p1).trans tr_O p2) fun u ρ3 u' F3 H3 e3 p3 r3 => ?_
  cases (show u' = u from r3)
  have p := p1.trans (p2.trans p3)
  have r1' : Rep X.K cm F1 v d := r1
  cases r1' with
  | str =>
    simp only at e3
    split at e3
    · rename_i hz
      cases ret_ok e3
      exact ⟨_, rfl, hz, hp _ F3 H3 p ⟨.val .str, fun _ _ z => by cases z⟩⟩
    · cases e3
  | _ => cases e3
/-- int(text) -/
def rIntT : List V → Hp → VK → Prop := fun xs H Q => ∃ (x : Str) (n : Int), xs = [.str x] ∧ PySem.intText? x = some n ∧ x.length ≤ 640 ∧ Q (.int n) H
theorem call_intT : CallR X (.type "int") rIntT := by
  intro pins s σ H xs us Q I rs h
  obtain ⟨x, n, rfl, hn, hl, q⟩ := h
  cases rs with
  | cons r1 rs =>
    cases rs
    obtain ⟨t, rfl⟩ := r1
    exact PySem.W.KIN.call_text hn hl ⟨.int n, H, I.tok _, ⟨_, rfl⟩, q⟩
def gIntT : D → Option S
  | .str x => if x.length ≤ 640 then (PySem.intText? x).map fun n => .val (.int n) else none
  | _ => none
theorem cd_intT : CallD1 X cm rIntT gIntT := by
  intro F σ H ρ x dx s Q hr hx hg hQ
  cases hx with
  | str =>
    simp only [gIntT] at hg
    split at hg
    · rename_i hl
      cases q : PySem.intText? _ with
      | none => rw [q] at hg; cases hg
      | some n =>
        rw [q] at hg
        cases hg
        exact ⟨_, n, rfl, q, hl, hQ _ F H (Post.refl hr) (rd_val .int)⟩
    · cases hg
  | _ => cases hg
end
end L2.Fn
set_option maxRecDepth 100000
set_option maxHeartbeats 2000000
/-! FnBb: raise .. from .. -/
namespace L2.Fn
open PySem PySem.Spec PyProof.Rows L2 HotX
/-- the heap behind «from u»: field 3 is u, field 4 is True -/
def fromTo (h : Heap) (a : Addr) (u : Value) : Heap := (h.update a (Obj.mapFields (·.setIfInBounds 3 u))).update a (Obj.mapFields (·.setIfInBounds 4 (.bool true)))
theorem fromTo_at {h : Heap} {a : Addr} {oe : Obj} {vs : Array Value} {u : Value} (ha : h.get? a = some oe) (hd : oe.data = .fields vs) :
    (fromTo h a u).get? a = some ((oe.mapFields (·.setIfInBounds 3 u)).mapFields (·.setIfInBounds 4 (.bool true))) ∧ ((oe.mapFields (·.setIfInBounds 3 u)).mapFields (·.setIfInBounds 4 (.bool true))).data = .fields ((vs.setIfInBounds 3 u).setIfInBounds 4 (.bool true)) := by
  have hd3 := Obj.data_mapFields hd (·.setIfInBounds 3 u)
  have ha3 := Heap.get?_update_self (Obj.mapFields (·.setIfInBounds 3 u)) ha (Obj.isFreed_of_fields hd3)
  have hd4 := Obj.data_mapFields hd3 (·.setIfInBounds 4 (.bool true))
  exact ⟨Heap.get?_update_self (Obj.mapFields (·.setIfInBounds 4 (.bool true))) ha3 (Obj.isFreed_of_fields hd4), hd4⟩
theorem fromTo_other {h : Heap} {a b : Addr} {u : Value} (hne : a ≠ b) : (fromTo h a u).get? b = h.get? b := by
  unfold fromTo
  rw [Heap.get?_update_other _ _ hne, Heap.get?_update_other _ _ hne]
/-- what may stand behind from -/
def CauseAt (M : Model) (s : Shared) (u : Value) : Prop := u = .none ∨ ∃ (a : Addr) (oe : Obj) (vs : Array Value), u = .ref a ∧ s.heap.get? a = some oe ∧ oe.data = .fields vs ∧ PySem.W.Looks M s.heap (isSubtype oe.cls (.type "BaseException")) true
theorem raise_madeF {prog : Program} {w : World} {A : Around} {E : Value → Shared → Prop} {env : Env} {s : Shared} {x c : Sem Value} {Q : Flow → Shared → Prop} (hh : A.handled = none)
    (h : wpAny (model prog w) A x (fun v s₀ => ∃ a, v = .ref a ∧ wpAny (model prog w) A c (fun u s₁ => ∃ oe vs cls, s₁.heap.get? a = some oe ∧ oe.cls = cls ∧ oe.data = .fields vs ∧ vs[1]? = some .none ∧ 4 < vs.size ∧
      PySem.W.Looks (model prog w) s₁.heap (isSubtype cls (.type "BaseException")) true ∧ PySem.W.Looks (model prog w) (fromTo s₁.heap a u) (typeOf cls) (.type "type") ∧ CauseAt (model prog w) s₁ u ∧
      E (.ref a) { s₁ with heap := fromTo s₁.heap a u }) E s₀) E s) :
    wpAny (model prog w) A (raiseStmt env (some x) (some c)) Q E s := by
  unfold raiseStmt
  dsimp only
  refine wpAny_bind (wpAny_mono h (fun v s₀ h₀ => ?_) fun _ _ x => x)
  obtain ⟨a, rfl, h₀⟩ := h₀
  refine wpAny_bind (wpAny_holding (wpAny_mono h₀ (fun u s₁ h₁ => ?_) fun _ _ x => x))
  refine wpAny_bind (wpAny_pure ?_)
  obtain ⟨oe, vs, cls, ha, hcls, hd, h1, hi, L1, L3, hu, hE⟩ := h₁
  have LT : PySem.W.Looks (model prog w) s₁.heap (typeOf (.ref a)) cls := fun A Q E s k q => wpAny_typeOf_ref (k _ _ ha) (by rw [hcls]; exact q)
  have LI : PySem.W.Looks (model prog w) s₁.heap (isInstance (.ref a) (.type "BaseException")) true := LT.andThen L1
  have hnt : ∀ {b : Addr} {ob : Obj} {wb : Array Value}, s₁.heap.get? b = some ob → ob.data = .fields wb → ∀ {Q' : Bool → Shared → Prop}, Q' false s₁ → wpAny (model prog w) A (isType (.ref b)) Q' E s₁ := by
    intro b ob wb hb hdb Q' hq
    simp only [isType, loadHead]
    refine wpAny_bind (wpAny_loadPart hb ?_)
    rw [hdb]; exact wpAny_pure hq
  have hd3 := Obj.data_mapFields hd (·.setIfInBounds 3 u)
  have ha3 := Heap.get?_update_self (Obj.mapFields (·.setIfInBounds 3 u)) ha (Obj.isFreed_of_fields hd3)
  obtain ⟨ha4, hd4⟩ := fromTo_at (u := u) ha hd
  have s3 : 3 < vs.size := by omega
  have s4 : 4 < (vs.setIfInBounds 3 u).size := by rw [set_size]; exact hi
  have h14 : ((vs.setIfInBounds 3 u).setIfInBounds 4 (Value.bool true))[1]? = some Value.none := set_other (by decide) (set_other (by decide) h1)
  have hcls4 : ((oe.mapFields (·.setIfInBounds 3 u)).mapFields (·.setIfInBounds 4 (.bool true))).cls = cls := by rw [Obj.cls_mapFields, Obj.cls_mapFields]; exact hcls
  have LT4 : PySem.W.Looks (model prog w) (fromTo s₁.heap a u) (typeOf (.ref a)) cls := fun A Q E s k q => wpAny_typeOf_ref (k _ _ ha4) (by rw [hcls4]; exact q)
  have hnt4 : ∀ {Q' : Bool → Shared → Prop}, Q' false { s₁ with heap := fromTo s₁.heap a u } → wpAny (model prog w) A (isType (.ref a)) Q' E { s₁ with heap := fromTo s₁.heap a u } := by
    intro Q' hq
    simp only [isType, loadHead]
    refine wpAny_bind (wpAny_loadPart ha4 ?_)
    rw [hd4]; exact wpAny_pure hq
  -- what stands behind the two stores
  have rest : wpAny (model prog w) A (do
      let b ← isType (.ref a)
      if b = true then do
        let e ← holding [.ref a] (raisedFor (.ref a) (.ref a))
        setFlight e none
        raiseNew e
      else do
        let e ← raisedInstance (.ref a)
        setFlight e none
        raiseNew e : Sem Flow) Q E { s₁ with heap := fromTo s₁.heap a u } := by
    refine wpAny_bind (hnt4 ?_)
    simp only [Bool.false_eq_true, if_false]
    unfold raisedInstance
    refine wpAny_bind (wpAny_bind (LT4.here (wpAny_bind (L3.here ?_))))
    rw [if_pos (beq_self_eq_true _)]
    refine wpAny_pure ?_
    unfold setFlight raiseNew
    refine wpAny_bind (wpAny_bind (wpAny_field ha4 hd4 h14 ?_))
    rw [if_neg (by decide)]
    refine wpAny_pure (wpAny_bind (wpAny_handled ?_))
    rw [hh]
    first
      | exact wpAny_throw hE
      | exact wpAny_bind (wpAny_pure (wpAny_throw hE))
  dsimp only
  refine wpAny_bind (wpAny_holding ?_)
  unfold excFromValue isExcClass
  refine wpAny_bind (wpAny_bind (hnt ha hd ?_))
  simp only [Bool.false_eq_true, if_false]
  refine wpAny_pure ?_
  simp only [Bool.false_eq_true, if_false]
  refine wpAny_bind (LI.here ?_)
  simp only [if_true]
  refine wpAny_pure ?_
  rcases hu with rfl | ⟨a2, oe2, vs2, rfl, hb, hdb, L2'⟩
  · rw [if_pos (show (Value.none == Value.none) = true from rfl)]
    refine wpAny_bind (wpAny_pure (wpAny_bind (wpAny_setField ha hd s3 (wpAny_bind (wpAny_setField ha3 hd3 s4 ?_)))))
    exact rest
  · have LT2 : PySem.W.Looks (model prog w) s₁.heap (typeOf (.ref a2)) oe2.cls := fun A Q E s k q => wpAny_typeOf_ref (k _ _ hb) q
    have LI2 : PySem.W.Looks (model prog w) s₁.heap (isInstance (.ref a2) (.type "BaseException")) true := LT2.andThen L2'
    rw [if_neg (by intro z; cases z)]
    refine wpAny_bind (wpAny_holding ?_)
    refine wpAny_bind (wpAny_bind (hnt hb hdb ?_))
    simp only [Bool.false_eq_true, if_false]
    refine wpAny_pure ?_
    simp only [Bool.false_eq_true, if_false]
    refine wpAny_bind (LI2.here ?_)
    simp only [if_true]
    refine wpAny_pure ?_
    refine wpAny_bind (wpAny_setField ha hd s3 (wpAny_bind (wpAny_setField ha3 hd3 s4 ?_)))
    exact rest
theorem Inv.nofs0 {X : Cx} {pins : List (Addr × Obj)} {σ : St} {H : Hp} {s : Shared} (I : Inv X pins σ H s) {a : Addr} (h : s.heap.get? a = none) : a ∉ X.fs := fun hb => by
  obtain ⟨_, o, ho, _⟩ := I.ok.funs.mem hb
  obtain ⟨sl, e⟩ := I.base.slot a o ho (I.ok.frf a hb) hb fun z => I.ok.exfs a z hb
  rw [h] at e
  cases e
theorem Inv.noloc {X : Cx} {pins : List (Addr × Obj)} {σ : St} {H : Hp} {s : Shared} (I : Inv X pins σ H s) {a : Addr} (h : s.heap.get? a = none) : a ≠ X.env.locals := fun e => by
  obtain ⟨m, ⟨o, es, ep, ho, _⟩, _⟩ := I.loc
  rw [← e, h] at ho
  cases ho
/-- the same invariant in a state that holds more -/
theorem Inv.more {X : Cx} {pins : List (Addr × Obj)} {σ : St} {H : Hp} {s s' : Shared} (I : Inv X pins σ H s) (k : ∀ b o, s.heap.get? b = some o → s'.heap.get? b = some o) (os : s'.os = s.os) (ag : AllBare s'.gens) : Inv X pins σ H s' := by
  have K : Inv X pins σ H { s with heap := s'.heap, toks := s'.toks } := I.kept k
  exact ⟨K.ok, os.trans K.os, ag, K.base, K.loc, K.cell, K.free, K.freeC, K.pin, K.hok, K.len⟩
/-- an object that nothing leans on is left out -/
theorem Inv.drop {X : Cx} {pins : List (Addr × Obj)} {σ : St} {H H' : Hp} {sI s : Shared} {a : Addr} {oe : Obj} {vs : Array Value} (J : Inv X pins σ H' sI) (hne : sI.heap.get? a = none) (K : Inv X ((a, oe) :: pins) σ H s) (hd : oe.data = .fields vs) :
    ∃ G : Heap, Inv X pins σ H { s with heap := G } ∧ (∀ b o, G.get? b = some o → s.heap.get? b = some o) ∧ G.get? a = none := by
  obtain ⟨ha, nH, nL, nF, nC⟩ := K.pin (a, oe) (List.mem_append_right _ List.mem_cons_self)
  simp only at ha nH nL nF nC
  obtain ⟨G, g1', g2'⟩ := restrict s.heap fun b => decide (b ≠ a)
  have gk : ∀ b, b ≠ a → G.get? b = s.heap.get? b := fun b hb => g1' b (decide_eq_true hb)
  have ge : G.get? a = none := g2' a (by simp)
  have z0 : ∀ {b : Addr} {o : Obj}, X.s_0.heap.get? b = some o → b ∉ X.ex → b ≠ a := fun {b o} z hx e => by
    obtain ⟨o', w⟩ := J.base.there b o z hx
    rw [e, hne] at w
    cases w
  refine ⟨G, ⟨K.ok, K.os, K.bare, ?_, ?_, ?_, K.free, K.freeC, ?_, ?_, K.len⟩, fun b o z => ?_, ge⟩
  · exact {
      keep := fun b o z n hf hx => by rw [gk b (z0 z hx)]; exact K.base.keep b o z n hf hx
      slot := fun b o z n hf hx => by rw [gk b (z0 z hx)]; exact K.base.slot b o z n hf hx
      free := fun b o z n hx => K.base.free b o z n hx
      there := fun b o z hx => by rw [gk b (z0 z hx)]; exact K.base.there b o z hx
      tups := K.base.tups
      frzs := K.base.frzs
      tbls := K.base.tbls }
  · obtain ⟨m, hn, hl⟩ := K.loc
    refine ⟨m, hn.at fun o y => (gk _ (Ne.symm nL)).trans y, fun i x v e1 e2 e3 => ?_⟩
    obtain ⟨u, q1, q2⟩ := hl i x v e1 e2 e3
    refine ⟨u, q1, q2.imp id fun ⟨w1, c, w2, o, ho, hv⟩ => ⟨w1, c, w2, o, (gk c fun z => ?_).trans ho, hv⟩⟩
    rw [z, ha] at ho
    cases ho
    rw [hd] at hv
    cases hv
  · intro x c e
    obtain ⟨v, o, ho, hv⟩ := K.cell x c e
    refine ⟨v, o, (gk c fun z => ?_).trans ho, hv⟩
    rw [z, ha] at ho
    cases ho
    rw [hd] at hv
    cases hv
  · intro p hp
    obtain ⟨q1, q2, q3, q4, q5⟩ := K.pin p (by
      rcases List.mem_append.mp hp with hp | hp
      · exact List.mem_append_left _ hp
      · exact List.mem_append_right _ (List.mem_cons_of_mem _ hp))
    refine ⟨(gk p.1 fun z => ?_).trans q1, q2, q3, q4, q5⟩
    have := (J.pin p hp).1
    rw [z, hne] at this
    cases this
  · intro b o z
    have hb : b ≠ a := fun e => by rw [e, nH] at z; cases z
    refine (K.hok b o z).stay (fun c v hc y => ?_) (fun c hc => hc) (fun c xs hc => hc)
    have hca : c ≠ a := by
      rcases hc with hc | hc
      · rw [hc]; exact hb
      · intro e
        rw [e, nH] at hc
        cases hc
    rw [gk c hca]
    exact y
  · by_cases hba : b = a
    · rw [hba, ge] at z; cases z
    · exact (gk b hba).symm.trans z
def PMk5c (X : Cx) (e : Expr) (t : L2.St → Hp → XK → Prop) : Prop :=
  ∀ (pins : List (Addr × Obj)) (s : Shared) (σ : L2.St) (H : Hp) (Q : XK), Inv X pins σ H s → t σ H Q → wpAny (model X.prog X.w) X.A (eval e X.env) (fun u s' => MkP X pins σ Q u s' ∧ L2H.Six u s') X.xe s
/-- raise X(..) from None -/
theorem ps_raiseFN {X : Cx} {W : WX} {e : Expr} {t : L2.St → Hp → XK → Prop} {j : Nat} {cpos pos : Pos} (hc : X.calm = true) (tk : L2.Takes X W) (he : PMk5c X e t) :
    PS X (.Raise (some e) (some (.Constant .none j cpos)) pos) (fun _ σ H => t σ H fun cls d H' => W cls d σ H') := by
  refine ⟨fun pins s σ H D I h => ?_⟩
  show wpAny _ _ (do standAt pos; raiseStmt X.env (some (do let v ← eval e X.env; standAt pos; pure v)) (some (do let v ← eval (.Constant .none j cpos) X.env; standAt pos; pure v))) _ _ _
  refine wpAny_bind (wpAny_standAt (raise_madeF (I.ok.hd hc) (wpAny_bind (wpAny_mono (he pins s σ H _ I h) (fun u s1 hu => wpAny_bind (wpAny_standAt (wpAny_pure ?_))) fun _ _ x => x))))
  obtain ⟨⟨a, oe, vs, sI, H', cls, d, rfl, J, k, hne, ha, hz, hd, h1, na, os, ag, r, q⟩, h5⟩ := hu
  refine ⟨a, rfl, wpAny_bind (Constant_none (wpAny_bind (wpAny_standAt (wpAny_pure ?_))))⟩
  have k4 : ∀ b o, sI.heap.get? b = some o → (fromTo s1.heap a .none).get? b = some o := fun b o z => by
    have nab : a ≠ b := fun y => by
      rw [← y, hne] at z
      cases z
    rw [fromTo_other nab]
    exact k b o z
  obtain ⟨r1, _⟩ := r (model X.prog X.w) s1.heap (J.kIn.keeps k)
  obtain ⟨_, r2⟩ := r (model X.prog X.w) (fromTo s1.heap a .none) (J.kIn.keeps k4)
  obtain ⟨ha4, hd4⟩ := fromTo_at (u := .none) ha hd
  have h14 : ((vs.setIfInBounds 3 Value.none).setIfInBounds 4 (Value.bool true))[1]? = some Value.none := set_other (by decide) (set_other (by decide) h1)
  refine ⟨oe, vs, cls, ha, hz.1, hd, h1, h5 a oe vs rfl ha hd, r1, r2, .inl rfl, tk _ _ (XE.new J k4 hne ha4 ⟨by rw [Obj.cls_mapFields, Obj.cls_mapFields]; exact hz.1, by rw [HandSPX.dict_mapFields, HandSPX.dict_mapFields]; exact hz.2⟩ hd4 h14 na os ag q)⟩
/-- raise X(..) from Y(..) -/
theorem ps_raiseFE {X : Cx} {W : WX} {e c : Expr} {t t2 : L2.St → Hp → XK → Prop} {pos : Pos} (hc : X.calm = true) (tk : L2.Takes X W) (he : PMk5c X e t) (hc2 : PMk5c X c t2) :
    PS X (.Raise (some e) (some c) pos) (fun _ σ H => t σ H fun cls d H' => t2 σ H' fun cls2 d2 H2 => W cls d σ H2) := by
  refine ⟨fun pins s σ H D I h => ?_⟩
  show wpAny _ _ (do standAt pos; raiseStmt X.env (some (do let v ← eval e X.env; standAt pos; pure v)) (some (do let v ← eval c X.env; standAt pos; pure v))) _ _ _
  refine wpAny_bind (wpAny_standAt (raise_madeF (I.ok.hd hc) (wpAny_bind (wpAny_mono (he pins s σ H _ I h) (fun u s1 hu => wpAny_bind (wpAny_standAt (wpAny_pure ?_))) fun _ _ x => x))))
  obtain ⟨⟨a, oe, vs, sI, H', cls, d, rfl, J, k, hne, ha, hz, hd, h1, na, os, ag, r, q⟩, h5⟩ := hu
  refine ⟨a, rfl, ?_⟩
  have J1 : Inv X pins σ H' s1 := Inv.more J k os ag
  have J2 : Inv X ((a, oe) :: pins) σ H' s1 := J1.pins_of fun p hp => by
    rcases List.mem_cons.mp hp with rfl | hp
    · exact ⟨ha, na, Inv.noloc J hne, Inv.nofs0 J hne, fun v z => by rw [hd] at z; cases z⟩
    · exact J1.pin p (List.mem_append_right _ hp)
  refine wpAny_bind (wpAny_mono (hc2 _ s1 σ H' _ J2 q) (fun u s2 hu => wpAny_bind (wpAny_standAt (wpAny_pure ?_))) fun _ _ x => x)
  obtain ⟨⟨a2, oe2, vs2, sI2, H2, cls2, d2, rfl, K, k2, hne2, ha2, hz2, hd2, h12, na2, os2, ag2, rr, qq⟩, _⟩ := hu
  obtain ⟨ha', nH2, _⟩ := K.pin (a, oe) (List.mem_append_right _ List.mem_cons_self)
  have has2 : s2.heap.get? a = some oe := k2 a oe ha'
  obtain ⟨G, KG, kG, gG⟩ := Inv.drop J hne K hd
  have k4 : ∀ b o, G.get? b = some o → (fromTo s2.heap a (.ref a2)).get? b = some o := fun b o z => by
    have nab : a ≠ b := fun y => by
      rw [← y, gG] at z
      cases z
    rw [fromTo_other nab]
    exact k2 b o (kG b o z)
  have kk : ∀ b o, sI2.heap.get? b = some o → s2.heap.get? b = some o := k2
  obtain ⟨r1, _⟩ := r (model X.prog X.w) s2.heap (K.kIn.keeps k2)
  obtain ⟨_, r2⟩ := r (model X.prog X.w) (fromTo s2.heap a (.ref a2)) (KG.kIn.keeps k4)
  obtain ⟨rr1, _⟩ := rr (model X.prog X.w) s2.heap (K.kIn.keeps k2)
  obtain ⟨ha4, hd4⟩ := fromTo_at (u := .ref a2) has2 hd
  have h14 : ((vs.setIfInBounds 3 (Value.ref a2)).setIfInBounds 4 (Value.bool true))[1]? = some Value.none := set_other (by decide) (set_other (by decide) h1)
  refine ⟨oe, vs, cls, has2, hz.1, hd, h1, h5 a oe vs rfl ha hd, r1, r2, .inr ⟨a2, oe2, vs2, rfl, ha2, hd2, by rw [hz2.1]; exact rr1⟩, tk _ _ (XE.new KG k4 gG ha4 ⟨by rw [Obj.cls_mapFields, Obj.cls_mapFields]; exact hz.1, by rw [HandSPX.dict_mapFields, HandSPX.dict_mapFields]; exact hz.2⟩ hd4 h14 nH2 os2 ag2 qq)⟩
/-- C(e, ..) of an own class with an own __init__, its record told -/
theorem pmk5_oex {X : Cx} {e : Expr} {es : List Expr} {ta : TA} {p pos : Pos} {CX : CXT} {x : Str} {C fI : Addr} {k : Nat} {fd : FuncData} {ps : List Str} {sp : Sp} {ds : List Value} {dvs : List V} (T : OexC X.K C) (iC : PySem.W.findIn X.K (.ref C) "__init__" = some (some (.ref fI))) (tI : PySem.W.typeIn X.K (.ref fI) = some (.type "function"))
    (F1 : FnOk X.prog X.w X.K X.mg X.base CX k fI fd ps sp) (hr : Room (k + 1) X.A) (hb : Binds X.K fd ps ds) (hd : Vals dvs ds) (hx : Passes CX X (fun _ _ _ => False)) (hg : Gl X x) (hm : X.mg x = some (.ref C)) (ha : PA X (e :: es) ta)
    (hdb : (x == ("__debug__" : Str)) = false := by decide) (he : starEach (e :: es) X.env = (false, eval e X.env) :: starEach es X.env := by rfl) (hpl : (backTo pos (starEach es X.env)).any (·.1) = false := by rfl) :
    PMk5c X (.Call (.Name x p) (e :: es) [] pos) (tMkO C sp dvs ta) := by
  intro pins s σ H Q I h
  obtain ⟨nm, q, N, bs, bm, sn, sub, ab, col, dd, k0, k1, k2, k3, k5, hC, hbm⟩ := T.cls
  refine wpAny_Call_Name_kw (ld_glob I hg hm ?_ hdb)
  refine PySem.W.callWith_K (h₀ := X.base) I.ok.mod.kin T.kC (thn (ha.run pos pins s σ H _ I h) fun us s1 ⟨vs, H1, I1, r1, hz, q1⟩ => ⟨I1.kIn, ?_⟩) he hpl
  show wpAny _ _ (call (.ref C) us) _ _ _
  obtain ⟨hp, g, dr, tk, os⟩ := s1
  have hsz : hp.objs.size ≤ hp.objs.size + 1 := Nat.le_succ _
  have hn : H1 (hp.objs.size + 1) = none := I1.hok.fresh hsz
  have hq := q1 (hp.objs.size + 1) hn
  have kk : ∀ b o, hp.get? b = some o → ((hp.push (PySem.W.kdv_tup us)).push (PySem.HandSPX.excO C hp.objs.size)).get? b = some o := fun b o e => Heap.get?_push_of_some _ (Heap.get?_push_of_some _ e)
  have hget : ((hp.push (PySem.W.kdv_tup us)).push (PySem.HandSPX.excO C hp.objs.size)).get? (hp.objs.size + 1) = some (PySem.HandSPX.excO C hp.objs.size) := by heap_get
  have I2 : Inv X pins σ (upd H1 (hp.objs.size + 1) (exo (hp.objs.size + 1) C none)) ⟨(hp.push (PySem.W.kdv_tup us)).push (PySem.HandSPX.excO C hp.objs.size), g, dr, tk, os⟩ :=
    I1.laid (t' := tk) (a := hp.objs.size + 1) (o := exo (hp.objs.size + 1) C none) (h' := (hp.push (PySem.W.kdv_tup us)).push (PySem.HandSPX.excO C hp.objs.size)) kk hsz (exo_ok hget)
  have r2 : Vals (V.ref (hp.objs.size + 1) :: (vs ++ dvs)) (Value.ref (hp.objs.size + 1) :: (us ++ ds)) := .cons rfl (r1.append hd)
  have hl : (Value.ref (hp.objs.size + 1) :: us ++ ds).length = ps.length := by
    have e := r2.length
    rw [F1.len _ _ _ _ hq] at e
    exact e.symm
  have hus : us.length ≤ sizeLine := by
    rw [← Paired.length r1, sizeLine_eq]
    omega
  refine wpAny_call (PySem.HandSPX.call_own F.excBase_ValueError (fun Y => PySem.HandSPX.refsVE_contains Y bm hbm) (I1.kIn _ _ hC) (PySem.W.looks_findIn I1.kIn iC) (fun self => PySem.W.bind_fn I1.kIn self tI) hus
    (codeAny_mono (F1.run _ X.stack _ _ ⟨Value.ref (hp.objs.size + 1) :: us, []⟩ (Value.ref (hp.objs.size + 1) :: (us ++ ds)) _ _ (fun _ _ _ => False) (hr.make C us []) (I2.env0.make C us []) (hb _ (Value.ref (hp.objs.size + 1) :: us) I2.kIn hl) r2 hq) fun r s' hq' => ?_))
  cases r with
  | error er => exact hx pins σ _ _ er s' I2 hq'
  | ok fl =>
    cases fl with
    | ret u =>
      obtain ⟨v, H2, os2, bare2, un2, hok2, rv, ev, d, fs, ea, ed, hd1, q2⟩ := hq'
      subst ev
      obtain ⟨h2, g2, d2, t2, os'⟩ := s'
      refine ⟨rv, ?_⟩
      obtain ⟨t0, G, J, kG, ge, hoe, na⟩ := mk_end0 (d2 := d2) (t2 := t2) I1 hsz kk un2 hok2 os2 bare2 ea ed hd1
      refine ⟨⟨_, _, _, ⟨G, g2, d2, t2, os'⟩, _, .ref C, some d, rfl, J, kG, ge, hoe, ⟨rfl, rfl⟩, rfl, rfl, na, rfl, bare2, raises_own T.exC T.tyC, q2⟩, fun a oe vs ea hg hd => ?_⟩
      cases ea
      have he' : h2.get? (hp.objs.size + 1) = some oe := hg
      rw [hoe] at he'
      cases he'
      cases hd
      show (4 : Nat) < 6
      decide
    | next => exact False.elim hq'
    | brk => exact False.elim hq'
    | cont => exact False.elim hq'
section
variable {X : Cx} {cm : Wd} {W : WX} {P : Nat → Bool} {C C2 f' f2 : Str} {a b : Expr} {ta tb : TE} {ma mb : ME D} {pos pos2 p p2 p' cpos : Pos} {j : Nat}
/-- what the making of an error computes -/
theorem mk_told {C : Addr} {f : Str} {H : Hp} {v : V} {Q : XK} (hp : ∀ dx, H dx = none → Q (.ref C) (some dx) (upd H dx (.xd [(f, v)]))) : [v].length ≤ 1000 ∧ ∀ q, H q = none → spExc C f (V.ref q :: ([v] ++ [])) (upd H q (exo q C none))
    (fun v H2 => v = .non ∧ ∃ (d : Addr) (fs : List (Str × V)), H2 q = some (exo q C (some d)) ∧ H2 d = some (exd d fs) ∧ H d = none ∧ Q (.ref C) (some d) (upd (del H2 q) d (.xd fs))) (fun _ _ _ => False) := by
  refine ⟨by simp, fun q hq => ⟨q, v, rfl, upd_same, fun dx n1 n2 => ⟨rfl, dx, [(f, v)], upd_same, ?_, ?_, ?_⟩⟩⟩
  · rw [upd_ne n2, upd_same]
  · rw [upd_ne n2] at n1; exact n1
  · have n1' : H dx = none := by rw [upd_ne n2] at n1; exact n1
    have eH : upd (del (upd (upd (upd H q (exo q C none)) dx (exd dx [(f, v)])) q (exo q C (some dx))) q) dx (.xd [(f, v)]) = upd H dx (.xd [(f, v)]) := by
      funext b
      unfold upd del
      by_cases e1 : b = dx
      · simp [e1]
      · by_cases e2 : b = q
        · simp [e1, e2, hq]
        · simp [e1, e2]
    rw [eH]
    exact hp dx n1'
/-- raise C(e) from None -/
theorem se_raiseN (E : ErrP X.prog X.w X.K X.mg X.base cm C f') (hc : X.calm = true) (tk : Takes X W) (hr : Room 2 X.A) (hg : Gl X C) (ha : DE X cm W a ta ma)
    (hdb : (C == ("__debug__" : Str)) = false := by decide) (he : starEach (a :: []) X.env = (false, eval a X.env) :: starEach [] X.env := by rfl) (hpl : (backTo pos (starEach [] X.env)).any (·.1) = false := by rfl) :
    SE X cm W P (.Raise (some (.Call (.Name C p) [a] [] pos)) (some (.Constant .none j cpos)) p') (fun _ σ H => tMkO (cm C) (spExc (cm C) f') [] (tCons ta tNil) σ H fun cls d H' => W cls d σ H') (sRaise1 C f' ma) := by
  obtain ⟨fd, ps, h1, h2⟩ := E.ok
  refine ⟨ps_raiseFN hc tk (pmk5_oex E.T E.iC E.tI h1 hr h2 .nil pass0 hg E.g (pa_cons ha.pe pa_nil he) hdb he hpl), fun ρ r e F σ H D hr' hp => ?_⟩
  refine ha.sim.stepS e hr' hp fun d ρ1 v F1 H1 e1 p1 r1 => ?_
  cases e1
  have key := mk_told (C := cm.cls C) (f := f') (H := H1) (v := v) (Q := fun cls d H' => W cls d σ H') fun dx n1 => by
    have p2 := Post.cold (P := P) (o := .xd [(f', v)]) p1.rel n1
    exact hp (some dx) _ σ _ (p1.any.trans p2) (.inr ⟨dx, _, rfl, upd_same, .cons (Rep.mono p2.mono r1) .nil⟩)
  exact key
def sRaiseF (C f : Str) (m mb : ME D) : MS := m.thn fun d => mb.thn fun _ ρ => some (.ex C [(f, d)] ρ)
/-- raise C(e) from C2(e2) -/
theorem se_raiseF (E : ErrP X.prog X.w X.K X.mg X.base cm C f') (E2 : ErrP X.prog X.w X.K X.mg X.base cm C2 f2) (hc : X.calm = true) (tk : Takes X W) (hr : Room 2 X.A) (hg : Gl X C) (hg2 : Gl X C2) (ha : DE X cm W a ta ma) (hb : DE X cm W b tb mb)
    (hdb : (C == ("__debug__" : Str)) = false := by decide) (he : starEach (a :: []) X.env = (false, eval a X.env) :: starEach [] X.env := by rfl) (hpl : (backTo pos (starEach [] X.env)).any (·.1) = false := by rfl)
    (hdb2 : (C2 == ("__debug__" : Str)) = false := by decide) (he2 : starEach (b :: []) X.env = (false, eval b X.env) :: starEach [] X.env := by rfl) (hpl2 : (backTo pos2 (starEach [] X.env)).any (·.1) = false := by rfl) :
    SE X cm W P (.Raise (some (.Call (.Name C p) [a] [] pos)) (some (.Call (.Name C2 p2) [b] [] pos2)) p')
      (fun _ σ H => tMkO (cm C) (spExc (cm C) f') [] (tCons ta tNil) σ H fun cls d H' => tMkO (cm C2) (spExc (cm C2) f2) [] (tCons tb tNil) σ H' fun cls2 d2 H2 => W cls d σ H2) (sRaiseF C f' ma mb) := by
  obtain ⟨fd, ps, h1, h2⟩ := E.ok
  obtain ⟨fd2, ps2, h12, h22⟩ := E2.ok
  refine ⟨ps_raiseFE hc tk (pmk5_oex E.T E.iC E.tI h1 hr h2 .nil pass0 hg E.g (pa_cons ha.pe pa_nil he) hdb he hpl) (pmk5_oex E2.T E2.iC E2.tI h12 hr h22 .nil pass0 hg2 E2.g (pa_cons hb.pe pa_nil he2) hdb2 he2 hpl2), fun ρ r e F σ H D hr' hp => ?_⟩
  refine ha.sim.stepS e hr' hp fun d ρ1 v F1 H1 e1 p1 r1 => ?_
  have key := mk_told (C := cm.cls C) (f := f') (H := H1) (v := v) (Q := fun cls d H' => tMkO (cm.cls C2) (spExc (cm.cls C2) f2) [] (tCons tb tNil) σ H' fun cls2 d2 H2 => W cls d σ H2) fun dx n1 => by
    have pc := Post.cold (P := pinAll) (o := .xd [(f', v)]) p1.rel n1
    have p1' := p1.trans pc
    refine hb.sim.stepS e1 p1'.rel (hp.trans p1'.any) fun d2 ρ2 v2 F2 H2 e2 p2 r2 => ?_
    cases e2
    have key2 := mk_told (C := cm.cls C2) (f := f2) (H := H2) (v := v2) (Q := fun cls2 d2 H2 => W (.ref (cm.cls C)) (some dx) σ H2) fun dx2 n2 => by
      have p3 := Post.cold (P := P) (o := .xd [(f2, v2)]) p2.rel n2
      have pp := p2.any.trans p3
      exact hp (some dx) _ σ _ (p1'.any.trans pp) (.inr ⟨dx, _, rfl, pp.mono _ _ upd_same, .cons (Rep.mono (fun a o q => pp.mono a o (pc.mono a o q)) r1) .nil⟩)
    exact key2
  exact key
end
end L2.Fn
set_option maxRecDepth 100000
set_option maxHeartbeats 2000000
/-! FnBc: match of a list of two with a guard, or anything. -/
namespace L2.Fn
open PySem PySem.Spec PyProof.Rows L2
def tMatch2 (K : PySem.W.Frag) (te : TE) (i j : Nat) (tg : TT) (t1 t2 : TS) : TS := fun D σ H => te σ H fun v H1 => ∃ a xs, v = .ref a ∧ SqL K H1 a xs ∧ ((xs.length ≠ 2 ∧ t2 D σ H1) ∨
  ∃ u w, xs = [u, w] ∧ tg ((σ.set i (some u)).set j (some w)) H1 fun b H2 => if b = true then t1 D ((σ.set i (some u)).set j (some w)) H2 else t2 D ((σ.set i (some u)).set j (some w)) H2)
theorem ps_match2 {X : Cx} {sub : Expr} {te : TE} {x y : Str} {i j : Nat} {p0 p1 p2 p3 pos : Pos} {g : Expr} {tg : TT} {b1 b2 : List Stmt} {t1 t2 : TS} (hc : X.calm = true) (he : PE X sub te) (hN : X.N.Nodup) (hi : X.N[i]? = some x) (hj : X.N[j]? = some y)
    (hx : Loc X.env.scope x) (hy : Loc X.env.scope y) (fx : X.fn x = true ∨ X.env.scope.names.lookup x = some .local) (fy : X.fn y = true ∨ X.env.scope.names.lookup y = some .local) (hg : PT X g tg) (h1 : PSs X b1 t1) (h2 : PSs X b2 t2) :
    PS X (.Match sub [⟨.MatchSequence [.MatchAs none (some x) p1, .MatchAs none (some y) p2] p0, some g, b1⟩, ⟨.MatchAs none none p3, none, b2⟩] pos) (tMatch2 X.K te i j tg t1 t2) := by
  refine ⟨fun pins s σ H D I h => ?_⟩
  refine wpAny_Match (thn (he.run pins s σ H _ I h) fun v s1 ⟨z, H1, I1, r1, a, xs, ez, hl, q⟩ => ?_)
  subst ez
  cases r1
  obtain ⟨its, rv, pl, hz⟩ := I1.list hl
  have hli : s1.heap.IsList a its.toArray := pl.isList
  have hfit : (its.toArray.size : Int) < 2 ^ 63 := by
    have h1 : its.length ≤ sizeLine := by rw [← rv.length]; exact hz
    have h2 : sizeLine = 16777216 := rfl
    simp only [List.size_toArray]
    omega
  have rest : ∀ {s : Shared} {σ : St} {H : Hp} {v : Value}, Inv X pins σ H s → t2 D σ H → wpAny (model X.prog X.w) X.A (matchCases [⟨.MatchAs none none p3, none, b2⟩] X.env v false) (SP X pins D) X.xe s := by
    intro s σ H v I q
    refine wpAny_matchCases_cons (wpAny_matchPattern_Capture ?_)
    exact wpAny_assignInOrder_none (h2.run pins s σ H D I q)
  refine wpAny_matchCases_cons ?_
  rcases q with ⟨hne, q⟩ | ⟨u, w, exs, q⟩
  · refine matchSeq_list_miss hli hfit ?_ ?_
    · rw [List.size_toArray, ← rv.length]
      exact hne
    · exact rest (I1.tok _) q
  · subst exs
    cases rv with
    | @cons _ uv _ us ru rv =>
    cases rv with
    | @cons _ wv _ us' rw' rv =>
    cases rv
    have hun : ∀ {Q : List Value → Shared → Prop} {E : Value → Shared → Prop} {s : Shared}, s.heap.IsList a #[uv, wv] → (∀ h', Heap.ExtBut s.heap.objs.size s.heap h' → Q [uv, wv] { s with heap := h' }) → wpAny (model X.prog X.w) X.A (unpackItems (.ref a) 2 none) Q E s :=
      fun {Q E s} hl hQ => PySem.W.kun_itemsOf (items := #[uv, wv]) (I1.ok.hd hc) hl hQ
    refine matchSeq_list_hit (items := #[uv, wv]) hli hfit (by rfl) ?_
    refine hun (s := { s1 with toks := s1.toks + 1 + 1 }) hli fun h' hx' => ?_
    have I2 : Inv X pins σ H1 { s1 with heap := h', toks := s1.toks + 1 + 1 } := I1.kept fun b o e => hx' b o (Nat.ne_of_lt (Heap.lt_size e)) e
    refine wpAny_matchEach_cons (wpAny_matchPattern_Capture ?_)
    refine wpAny_matchEach_cons (wpAny_matchPattern_Capture ?_)
    refine wpAny_matchEach_nil ?_
    show wpAny _ _ (assignInOrder [bindName X.env x, bindName X.env y] [uv, wv]) _ _ _
    refine wpAny_assignInOrder_more (wpAny_bindName (store_ok I2 hN hi hx ru (fun s3 I3 => ?_) fx))
    refine wpAny_assignInOrder_more (wpAny_bindName (store_ok I3 hN hj hy rw' (fun s4 I4 => ?_) fy))
    refine wpAny_assignInOrder_none ?_
    refine thn (hg.run pins s4 _ H1 _ I4 q) fun ok s5 ⟨H5, I5, q5⟩ => ?_
    cases ok with
    | true => exact h1.run pins s5 _ H5 D I5 q5
    | false => exact rest I5 q5
section
variable {X : Cx} {cm : Wd} {W : WX} {P : Nat → Bool}
/-- a list of two with a guard, or anything -/
def sMatch2 (m : ME D) (i j : Nat) (mg : ME Bool) (m1 m2 : MS) : MS := m.thn fun d => match d with
  | .lst [u, w] => fun ρ => if i < ρ.length ∧ j < ρ.length then (mg.thn fun b => if b = true then m1 else m2) ((ρ.set i (.val u)).set j (.val w)) else none
  | .lst xs => if xs.length = 2 then fun _ => none else m2
  | _ => fun _ => none
theorem se_match2 {sub g : Expr} {te : TE} {tg : TT} {m : ME D} {mg : ME Bool} {x y : Str} {i j : Nat} {p0 p1 p2 p3 pos : Pos} {b1 b2 : List Stmt} {t1 t2 : TS} {m1 m2 : MS} (hc : X.calm = true) (he : DE X cm W sub te m) (hN : X.N.Nodup) (hi : X.N[i]? = some x) (hj : X.N[j]? = some y)
    (hx : Loc X.env.scope x) (hy : Loc X.env.scope y) (fx : X.fn x = true ∨ X.env.scope.names.lookup x = some .local) (fy : X.fn y = true ∨ X.env.scope.names.lookup y = some .local) (hg : TEs X cm W g tg mg) (h1 : SSE X cm W P b1 t1 m1) (h2 : SSE X cm W P b2 t2 m2)
    (hPi : P i = false) (hPj : P j = false) :
    SE X cm W P (.Match sub [⟨.MatchSequence [.MatchAs none (some x) p1, .MatchAs none (some y) p2] p0, some g, b1⟩, ⟨.MatchAs none none p3, none, b2⟩] pos) (tMatch2 X.K te i j tg t1 t2) (sMatch2 m i j mg m1 m2) := by
  refine ⟨ps_match2 hc he.pe hN hi hj hx hy fx fy hg.pt h1.pss h2.pss, fun ρ r e F σ H D hr hp => ?_⟩
  refine he.sim.stepS e hr hp fun d ρ1 v F1 H1 e1 p1 r1 => ?_
  have r1 : Rep X.K cm F1 v d := r1
  cases r1 with
  | @lst a vs xs hq rv =>
    have hsq : SqL X.K H1 a vs := SqL.of (p1.rel.sub _ _ hq)
    refine ⟨a, vs, rfl, hsq, ?_⟩
    by_cases hl : xs.length = 2
    · obtain ⟨u, w, rfl⟩ : ∃ u w, xs = [u, w] := by
        match xs, hl with
        | [u, w], _ => exact ⟨u, w, rfl⟩
      cases rv with | cons ru rv => cases rv with | cons rw' rv => cases rv with | nil =>
      refine .inr ⟨_, _, rfl, ?_⟩
      simp only at e1
      split at e1
      · rename_i hlen
        obtain ⟨q1, q2, q3⟩ := Post.store (P := P) (v := _) (s := .val u) p1.rel (.val ru) (fun _ _ z => by cases z) hlen.1 hPi
        have hj2 : j < (ρ1.set i (.val u)).length := by rw [List.length_set]; exact hlen.2
        obtain ⟨w1, w2, w3⟩ := Post.store (P := P) (v := _) (s := .val w) q1 (.val rw') (fun _ _ z => by cases z) hj2 hPj
        have pp : Post X.K cm P F1 σ H1 ρ1 F1 _ H1 ((ρ1.set i (.val u)).set j (.val w)) := {
          rel := w1
          mono := fun _ _ h => h
          lim := fun a h => .inl h
          keep := fun a o h _ => h
          new := fun a h => by
            rcases w3 a h with h | ⟨_, h⟩
            · rcases q3 a h with h | ⟨_, h⟩
              · exact .inl h
              · cases h
            · cases h
          pin := fun k hk => (w2 k hk).trans (q2 k hk)
          sl := by simp }
        refine hg.sim.stepS e1 w1 ((hp.trans p1.any).trans pp) fun c ρ2 c' F2 H2 e2 p2 r2 => ?_
        cases (show c' = c from r2)
        cases c with
        | true => exact h1.sim ρ2 r e2 F2 _ H2 D p2.rel (((hp.trans p1.any).trans pp).trans p2.any)
        | false => exact h2.sim ρ2 r e2 F2 _ H2 D p2.rel (((hp.trans p1.any).trans pp).trans p2.any)
      · cases e1
    · refine .inl ⟨by rw [rv.length]; exact hl, ?_⟩
      have e3 : m2 ρ1 = some r := by
        match xs, hl, e1 with
        | [], _, e1 => simpa using e1
        | [u], _, e1 => simpa using e1
        | [u, w], hl, _ => simp at hl
        | u :: w :: z :: xs, _, e1 => simpa using e1
      exact h2.sim ρ1 r e3 F1 σ H1 D p1.rel (hp.trans p1.any)
  | _ => cases e1
end
end L2.Fn
set_option maxRecDepth 100000
set_option maxHeartbeats 2000000
/-! FnBd: own == and own len. -/
namespace L2.Fn
open PySem PySem.Spec PyProof.Rows L2
/-- a method that is the == of its class -/
structure MetE (P : Program) (w : World) (K : PySem.W.Frag) (mg : Str → Option Value) (base : Heap) (cm : Wd) (tbl : List (Str × Fun')) (C m : Str) (k n : Nat) (f : Fun') : Prop extends Met P w K mg base cm C m k n f where
  nf : ∀ C2 f2, tbl.lookup C2 = some f2 → PySem.W.notFirst K (cm C) (.ref (cm C2)) = true
def nfB (K : PySem.W.Frag) (C C2 : Addr) : Bool := PySem.W.notFirst K C (.ref C2)
def never : XK := fun _ _ _ => False
def rEqO (K : PySem.W.Frag) (cm : Wd) (tbl : List (Str × Fun')) : R2 := fun x y H Q => ∃ (a b : Addr) (C C2 : Str) (dx dy : Addr) (fs gs : List (Str × V)) (f f2 : Fun'), x = .ref a ∧ y = .ref b ∧ H a = some (.ins (cm C) dx fs) ∧ H b = some (.ins (cm C2) dy gs) ∧
  tbl.lookup C = some f ∧ tbl.lookup C2 = some f2 ∧ spOf K cm 2 f [.ref a, .ref b] H Q never
theorem never_at {X : Cx} {σ : St} : PassesAt (L2.CX X.prog X.w) X σ never := fun pins H s e s' I h => by
  obtain ⟨a, B, H', cls, d, z1, fl, z2, ub, z3, z4, z5, z6⟩ := h
  exact z6.elim
theorem op_eqO {X : Cx} {cm : Wd} {tbl : List (Str × Fun')} {k : Nat} (hM : ∀ C f, tbl.lookup C = some f → MetE X.prog X.w X.K X.mg X.base cm tbl C "__eq__" k 2 f) (hr : Room k X.A) : OpR X (compareOp .Eq) (rEqO X.K cm tbl) := by
  intro pins s σ H x y v u Q I rx ry h
  obtain ⟨a, b, C, C2, dx, dy, fs, gs, f, f2, rfl, rfl, ha, hb, hf, hf2, q⟩ := h
  cases rx
  cases ry
  have M := hM C f hf
  obtain ⟨k', g, fd, ps, hk', hm, F, hbi⟩ := M.ok
  obtain ⟨mA, O, _⟩ := ins_get I.hok ha
  obtain ⟨od, J, _⟩ := O.look
  obtain ⟨mB, O', _⟩ := ins_get I.hok hb
  obtain ⟨od', J', _⟩ := O'.look
  obtain ⟨mF, hF⟩ := I.fr
  show wpAny (model X.prog X.w) X.A (richCompare .Eq _ _) _ _ _
  refine PySem.W.cmp_K (op := .Eq) (tb := .ref (cm C2)) hr.units0 hF I.ok.mod.kin J J'.type (M.nf C2 f2 hf2) hm.at_ hm.fn ?_
  refine wpAny_mono (run_fnSD (E := fun _ => never) (dvs := []) (us := [.ref a, .ref b]) (vs := [.ref a, .ref b]) F (hr.mono hk') hbi .nil never_at I (.cons rfl (.cons rfl .nil)) (by simpa using q)) (fun w s' z => ?_) fun _ _ x => x
  obtain ⟨z', H', I', rz, qz⟩ := z
  exact SlX.cmpback rz ⟨z', H', I', rz, qz⟩
/-- what == of two such objects gives -/
def gEqO (tbl : List (Str × Fun')) : D → D → Option S
  | .obj C fs, .obj C2 gs => match tbl.lookup C, tbl.lookup C2 with
    | some f, some _ => (match f [.val (.obj C fs), .val (.obj C2 gs)] with
      | some (.ret (.val (.bl b)) _) => some (.val (.bl b))
      | _ => none)
    | _, _ => none
  | _, _ => none
theorem od_eqO {K : PySem.W.Frag} {cm : Wd} {tbl : List (Str × Fun')} : OpD K cm (rEqO K cm tbl) (gEqO tbl) := by
  intro F σ H ρ x y dx dy s Q hr hx hy hg hQ
  unfold gEqO at hg
  split at hg
  · rename_i C fs C2 gs
    split at hg
    · rename_i f f2 e1 e2
      split at hg
      · rename_i bb ss e3
        cases hg
        cases id hx with | obj h1 h2 =>
        cases id hy with | obj h3 h4 =>
        refine ⟨_, _, C, C2, _, _, _, _, f, f2, rfl, rfl, hr.sub _ _ h1, hr.sub _ _ h3, e1, e2, ?_⟩
        refine call_at (W := fun _ _ _ _ => False) (ρ := ρ) (σ := σ) (as := [.val (.obj C fs), .val (.obj C2 gs)]) (c := .ret (.val (.bl bb)) ss) hr (.val hx (.val hy .nil)) rfl rfl (show f [.val (.obj C fs), .val (.obj C2 gs)] = _ from e3) ?_
        intro v F' H' p r
        have eb : back [Ar.val (.obj C fs), Ar.val (.obj C2 gs)] ss ρ = ρ := by
          cases ss with
          | nil => rfl
          | cons s1 ss => cases ss <;> rfl
        rw [eb] at p r
        exact hQ v F' H' p r
      · cases hg
    · cases hg
  · cases hg
theorem k_eqO {X : Cx} {cm : Wd} {tbl : List (Str × Fun')} {k : Nat} (K : PySem.W.Frag) (hM : ∀ C f, tbl.lookup C = some f → MetE X.prog X.w K X.mg X.base cm tbl C "__eq__" k 2 f) (hr : Room k X.A) (hK : X.K = K := by rfl) : OpR X (compareOp .Eq) (rEqO K cm tbl) := by
  subst hK
  exact op_eqO hM hr
theorem metE_all {P : Program} {w : World} {K : PySem.W.Frag} {mg : Str → Option Value} {base : Heap} {cm : Wd} {tbl : List (Str × Fun')} {m : Str} {k n : Nat} (t : List (Str × Fun')) (h : ∀ q ∈ t, MetE P w K mg base cm tbl q.1 m k n q.2) : ∀ C f, t.lookup C = some f → MetE P w K mg base cm tbl C m k n f := by
  induction t with
  | nil => intro C f e; cases e
  | cons q t ih =>
    intro C f e
    rw [List.lookup_cons] at e
    split at e
    · rename_i hq
      cases e
      rw [beq_iff_eq.mp hq]
      exact h q List.mem_cons_self
    · exact ih (fun r hr => h r (List.mem_cons_of_mem _ hr)) C f e
theorem lk_all {α : Type} {P : Str → Prop} (t : List (Str × α)) (h : ∀ q ∈ t, P q.1) : ∀ C f, t.lookup C = some f → P C := by
  induction t with
  | nil => intro C f e; cases e
  | cons q t ih =>
    intro C f e
    rw [List.lookup_cons] at e
    split at e
    · rename_i hq
      cases e
      rw [beq_iff_eq.mp hq]
      exact h q List.mem_cons_self
    · exact ih (fun r hr => h r (List.mem_cons_of_mem _ hr)) C f e
end L2.Fn
set_option maxRecDepth 100000
set_option maxHeartbeats 2000000
/-! FnBe: isinstance(x, own class), own len. -/
namespace L2.Fn
open PySem PySem.Spec PyProof.Rows L2
/-- the class of the object and the class asked for -/
structure IsoC (K : PySem.W.Frag) (C D : Addr) : Prop where
  cl : Cls K C
  ha : PySem.W.findIn K (.ref C) "__class__" = some (some (.builtin "object.__class__"))
  hn : PySem.W.specialIn K (.builtin "object.__class__") "__get__" = some (some (.builtin "getset_descriptor.__get__"))
  htk : PySem.W.takesIn K (.builtin "object.__class__") = some true
  hm : PySem.W.mroIn K C (.type "object") = some true
  kit : PySem.W.kitOne K (.ref C) (.ref D) = some true
def isoB (K : PySem.W.Frag) (C D : Addr) : Bool := decide (PySem.W.findIn K (.ref C) "__class__" = some (some (.builtin "object.__class__")) ∧ PySem.W.specialIn K (.builtin "object.__class__") "__get__" = some (some (.builtin "getset_descriptor.__get__")) ∧
  PySem.W.takesIn K (.builtin "object.__class__") = some true ∧ PySem.W.mroIn K C (.type "object") = some true ∧ PySem.W.kitOne K (.ref C) (.ref D) = some true)
theorem isoB_ok {K : PySem.W.Frag} {C D : Addr} (c : Cls K C) (h : isoB K C D = true) : IsoC K C D := by
  obtain ⟨h1, h2, h3, h4, h5⟩ := of_decide_eq_true h
  exact ⟨c, h1, h2, h3, h4, h5⟩
def IsoOk (K : PySem.W.Frag) (cm : Wd) (Cs : List Str) (D : Str) : Prop := ∀ C ∈ Cs, IsoC K (cm C) (cm D)
def gIsO (Cs : List Str) : D → Option S
  | .obj C _ => if C ∈ Cs then some (.val (.bl true)) else none
  | _ => none
def mIsO (Cs : List Str) (m : ME D) : ME S := m.bnd fun d => opt (gIsO Cs d)
section
variable {X : Cx} {cm : Wd} {W : WX} {a : Expr} {ta : TE} {ma : ME D} {p p2 pos : Pos}
theorem oe_isO (K : PySem.W.Frag) {Cs : List Str} {y D : Str} (hI : IsoOk K cm Cs D) (hm : X.mg "isinstance" = none) (hm2 : X.mg y = some (.ref (cm D))) (ha : DE X cm W a ta ma) (hK : X.K = K := by rfl) (hg : Gl X "isinstance" := by rfl) (hg2 : Gl X y := by rfl) (hyd : (y == ("__debug__" : Str)) = false := by decide)
    (h1 : starEach (.Name y p2 :: []) X.env = (false, eval (.Name y p2) X.env) :: starEach [] X.env := by rfl) (h2 : starEach (a :: [.Name y p2]) X.env = (false, eval a X.env) :: starEach [.Name y p2] X.env := by rfl) (hpl : (backTo pos (starEach [.Name y p2] X.env)).any (·.1) = false := by rfl) :
    OE X cm W (.Call (.Name "isinstance" p) [a, .Name y p2] [] pos) (tCB (rIsi K) (tCons ta (tCons (tC (.ref (cm D))) tNil))) (mIsO Cs ma) := by
  subst hK
  refine ⟨pe_callB call_isi hg hm boot_isinstance (pa_cons ha.pe (pa_cons (pe_glob hg2 hm2 rfl hyd) pa_nil h1) h2) (by decide) (by decide) h2 hpl, fun ρ r e F σ H Q hr hp => ?_⟩
  refine ha.sim.step e hr hp fun d ρ1 v F1 H1 e1 p1 r1 => ?_
  obtain ⟨s, g, rfl⟩ := opt_ok e1
  have r1 : Rep X.K cm F1 v d := r1
  cases r1 with
  | @obj a C dx fs gs h3 h4 =>
    simp only [gIsO] at g
    split at g
    · rename_i hC
      cases g
      have I := hI C hC
      exact ⟨_, _, .ref (cm C), .ref (cm D), true, rfl, .own _, .base (.ins (p1.rel.sub _ _ h3) I.cl I.ha I.hn I.htk I.hm), I.kit, hp _ F1 H1 p1 ⟨.val .bl, fun _ _ z => by cases z⟩⟩
    · cases g
  | _ => cases g
/-! ### own len -/
def rLenO (K : PySem.W.Frag) (cm : Wd) (tbl : List (Str × Fun')) : List V → Hp → VK → Prop := fun xs H Q => ∃ (a : Addr) (C : Str) (dx : Addr) (fs : List (Str × V)) (f : Fun'), xs = [.ref a] ∧ H a = some (.ins (cm C) dx fs) ∧ tbl.lookup C = some f ∧
  spOf K cm 1 f [.ref a] H (fun v H' => ∃ n : Nat, v = .int n ∧ n < 2 ^ 63 ∧ Q (.int n) H') never
theorem call_lenO {tbl : List (Str × Fun')} {k : Nat} (K : PySem.W.Frag) (hM : ∀ C f, tbl.lookup C = some f → Met X.prog X.w K X.mg X.base cm C "__len__" k 1 f) (hr : Room (k + 1) X.A) (hK : X.K = K := by rfl) : CallR X (.builtin "len") (rLenO K cm tbl) := by
  subst hK
  intro pins s σ H xs us Q I rs h
  obtain ⟨a, C, dx, fs, f, rfl, ha, hf, q⟩ := h
  obtain ⟨u, rfl, ru⟩ := vals1 rs
  obtain rfl : u = Value.ref a := ru
  obtain ⟨k', g, fd, ps, hk', hm, F, hbi⟩ := (hM C f hf).ok
  obtain ⟨mA, O, _⟩ := ins_get I.hok ha
  obtain ⟨od, J, _⟩ := O.look
  refine Calls.call_function_entry kind_len plain_len entry_len (args_len1 _) ?_
  unfold Builtin.«len»
  refine wpAny_bind (m := oneArg "len" _) (wpAny_pure ?_)
  refine wpAny_bind (m := callSpecial? (.ref a) (PySem.Str.ofString "__len__")) (PySem.W.special_fn I.kIn J hm.at_ (beq_iff_eq.mp hm.fn) ?_)
  have r2 : Vals [V.ref a] [Value.ref a] := .cons rfl .nil
  have hl : ([Value.ref a] : List Value).length = ps.length := by rw [← r2.length]; exact F.len _ _ _ _ q
  refine wpAny_call (codeAny_mono (F.run X.A.in1 X.stack s H ⟨[.ref a], []⟩ [.ref a] [.ref a] _ never (hr.mono (Nat.succ_le_succ hk')).in1 I.env0.in1 (by simpa using hbi s [.ref a] I.kIn (by simpa using hl)) r2 q) fun r s' hq => ?_)
  cases r with
  | error e =>
    exact never_at pins H s e s' I hq
  | ok fl =>
    cases fl with
    | ret u =>
      obtain ⟨z, H', I', rz, n, rfl, hn, qz⟩ := I.after hq
      obtain ⟨t, rfl⟩ := rz
      refine wpAny_bind (wpAny_holding (wpAny_pure ?_))
      refine wpAny_bind (wpAny_letGo ?_)
      show wpAny _ _ (if ((n : Nat) : Int) < 0 then _ else _) _ _ _
      rw [if_neg (by omega)]
      show wpAny _ _ (if ((n : Nat) : Int) ≥ 2 ^ 63 then _ else _) _ _ _
      rw [if_neg (by omega)]
      exact wpAny_bind (wpAny_mkInt (wpAny_pure ⟨_, rfl, .int n, H', I'.tok _, ⟨_, rfl⟩, qz⟩))
    | next => exact False.elim hq
    | brk => exact False.elim hq
    | cont => exact False.elim hq
def gLenO (tbl : List (Str × Fun')) : D → Option S
  | .obj C fs => match tbl.lookup C with
    | some f => (match f [.val (.obj C fs)] with
      | some (.ret (.val (.int n)) _) => if 0 ≤ n ∧ n < 2 ^ 63 then some (.val (.int n)) else none
      | _ => none)
    | none => none
  | _ => none
theorem cd_lenO {K : PySem.W.Frag} {tbl : List (Str × Fun')} (hK : X.K = K := by rfl) : CallD1 X cm (rLenO K cm tbl) (gLenO tbl) := by
  subst hK
  intro F σ H ρ x dx s Q hr hx hg hQ
  unfold gLenO at hg
  split at hg
  · rename_i C fs
    split at hg
    · rename_i f e1
      split at hg
      · rename_i n ss e3
        split at hg
        · rename_i hn
          cases hg
          cases id hx with | obj h1 h2 =>
          refine ⟨_, C, _, _, f, rfl, hr.sub _ _ h1, e1, ?_⟩
          refine call_at (W := fun _ _ _ _ => False) (ρ := ρ) (σ := σ) (as := [.val (.obj C fs)]) (c := .ret (.val (.int n)) ss) hr (.val hx .nil) rfl rfl (show f [.val (.obj C fs)] = _ from e3) ?_
          intro v F' H' p r
          have eb : back [Ar.val (.obj C fs)] ss ρ = ρ := by
            cases ss with
            | nil => rfl
            | cons s1 ss => cases ss <;> rfl
          rw [eb] at p r
          have hv : v = .int n := by
            have := r.1.of_val
            cases this
            rfl
          subst hv
          obtain ⟨m, rfl⟩ := Int.eq_ofNat_of_zero_le hn.1
          exact ⟨m, rfl, by exact_mod_cast hn.2, hQ _ F' H' p r⟩
        · cases hg
      · cases hg
    · cases hg
  · cases hg
end
end L2.Fn
set_option maxRecDepth 100000
set_option maxHeartbeats 4000000
/-! FnLib: what the program's and the laws' defs compute (printed). -/
namespace L2.Fn
open PySem PySem.Spec PyProof.Rows L2
def KS : List Str := ["Join", "Lap"]
def CN_KIND : List (Str × D) := [("Join", .str "join"), ("Lap", .str "lap")]
def SUB_BadSet : Str → Option Bool := fun C => if C = "BadSet" then some true else none
def subOf (L : List Str) (C : Str) : Str → Option Bool := fun C' => if C' ∈ L then some (decide (C' = C)) else none
/-! is_int -/
def m_is_int : MS := (sRet (mWarm (mAndV (mCold (mIsT isInt (mVar 0))) (mCold (mWarm (mNotV (mCold (mIsT (fun n => n == "bool") (mVar 0)))))))))
def f_is_int : Fun' := runDef 0 [true] m_is_int
/-! check_number -/
def m_check_number : MS := (sSeq (sIf (mNot (mTest (mCall f_is_int [] (aCons (mVar 0) aNil)))) (sRaise1 "BadNumber" "name" (mVar 1)) sNil)
  (sSeq (sIf (mTest (mOp gLt (mVar 0) (mVar 2))) (sRaise1 "BadNumber" "name" (mVar 1)) sNil)
  (sSeq (sIf (mAnd (mTest (mOp gNotN (mVar 3) (ret .non))) (mTest (mOp gGt (mVar 0) (mVar 3)))) (sRaise1 "BadNumber" "name" (mVar 1)) sNil)
  (sRet (mMove 0)))))
def f_check_number : Fun' := runDef 0 [true, true, true, true] m_check_number
/-! set_of -/
def m_set_of : MS := (sSeq (sDrop (mCall f_check_number [] (aCons (mVar 0) (aCons (ret (.str "many")) (aCons (ret (.int 0)) (aCons (ret .non) aNil))))))
  (sSeq (sIf (mNot (mTest (mIsT isLT (mVar 1)))) (sRaise1 "BadSet" "place" (mUn gNeg (ret (.int 1)))) sNil)
  (sSeq (sAsg (ret (.dK [])) (gSetM 2))
  (sSeq (sFor (mEnum (mVar 1)) (gTupM 2 (gConsM (gSetM 3) (gConsM (gSetM 4) gNilM))) (sSeq (sIf (mOr (mNot (mTest (mCall f_is_int [] (aCons (mVar 4) aNil)))) (mOr (mTest (mOp gLt (mVar 4) (ret (.int 0)))) (mOr (mTest (mOp gGe (mVar 4) (mVar 0))) (mTest (mKeyN false 2 (mVar 4)))))) (sRaise1 "BadSet" "place" (mVar 3)) sNil)
  (sPutN 2 (mVar 4) (ret (.bl true)))))
  (sRet (mB1 gTuple (mCold (mB1 gSorted (mCold (mListKN 2))))))))))
def f_set_of : Fun' := runDef 3 [true, true] m_set_of
/-! both -/
def m_both : MS := (sSeq (sAsg (ret (.dK [])) (gSetM 2))
  (sSeq (sFor (mItems (mVar 0)) (gSetM 3) (sPutN 2 (mVar 3) (ret (.bl true))))
  (sSeq (sFor (mItems (mVar 1)) (gSetM 3) (sPutN 2 (mVar 3) (ret (.bl true))))
  (sRet (mB1 gTuple (mCold (mB1 gSorted (mCold (mListKN 2)))))))))
def f_both : Fun' := runDef 2 [true, true] m_both
/-! common -/
def m_common : MS := (sSeq (sAsg (mDc (mItems (mVar 1)) (gSetM 3) mYes (mVar 3) (ret (.bl true)) (([("part", 3)] : List (Str × Nat)).map (·.2))) (gSetM 2))
  (sRet (mB1 gTuple (mCold (mLc (mItems (mVar 0)) (gSetM 3) (mTest (mKeyN false 2 (mVar 3))) (mVar 3) (([("part", 3)] : List (Str × Nat)).map (·.2)))))))
def f_common : Fun' := runDef 2 [true, true] m_common
/-! minus -/
def m_minus : MS := (sSeq (sAsg (mDc (mItems (mVar 1)) (gSetM 3) mYes (mVar 3) (ret (.bl true)) (([("part", 3)] : List (Str × Nat)).map (·.2))) (gSetM 2))
  (sRet (mB1 gTuple (mCold (mLc (mItems (mVar 0)) (gSetM 3) (mTest (mKeyN true 2 (mVar 3))) (mVar 3) (([("part", 3)] : List (Str × Nat)).map (·.2)))))))
def f_minus : Fun' := runDef 2 [true, true] m_minus
/-! pair_of -/
def m_pair_of : MS := (sSeq (sIf (mOr (mNot (mTest (mIsT isLT (mVar 1)))) (mTest (mOp gNe (mLenN 1) (ret (.int 2))))) (sRet (mWarm (ret .non))) sNil)
  (sSeq (sAsg (mWarm (mVar 1)) (gTupM 2 (gConsM (gSetM 2) (gConsM (gSetM 3) gNilM))))
  (sSeq (sIf (mOr (mNot (mTest (mCall f_is_int [] (aCons (mVar 2) aNil)))) (mNot (mTest (mCall f_is_int [] (aCons (mVar 3) aNil))))) (sRet (mWarm (ret .non))) sNil)
  (sSeq (sIf (mOr (mTest (mOp gLt (mVar 2) (ret (.int 0)))) (mOr (mTest (mOp gGe (mVar 2) (mVar 3))) (mTest (mOp gGt (mVar 3) (mVar 0))))) (sRet (mWarm (ret .non))) sNil)
  (sRet (mWarm (mTup (mCons (mVar 2) (mCons (mVar 3) mNil)))))))))
def f_pair_of : Fun' := runDef 2 [true, true] m_pair_of
/-! _runs_of -/
def m__runs_of : MS := (sSeq (sIf (mNot (mTest (mIsT isLT (mVar 1)))) (sRaise1 "BadRun" "place" (mUn gNeg (ret (.int 1)))) sNil)
  (sSeq (sAsg (mLst mNil) (gSetM 2))
  (sSeq (sFor (mEnum (mVar 1)) (gTupM 2 (gConsM (gSetM 3) (gConsM (gSetM 4) gNilM))) (sSeq (sAsg (mCall f_pair_of [] (aCons (mVar 0) (aCons (mVar 4) aNil))) (gSetM 5))
  (sSeq (sIf (mTest (mOp gIsN (mVar 5) (ret .non))) (sRaise1 "BadRun" "place" (mVar 3)) sNil)
  (sDrop (mAppN 2 (mVar 5))))))
  (sRet (mB1 gTuple (mVar 2))))))
def f__runs_of : Fun' := runDef 4 [true, true] m__runs_of
/-! check_run -/
def m_check_run : MS := (sSeq (sAsg (mCall f_pair_of [] (aCons (mFldN KS "size" 0) (aCons (mVar 1) aNil))) (gSetM 2))
  (sSeq (sIf (mTest (mOp gIsN (mVar 2) (ret .non))) (sRaise1 "BadRun" "place" (mUn gNeg (ret (.int 1)))) sNil)
  (sRet (mMove 2))))
def f_check_run : Fun' := runDef 1 [true, true] m_check_run
/-! Market___init__ -/
def m_Market___init__ : MS := (sSeq (sFldN KS "size" 0 (mCold (mCall f_check_number [] (aCons (mVar 1) (aCons (ret (.str "size")) (aCons (ret (.int 1)) (aCons (ret (.int 30)) aNil)))))))
  (sSeq (sFldN KS "runs" 0 (mCold (mCall f__runs_of [] (aCons (mVar 1) (aCons (mVar 2) aNil)))))
  (sFldN KS "gone" 0 (mCold (mCall f_set_of [] (aCons (mLen (mFldN KS "runs" 0)) (aCons (mVar 3) aNil)))))))
def f_Market___init__ : Fun' := runDef 0 [true, true, true, true] m_Market___init__
/-! Join___init__ -/
def f_Join___init__ : Fun' := fnSup "Join" f_Market___init__
/-! Lap___init__ -/
def f_Lap___init__ : Fun' := fnSup "Lap" f_Market___init__
/-! demand_of -/
def m_demand_of : MS := (sSeq (sIf (mTest (mCall f_is_int [] (aCons (mVar 1) aNil))) (sRet (mB1 gTuple (mCold (mLc (mRange1 (mFldN KS "size" 0)) (gSetM 2) mYes (mVar 1) (([("_", 2)] : List (Str × Nat)).map (·.2)))))) sNil)
  (sSeq (sIf (mOr (mNot (mTest (mIsT isLT (mVar 1)))) (mTest (mOp gNe (mLenN 1) (mFldN KS "size" 0)))) (sRaise1 "BadDemand" "place" (mUn gNeg (ret (.int 1)))) sNil)
  (sSeq (sFor (mEnum (mVar 1)) (gTupM 2 (gConsM (gSetM 3) (gConsM (gSetM 4) gNilM))) (sIf (mNot (mTest (mCall f_is_int [] (aCons (mVar 4) aNil)))) (sRaise1 "BadDemand" "place" (mVar 3)) sNil))
  (sRet (mB1 gTuple (mVar 1))))))
def f_demand_of : Fun' := runDef 3 [true, true] m_demand_of
/-! _cover -/
def m__cover : MS := (sSeq (sAsg (mLc (mRange1 (mCold (mOp gAdd (mFldN KS "size" 0) (ret (.int 1))))) (gSetM 3) mYes (ret (.int 0)) (([("_", 3)] : List (Str × Nat)).map (·.2))) (gSetM 2))
  (sSeq (sFor (mItems (mVar 1)) (gSetM 4) (sSeq (sAsg (mWarm (mIx (mFldN KS "runs" 0) (mVar 4))) (gTupM 2 (gConsM (gSetM 5) (gConsM (gSetM 6) gNilM))))
  (sSeq (sAugN 2 gAddI (mVar 5) (ret (.int 1)))
  (sAugN 2 gSubI (mVar 6) (ret (.int 1))))))
  (sSeq (sAsg (mLst mNil) (gSetM 7))
  (sSeq (sAsg (mWarm (ret (.int 0))) (gSetM 8))
  (sSeq (sFor (mRange1 (mFldN KS "size" 0)) (gSetM 9) (sSeq (sAsg (mOp gAdd (mVar 8) (mIxN 2 (mVar 9))) (gSetM 8))
  (sDrop (mAppN 7 (mVar 8)))))
  (sRet (mB1 gTuple (mVar 7))))))))
def f__cover : Fun' := runDef 8 [true, true] m__cover
/-! _misfit -/
def m__misfit : MS := (sSeq (sAsg (mOp gEq (mCon CN_KIND "KIND" (mVar 0)) (ret (.str "join"))) (gSetM 3))
  (sSeq (sFor (mEnum (mCold (mCall f__cover [] (aCons (mVar 0) (aCons (mVar 2) aNil))))) (gTupM 2 (gConsM (gSetM 4) (gConsM (gSetM 5) gNilM))) (sIf (mOr (mTest (mOp gLt (mVar 5) (mIxN 1 (mVar 4)))) (mAnd (mTest (mWarm (mVar 3))) (mTest (mOp gGt (mVar 5) (mIxN 1 (mVar 4)))))) (sRet (mMove 4)) sNil))
  (sRet (mWarm (ret .non)))))
def f__misfit : Fun' := runDef 3 [true, true, true] m__misfit
/-! is_stock -/
def m_is_stock : MS := (sSeq (sAsg (mCall f_demand_of [] (aCons (mVar 0) (aCons (mVar 1) aNil))) (gSetM 3))
  (sSeq (sAsg (mCall f_set_of [] (aCons (mLen (mFldN KS "runs" 0)) (aCons (mVar 2) aNil))) (gSetM 4))
  (sSeq (sIf (mTest (mOp gGt (mLen (mCold (mCall f_common [] (aCons (mVar 4) (aCons (mFldN KS "gone" 0) aNil))))) (ret (.int 0)))) (sRet (mWarm (ret (.bl false)))) sNil)
  (sRet (mOp gIsN (mCold (mCall f__misfit [] (aCons (mVar 0) (aCons (mVar 3) (aCons (mVar 4) aNil))))) (ret .non))))))
def f_is_stock : Fun' := runDef 2 [true, true, true] m_is_stock
/-! changed -/
def m_changed : MS := (sSeq (sAsg (mB1 gList (mCold (mCall f_demand_of [] (aCons (mVar 0) (aCons (mVar 1) aNil))))) (gSetM 4))
  (sSeq (sAsg (mCall f_check_run [] (aCons (mVar 0) (aCons (mVar 2) aNil))) (gTupM 2 (gConsM (gSetM 5) (gConsM (gSetM 6) gNilM))))
  (sSeq (sIf (mNot (mTest (mCall f_is_int [] (aCons (mVar 3) aNil)))) (sRaise1 "BadNumber" "name" (ret (.str "by"))) sNil)
  (sSeq (sFor (mRange2 (mVar 5) (mVar 6)) (gSetM 7) (sAugN 4 gAddI (mVar 7) (mVar 3)))
  (sRet (mB1 gTuple (mVar 4)))))))
def f_changed : Fun' := runDef 4 [true, true, true, true] m_changed
/-! _partners -/
def m__partners : MS := (sSeq (sAsg (mB1 (gSortT 3 1000) (mCold (mLc2 (mItems (mVar 1)) (gSetM 3) mYes (mItems (mTup (mCons (ret (.int 0)) (mCons (ret (.int 1)) mNil)))) (gSetM 4) mYes (mTup (mCons (mIx (mIx (mFldN KS "runs" 0) (mVar 3)) (mVar 4)) (mCons (mVar 3) (mCons (mVar 4) mNil)))) (([("part", 3), ("side", 4)] : List (Str × Nat)).map (·.2)) [4]))) (gSetM 2))
  (sSeq (sAsg (ret (.dT [])) (gSetM 5))
  (sSeq (sFor (mRange3 (ret (.int 0)) (mLenN 2) (ret (.int 2))) (gSetM 6) (sSeq (sAsg (mWarm (mTup (mCons (mIx (mIxN 2 (mVar 6)) (ret (.int 1))) (mCons (mIx (mIxN 2 (mVar 6)) (ret (.int 2))) mNil)))) (gSetM 7))
  (sSeq (sAsg (mWarm (mTup (mCons (mIx (mIxN 2 (mCold (mOp gAdd (mVar 6) (ret (.int 1))))) (ret (.int 1))) (mCons (mIx (mIxN 2 (mCold (mOp gAdd (mVar 6) (ret (.int 1))))) (ret (.int 2))) mNil)))) (gSetM 8))
  (sSeq (sPutN 5 (mVar 7) (mVar 8))
  (sPutN 5 (mVar 8) (mVar 7))))))
  (sRet (mMove 5)))))
def f__partners : Fun' := runDef 7 [true, true] m__partners
/-! _halves -/
def m__halves : MS := (sSeq (sAsg (mCall f__partners [] (aCons (mVar 0) (aCons (mVar 1) aNil))) (gSetM 2))
  (sSeq (sAsg (ret (.dK [])) (gSetM 3))
  (sSeq (sFor (mItems (mVar 1)) (gSetM 4) (sSeq (sPar 5 6 (mCons (mVar 4) (mCons (ret (.int 0)) mNil)))
  (sWhile (mTest (mKeyN true 3 (mVar 5))) (sSeq (sPutN 3 (mVar 5) (mVar 6))
  (sAsg (mWarm (mGetN 2 (mTup (mCons (mVar 5) (mCons (mCold (mOp gSub (ret (.int 1)) (mVar 6))) mNil))))) (gTupM 2 (gConsM (gSetM 5) (gConsM (gSetM 6) gNilM))))) 100)))
  (sSeq (sAsg (mB1 gTuple (mCold (mLc (mItems (mVar 1)) (gSetM 5) (mTest (mOp gEq (mGetN 3 (mVar 5)) (ret (.int 0)))) (mVar 5) (([("part", 5)] : List (Str × Nat)).map (·.2))))) (gSetM 7))
  (sRet (mWarm (mTup (mCons (mVar 7) (mCons (mCold (mCall f_minus [] (aCons (mVar 1) (aCons (mVar 7) aNil)))) mNil)))))))))
def f__halves : Fun' := runDef 6 [true, true] m__halves
/-! remade -/
def m_remade : MS := (sSeq (sAsg (mCall f_set_of [] (aCons (mLen (mFldN KS "runs" 0)) (aCons (mVar 1) aNil))) (gSetM 3))
  (sSeq (sAsg (mCall f_set_of [] (aCons (mLen (mFldN KS "runs" 0)) (aCons (mVar 2) aNil))) (gSetM 4))
  (sSeq (sAsg (mCall f_common [] (aCons (mVar 3) (aCons (mVar 4) aNil))) (gSetM 5))
  (sSeq (sAsg (mCall f__halves [] (aCons (mVar 0) (aCons (mCold (mCall f_minus [] (aCons (mCold (mCall f_both [] (aCons (mVar 3) (aCons (mVar 4) aNil)))) (aCons (mVar 5) aNil)))) aNil))) (gTupM 2 (gConsM (gSetM 6) (gConsM (gSetM 7) gNilM))))
  (sRet (mWarm (mTup (mCons (mCold (mCall f_both [] (aCons (mVar 5) (aCons (mVar 6) aNil)))) (mCons (mCold (mCall f_both [] (aCons (mVar 5) (aCons (mVar 7) aNil)))) mNil)))))))))
def f_remade : Fun' := runDef 5 [true, true, true] m_remade
/-! _law_draws -/
def m__law_draws : MS := (sSeq (sAsg (mLst mNil) (gSetM 1))
  (sSeq (sFor (mRange1 (mCold (mOp gMin2 (mLenN 0) (ret (.int 63))))) (gSetM 2) (sSeq (sAsg (mB1 gInt1 (mIxN 0 (mVar 2))) (gSetM 3))
  (sSeq (sIf (mTest (mOp gLt (mVar 3) (ret (.int 0)))) (sAsg (mOp gSub (ret (.int 1)) (mVar 3)) (gSetM 3)) sNil)
  (sIf (mTest (mOp gGe (mVar 3) (mCold (mOp gPow (ret (.int 10)) (ret (.int 18)))))) (sFor (mRange1 (ret (.int 60))) (gSetM 4) (sIf (mTest (mOp gGt (mVar 3) (ret (.int 0)))) (sSeq (sDrop (mAppN 1 (mCold (mOp gMod (mCold (mB1 gInt1 (mVar 3))) (ret (.int 24))))))
  (sAsg (mOp gDiv (mVar 3) (ret (.int 24))) (gSetM 3))) sNil)) (sSeq (sAsg (mOp gMod (mCold (mB1 gInt1 (mCold (mOp gAdd (mCold (mOp gAdd (mCold (mOp gMul (mVar 3) (ret (.int 48271)))) (mCold (mOp gMul (mVar 2) (ret (.int 69621)))))) (ret (.int 1)))))) (ret (.int 2147483647))) (gSetM 5))
  (sFor (mRange1 (ret (.int 6))) (gSetM 4) (sSeq (sAsg (mOp gMod (mCold (mB1 gInt1 (mCold (mOp gAdd (mCold (mOp gAdd (mCold (mOp gAdd (mCold (mOp gMul (mVar 5) (mVar 5))) (mCold (mOp gMul (mVar 4) (ret (.int 40692)))))) (mVar 2))) (ret (.int 7)))))) (ret (.int 2147483563))) (gSetM 5))
  (sDrop (mAppN 1 (mVar 5))))))))))
  (sSeq (sDrop (mRevN 1))
  (sRet (mMove 1)))))
def f__law_draws : Fun' := runDef 5 [true] m__law_draws
/-! _law_take -/
def m__law_take : MS := (sSeq (sIf (mTest (mOp gEq (mLenN 0) (ret (.int 0)))) (sRet (mWarm (ret (.int 0)))) sNil)
  (sRet (mOp gMod (mCold (mB1 gInt1 (mCold (mPopN 0)))) (mVar 1))))
def f__law_take : Fun' := runDef 0 [true, true] m__law_take
/-! _law_int -/
def m__law_int : MS := (sRet (mWarm (mAndV (mCold (mIsT isInt (mVar 0))) (mCold (mWarm (mNotV (mCold (mIsT (fun n => n == "bool") (mVar 0)))))))))
def f__law_int : Fun' := runDef 0 [true] m__law_int
/-! _law_set -/
def m__law_set : MS := (sSeq (sIf (mNot (mTest (mIsT (fun n => n == "tuple") (mVar 0)))) (sRet (mWarm (ret (.bl false)))) sNil)
  (sSeq (sAsg (mWarm (mUn gNeg (ret (.int 1)))) (gSetM 2))
  (sSeq (sFor (mItems (mVar 0)) (gSetM 3) (sSeq (sIf (mOr (mNot (mTest (mCall f__law_int [] (aCons (mVar 3) aNil)))) (mOr (mTest (mOp gLe (mVar 3) (mVar 2))) (mTest (mOp gGe (mVar 3) (mVar 1))))) (sRet (mWarm (ret (.bl false)))) sNil)
  (sAsg (mWarm (mVar 3)) (gSetM 2))))
  (sRet (mWarm (ret (.bl true)))))))
def f__law_set : Fun' := runDef 2 [true, true] m__law_set
/-! _law_chains -/
def m__law_chains : MS := (sSeq (sAsg (mLst mNil) (gSetM 2))
  (sSeq (sFor (mRange1 (mCold (mOp gAdd (ret (.int 1)) (mCold (mCall f__law_take [] (mIo 0 (aCons (ret (.int 3)) aNil))))))) (gSetM 3) (sSeq (sAsg (mWarm (ret (.int 0))) (gSetM 4))
  (sFor (mRange1 (mVar 1)) (gSetM 5) (sIf (mTest (mOp gLt (mVar 4) (mVar 1))) (sSeq (sAsg (mOp gMin2 (mVar 1) (mCold (mOp gAdd (mCold (mOp gAdd (mVar 4) (ret (.int 1)))) (mCold (mCall f__law_take [] (mIo 0 (aCons (mVar 1) aNil))))))) (gSetM 6))
  (sSeq (sDrop (mAppN 2 (mTup (mCons (mVar 4) (mCons (mVar 6) mNil)))))
  (sAsg (mWarm (mVar 6)) (gSetM 4)))) sNil))))
  (sSeq (sFor (mRange1 (mCold (mCall f__law_take [] (mIo 0 (aCons (ret (.int 4)) aNil))))) (gSetM 5) (sSeq (sAsg (mCall f__law_take [] (mIo 0 (aCons (mVar 1) aNil))) (gSetM 4))
  (sDrop (mAppN 2 (mTup (mCons (mVar 4) (mCons (mCold (mOp gAdd (mCold (mOp gAdd (mVar 4) (ret (.int 1)))) (mCold (mCall f__law_take [] (mIo 0 (aCons (mCold (mOp gSub (mVar 1) (mVar 4))) aNil)))))) mNil)))))))
  (sRet (mMove 2)))))
def f__law_chains : Fun' := runDef 5 [true, true] m__law_chains
/-! _law_special -/
def m__law_special : MS := (sSeq (sAsg (mCall f__law_take [] (mIo 0 (aCons (ret (.int 3)) aNil))) (gSetM 1))
  (sSeq (sIf (mTest (mOp gEq (mVar 1) (ret (.int 0)))) (sSeq (sAsg (mWarm (ret (.int 3))) (gSetM 2))
  (sAsg (mLst (mCons (mTup (mCons (ret (.int 0)) (mCons (ret (.int 1)) mNil))) (mCons (mTup (mCons (ret (.int 0)) (mCons (ret (.int 2)) mNil))) (mCons (mTup (mCons (ret (.int 1)) (mCons (ret (.int 2)) mNil))) (mCons (mTup (mCons (ret (.int 1)) (mCons (ret (.int 3)) mNil))) (mCons (mTup (mCons (ret (.int 2)) (mCons (ret (.int 3)) mNil))) (mCons (mTup (mCons (ret (.int 0)) (mCons (ret (.int 3)) mNil))) (mCons (mTup (mCons (ret (.int 1)) (mCons (ret (.int 2)) mNil))) mNil)))))))) (gSetM 3))) (sIf (mTest (mOp gEq (mVar 1) (ret (.int 1)))) (sSeq (sAsg (mWarm (ret (.int 5))) (gSetM 2))
  (sAsg (mLst (mCons (mTup (mCons (ret (.int 0)) (mCons (ret (.int 1)) mNil))) (mCons (mTup (mCons (ret (.int 1)) (mCons (ret (.int 2)) mNil))) (mCons (mTup (mCons (ret (.int 1)) (mCons (ret (.int 3)) mNil))) (mCons (mTup (mCons (ret (.int 2)) (mCons (ret (.int 3)) mNil))) (mCons (mTup (mCons (ret (.int 2)) (mCons (ret (.int 4)) mNil))) (mCons (mTup (mCons (ret (.int 3)) (mCons (ret (.int 4)) mNil))) (mCons (mTup (mCons (ret (.int 4)) (mCons (ret (.int 5)) mNil))) (mCons (mTup (mCons (ret (.int 0)) (mCons (ret (.int 1)) mNil))) (mCons (mTup (mCons (ret (.int 4)) (mCons (ret (.int 5)) mNil))) mNil)))))))))) (gSetM 3))) (sSeq (sAsg (mWarm (ret (.int 4))) (gSetM 2))
  (sAsg (mLst (mCons (mTup (mCons (ret (.int 0)) (mCons (ret (.int 4)) mNil))) (mCons (mTup (mCons (ret (.int 0)) (mCons (ret (.int 2)) mNil))) (mCons (mTup (mCons (ret (.int 2)) (mCons (ret (.int 4)) mNil))) (mCons (mTup (mCons (ret (.int 0)) (mCons (ret (.int 1)) mNil))) (mCons (mTup (mCons (ret (.int 1)) (mCons (ret (.int 2)) mNil))) (mCons (mTup (mCons (ret (.int 2)) (mCons (ret (.int 3)) mNil))) (mCons (mTup (mCons (ret (.int 3)) (mCons (ret (.int 4)) mNil))) (mCons (mTup (mCons (ret (.int 1)) (mCons (ret (.int 2)) mNil))) (mCons (mTup (mCons (ret (.int 0)) (mCons (ret (.int 4)) mNil))) mNil)))))))))) (gSetM 3)))))
  (sSeq (sAsg (mLc (mItems (mVar 3)) (gSetM 5) (mTest (mOp gLt (mCold (mCall f__law_take [] (mIo 0 (aCons (ret (.int 8)) aNil)))) (ret (.int 7)))) (mVar 5) (([("_law_run_here", 5)] : List (Str × Nat)).map (·.2))) (gSetM 4))
  (sRet (mLst (mCons (mVar 2) (mCons (mVar 4) mNil)))))))
def f__law_special : Fun' := runDef 5 [true] m__law_special
/-! _law_market -/
def m__law_market : MS := (sSeq (sAsg (mCall f__law_take [] (mIo 0 (aCons (ret (.int 5)) aNil))) (gSetM 2))
  (sSeq (sIf (mTest (mOp gGe (mVar 2) (ret (.int 3)))) (sSeq (sAsg (mCall f__law_special [] (mIo 0 aNil)) (gSetM 3))
  (sSeq (sAsg (mWarm (mIxN 3 (ret (.int 0)))) (gSetM 4))
  (sAsg (mWarm (mIxN 3 (ret (.int 1)))) (gSetM 5)))) (sSeq (sAsg (mWarm (mIx (mCold (mLst (mCons (ret (.int 3)) (mCons (ret (.int 1)) (mCons (ret (.int 2)) (mCons (ret (.int 4)) (mCons (ret (.int 5)) (mCons (ret (.int 3)) (mCons (ret (.int 4)) (mCons (ret (.int 3)) (mCons (ret (.int 6)) (mCons (ret (.int 2)) mNil)))))))))))) (mCold (mCall f__law_take [] (mIo 0 (aCons (ret (.int 10)) aNil)))))) (gSetM 4))
  (sSeq (sIf (mTest (mOp gEq (mCold (mCall f__law_take [] (mIo 0 (aCons (ret (.int 12)) aNil)))) (ret (.int 11)))) (sAsg (mWarm (ret (.int 8))) (gSetM 4)) sNil)
  (sAsg (mCall f__law_chains [] (mIo 0 (aCons (mVar 4) aNil))) (gSetM 5)))))
  (sSeq (sAsg (mCall f__law_take [] (mIo 0 (aCons (ret (.int 9)) aNil))) (gSetM 6))
  (sSeq (sIf (mTest (mOp gLt (mVar 6) (mLenN 5))) (sAsg (mOp gAdd (mCold (mSlL (mVar 5) (mPart (mVar 6)) mNoPart)) (mCold (mSlL (mVar 5) mNoPart (mPart (mVar 6))))) (gSetM 5)) sNil)
  (sSeq (sAsg (mSlL (mVar 5) mNoPart (mPart (mVar 1))) (gSetM 5))
  (sSeq (sAsg (mLst mNil) (gSetM 7))
  (sSeq (sIf (mAnd (mTest (mOp gEq (mCold (mCall f__law_take [] (mIo 0 (aCons (ret (.int 10)) aNil)))) (ret (.int 9)))) (mTest (mOp gGt (mLenN 5) (ret (.int 1))))) (sAsg (mLst (mCons (mCold (mCall f__law_take [] (mIo 0 (aCons (mLenN 5) aNil)))) mNil)) (gSetM 7)) sNil)
  (sRet (mLst (mCons (mVar 4) (mCons (mVar 5) (mCons (mVar 7) mNil))))))))))))
def f__law_market : Fun' := runDef 6 [true, true] m__law_market
/-! _law_built -/
def m__law_built : MS := (sSeq (sIf (mTest (mOp gEq (mVar 0) (ret (.str "join")))) (sRet (mMakeK "Join" f_Join___init__ 2 (["gone"] : List Str).length (mCons (mVar 1) (mCons (mVar 2) mNil)) (mCons (mVar 3) mNil))) sNil)
  (sRet (mMakeK "Lap" f_Lap___init__ 2 (["gone"] : List Str).length (mCons (mVar 1) (mCons (mVar 2) mNil)) (mCons (mVar 3) mNil))))
def f__law_built : Fun' := runDef 0 [true, true, true, true] m__law_built
/-! _law_kind -/
def m__law_kind : MS := (sSeq (sIf (mTest (mOp gEq (mCold (mCall f__law_take [] (mIo 0 (aCons (ret (.int 3)) aNil)))) (ret (.int 2)))) (sRet (mWarm (ret (.str "lap")))) sNil)
  (sRet (mWarm (ret (.str "join")))))
def f__law_kind : Fun' := runDef 0 [true] m__law_kind
/-! _law_run -/
def m__law_run : MS := (sSeq (sAsg (mCall f__law_take [] (mIo 0 (aCons (mVar 1) aNil))) (gSetM 2))
  (sRet (mWarm (mTup (mCons (mVar 2) (mCons (mCold (mOp gAdd (mCold (mOp gAdd (mVar 2) (ret (.int 1)))) (mCold (mCall f__law_take [] (mIo 0 (aCons (mCold (mOp gSub (mVar 1) (mVar 2))) aNil)))))) mNil))))))
def f__law_run : Fun' := runDef 1 [true, true] m__law_run
/-! _law_parts -/
def m__law_parts : MS := (sRet (mLc (mRange1 (mVar 1)) (gSetM 2) (mTest (mOp gEq (mCold (mCall f__law_take [] (mIo 0 (aCons (ret (.int 2)) aNil)))) (ret (.int 1)))) (mVar 2) (([("_law_part", 2)] : List (Str × Nat)).map (·.2))))
def f__law_parts : Fun' := runDef 1 [true, true] m__law_parts
/-! _law_cover -/
def m__law_cover : MS := (sSeq (sAsg (mLc (mRange1 (mVar 0)) (gSetM 4) mYes (ret (.int 0)) (([("_law_place", 4)] : List (Str × Nat)).map (·.2))) (gSetM 3))
  (sSeq (sFor (mItems (mVar 2)) (gSetM 5) (sFor (mRange2 (mIx (mIxN 1 (mVar 5)) (ret (.int 0))) (mIx (mIxN 1 (mVar 5)) (ret (.int 1)))) (gSetM 4) (sAugN 3 gAddI (mVar 4) (ret (.int 1)))))
  (sRet (mMove 3))))
def f__law_cover : Fun' := runDef 3 [true, true, true] m__law_cover
/-! _law_remade_right -/
def m__law_remade_right : MS := (sSeq (sIf (mOr (mNot (mTest (mIsT (fun n => n == "tuple") (mVar 2)))) (mTest (mOp gNe (mLenN 2) (ret (.int 2))))) (sRet (mWarm (ret (.bl false)))) sNil)
  (sSeq (sAsg (mWarm (mLenN 1)) (gSetM 5))
  (sSeq (sIf (mOr (mNot (mTest (mCall f__law_set [] (aCons (mIxN 2 (ret (.int 0))) (aCons (mVar 5) aNil))))) (mNot (mTest (mCall f__law_set [] (aCons (mIxN 2 (ret (.int 1))) (aCons (mVar 5) aNil)))))) (sRet (mWarm (ret (.bl false)))) sNil)
  (sSeq (sFor (mRange1 (mVar 5)) (gSetM 6) (sSeq (sAsg (mOp gAdd (mCold (mB1 gInt1 (mCold (mInN false 3 (mVar 6))))) (mCold (mB1 gInt1 (mCold (mInN false 4 (mVar 6)))))) (gSetM 7))
  (sIf (mTest (mOp gNe (mCold (mOp gAdd (mCold (mB1 gInt1 (mCold (mOp (gIn false) (mVar 6) (mIxN 2 (ret (.int 0))))))) (mCold (mB1 gInt1 (mCold (mOp (gIn false) (mVar 6) (mIxN 2 (ret (.int 1))))))))) (mVar 7))) (sRet (mWarm (ret (.bl false)))) sNil)))
  (sSeq (sAsg (mCall f__law_cover [] (aCons (mVar 0) (aCons (mVar 1) (aCons (mIxN 2 (ret (.int 0))) aNil)))) (gSetM 8))
  (sSeq (sAsg (mCall f__law_cover [] (aCons (mVar 0) (aCons (mVar 1) (aCons (mIxN 2 (ret (.int 1))) aNil)))) (gSetM 9))
  (sSeq (sFor (mRange1 (mVar 0)) (gSetM 10) (sIf (mTest (mOp gGt (mCold (mB1 gAbs (mCold (mOp gSub (mIxN 8 (mVar 10)) (mIxN 9 (mVar 10)))))) (ret (.int 1)))) (sRet (mWarm (ret (.bl false)))) sNil))
  (sRet (mWarm (ret (.bl true)))))))))))
def f__law_remade_right : Fun' := runDef 6 [true, true, true, true, true] m__law_remade_right
/-! _law_refused -/
def m__law_refused : MS := (sSeq (sAsg (mLst (mCons (mUn gNeg (ret (.int 7))) (mCons (ret (.bl false)) mNil))) (gSetM 3))
  (sSeq (sTry SUB_BadSet 4 (sDrop (mCall f_remade [] (aCons (mVar 0) (aCons (mVar 1) (aCons (mVar 2) aNil))))) (sAsg (mLst (mCons (mErr 4 "BadSet" "place") (mCons (mCold (mIsErr 4 "BadSet" true)) mNil))) (gSetM 3)))
  (sRet (mMove 3))))
def f__law_refused : Fun' := runDef 2 [true, true, true] m__law_refused
/-! _law_chain -/
def m__law_chain : MS := (sSeq (sAsg (mLst mNil) (gSetM 4))
  (sSeq (sAsg (mWarm (mVar 2)) (gSetM 5))
  (sSeq (sFor (mRange1 (mVar 1)) (gSetM 6) (sIf (mTest (mOp gLt (mVar 5) (mVar 3))) (sSeq (sAsg (mOp gMin2 (mVar 3) (mCold (mOp gAdd (mCold (mOp gAdd (mVar 5) (ret (.int 1)))) (mCold (mCall f__law_take [] (mIo 0 (aCons (mVar 1) aNil))))))) (gSetM 7))
  (sSeq (sDrop (mAppN 4 (mTup (mCons (mVar 5) (mCons (mVar 7) mNil)))))
  (sAsg (mWarm (mVar 7)) (gSetM 5)))) sNil))
  (sRet (mMove 4)))))
def f__law_chain : Fun' := runDef 4 [true, true, true, true] m__law_chain
/-! _law_two_stocks -/
def m__law_two_stocks : MS := (sSeq (sAsg (mOp gAdd (ret (.int 1)) (mCold (mCall f__law_take [] (mIo 0 (aCons (ret (.int 2)) aNil))))) (gSetM 3))
  (sSeq (sAsg (mCall f__law_run [] (mIo 0 (aCons (mVar 2) aNil))) (gSetM 4))
  (sSeq (sAsg (mLst mNil) (gSetM 5))
  (sSeq (sFor (mRange1 (mCold (mOp gSub (mVar 3) (ret (.int 1))))) (gSetM 6) (sAsg (mOp gAdd (mVar 5) (mCold (mCall f__law_chain [] (mIo 0 (aCons (mVar 2) (aCons (ret (.int 0)) (aCons (mVar 2) aNil))))))) (gSetM 5)))
  (sSeq (sAsg (mOp gAdd (mCold (mCall f__law_chain [] (mIo 0 (aCons (mVar 2) (aCons (ret (.int 0)) (aCons (mVar 2) aNil)))))) (mCold (mCall f__law_chain [] (mIo 0 (aCons (mVar 2) (aCons (mIxN 4 (ret (.int 0))) (aCons (mIxN 4 (ret (.int 1))) aNil))))))) (gSetM 7))
  (sSeq (sAsg (mOp gAdd (mCold (mCall f__law_chain [] (mIo 0 (aCons (mVar 2) (aCons (ret (.int 0)) (aCons (mIxN 4 (ret (.int 0))) aNil)))))) (mCold (mCall f__law_chain [] (mIo 0 (aCons (mVar 2) (aCons (mIxN 4 (ret (.int 1))) (aCons (mVar 2) aNil))))))) (gSetM 8))
  (sSeq (sIf (mAnd (mTest (mOp gEq (mVar 1) (ret (.str "lap")))) (mTest (mOp gEq (mCold (mCall f__law_take [] (mIo 0 (aCons (ret (.int 2)) aNil)))) (ret (.int 1))))) (sDrop (mAppN 7 (mTup (mCons (ret (.int 0)) (mCons (mVar 2) mNil))))) sNil)
  (sSeq (sAsg (mOp gAdd (mCold (mOp gAdd (mVar 5) (mVar 7))) (mVar 8)) (gSetM 9))
  (sSeq (sAsg (mCall f__law_built [] (aCons (mVar 1) (aCons (mVar 2) (aCons (mVar 9) (aCons (mCold (mLst mNil)) aNil))))) (gSetM 10))
  (sSeq (sAsg ((mCold (mOp gAdd (mLenN 5) (mLenN 7))).bnd fun x => opt (gLstRg (.int 0) x)) (gSetM 11))
  (sSeq (sAsg (mOp gAdd (mCold ((mLenN 5).bnd fun x => opt (gLstRg (.int 0) x))) (mCold ((mCold (mOp gAdd (mLenN 5) (mLenN 7))).bnd fun x => (mLenN 9).bnd fun y => opt (gLstRg x y)))) (gSetM 12))
  (sSeq (sAsg (mCall f_changed [] (aCons (mVar 10) (aCons (mVar 3) (aCons (mVar 4) (aCons (ret (.int 1)) aNil))))) (gSetM 13))
  (sSeq (sAsg (mCall f_changed [] (aCons (mVar 10) (aCons (mVar 3) (aCons (mVar 4) (aCons (mUn gNeg (ret (.int 1))) aNil))))) (gSetM 14))
  (sSeq (sIf (mOr (mNot (mTest (mCall f_is_stock [] (aCons (mVar 10) (aCons (mVar 13) (aCons (mVar 11) aNil)))))) (mNot (mTest (mCall f_is_stock [] (aCons (mVar 10) (aCons (mVar 14) (aCons (mVar 12) aNil))))))) (sRet (mWarm (ret (.bl false)))) sNil)
  (sSeq (sAsg (mCall f_remade [] (aCons (mVar 10) (aCons (mVar 11) (aCons (mVar 12) aNil)))) (gSetM 15))
  (sSeq (sIf (mNot (mTest (mCall f__law_remade_right [] (aCons (mVar 2) (aCons (mVar 9) (aCons (mVar 15) (aCons (mVar 11) (aCons (mVar 12) aNil)))))))) (sRet (mWarm (ret (.bl false)))) sNil)
  (sSeq (sAsg (mCall f_remade [] (aCons (mVar 10) (aCons (mCold (mB1 gTuple (mVar 12))) (aCons (mCold (mB1 gTuple (mVar 11))) aNil)))) (gSetM 16))
  (sSeq (sIf (mNot (mTest (mCall f__law_remade_right [] (aCons (mVar 2) (aCons (mVar 9) (aCons (mVar 16) (aCons (mVar 11) (aCons (mVar 12) aNil)))))))) (sRet (mWarm (ret (.bl false)))) sNil)
  (sSeq (sFor (mItems (mCold (mLst (mCons (mIxN 15 (ret (.int 0))) (mCons (mIxN 15 (ret (.int 1))) (mCons (mIxN 16 (ret (.int 0))) (mCons (mIxN 16 (ret (.int 1))) mNil))))))) (gSetM 17) (sIf (mNot (mTest (mCall f_is_stock [] (aCons (mVar 10) (aCons (mVar 3) (aCons (mVar 17) aNil)))))) (sRet (mWarm (ret (.bl false)))) sNil))
  (sRet (mWarm (ret (.bl true)))))))))))))))))))))))
def f__law_two_stocks : Fun' := runDef 15 [true, true, true] m__law_two_stocks
/-! law -/
def m_law : MS := (sSeq (sAsg (mCall f__law_draws [] (aCons (mVar 0) aNil)) (gSetM 1))
  (sSeq (sAsg (mCall f__law_kind [] (mIo 1 aNil)) (gSetM 2))
  (sSeq (sAsg (mCall f__law_market [] (mIo 1 (aCons (ret (.int 9)) aNil))) (gSetM 3))
  (sSeq (sAsg (mWarm (mIxN 3 (ret (.int 0)))) (gSetM 4))
  (sSeq (sAsg (mWarm (mIxN 3 (ret (.int 1)))) (gSetM 5))
  (sSeq (sAsg (mCall f__law_built [] (aCons (mVar 2) (aCons (mVar 4) (aCons (mCold (mB1 gList (mVar 5))) (aCons (mIxN 3 (ret (.int 2))) aNil))))) (gSetM 6))
  (sSeq (sAsg (mCall f__law_parts [] (mIo 1 (aCons (mLenN 5) aNil))) (gSetM 7))
  (sSeq (sAsg (mCall f__law_parts [] (mIo 1 (aCons (mLenN 5) aNil))) (gSetM 8))
  (sSeq (sAsg (mCall f__law_take [] (mIo 1 (aCons (ret (.int 5)) aNil))) (gSetM 9))
  (sSeq (sIf (mTest (mOp gEq (mVar 9) (ret (.int 0)))) (sAsg (mB1 gList (mVar 7)) (gSetM 8)) (sIf (mTest (mOp gEq (mVar 9) (ret (.int 1)))) (sAsg (mLst mNil) (gSetM 8)) (sIf (mTest (mOp gEq (mVar 9) (ret (.int 2)))) (sAsg ((mLenN 5).bnd fun x => opt (gLstRg (.int 0) x)) (gSetM 7)) sNil)))
  (sSeq (sAsg (mLst (mCons (mCold (mB1 gList (mVar 7))) (mCons (mCold (mB1 gList (mVar 8))) mNil))) (gSetM 10))
  (sSeq (sAsg (mCall f_remade [] (aCons (mVar 6) (aCons (mVar 7) (aCons (mVar 8) aNil)))) (gSetM 11))
  (sSeq (sIf (mOr (mNot (mTest (mCall f__law_remade_right [] (aCons (mVar 4) (aCons (mVar 5) (aCons (mVar 11) (aCons (mVar 7) (aCons (mVar 8) aNil)))))))) (mTest (mOp gNe (mCold (mLst (mCons (mVar 7) (mCons (mVar 8) mNil)))) (mVar 10)))) (sRet (mWarm (ret (.bl false)))) sNil)
  (sSeq (sIf (mAnd (mTest (mOp gEq (mVar 9) (ret (.int 0)))) (mTest (mOp gNe (mVar 11) (mTup (mCons (mCold (mB1 gTuple (mVar 7))) (mCons (mCold (mB1 gTuple (mVar 7))) mNil)))))) (sRet (mWarm (ret (.bl false)))) sNil)
  (sSeq (sAsg (mLc (mRange1 (mLenN 7)) (gSetM 13) mYes (mIxN 7 (mCold (mOp gSub (mCold (mOp gSub (mLenN 7) (ret (.int 1)))) (mVar 13)))) (([("_law_k", 13)] : List (Str × Nat)).map (·.2))) (gSetM 12))
  (sSeq (sAsg (mLc (mRange1 (mLenN 8)) (gSetM 13) mYes (mIxN 8 (mCold (mOp gSub (mCold (mOp gSub (mLenN 8) (ret (.int 1)))) (mVar 13)))) (([("_law_k", 13)] : List (Str × Nat)).map (·.2))) (gSetM 14))
  (sSeq (sAsg (mLst (mCons (mCold (mB1 gList (mVar 12))) (mCons (mCold (mB1 gList (mVar 14))) mNil))) (gSetM 10))
  (sSeq (sIf (mOr (mNot (mTest (mCall f__law_remade_right [] (aCons (mVar 4) (aCons (mVar 5) (aCons (mCold (mCall f_remade [] (aCons (mVar 6) (aCons (mVar 12) (aCons (mVar 14) aNil))))) (aCons (mVar 7) (aCons (mVar 8) aNil)))))))) (mTest (mOp gNe (mCold (mLst (mCons (mVar 12) (mCons (mVar 14) mNil)))) (mVar 10)))) (sRet (mWarm (ret (.bl false)))) sNil)
  (sSeq (sAsg (mWarm (mIx (mCold (mLst (mCons (mLenN 5) (mCons (mUn gNeg (ret (.int 1))) (mCons (ret .non) mNil))))) (mCold (mCall f__law_take [] (mIo 1 (aCons (ret (.int 3)) aNil)))))) (gSetM 15))
  (sSeq (sIf (mTest (mOp gNe (mCold (mCall f__law_refused [] (aCons (mVar 6) (aCons (mCold (mOp gAdd (mVar 7) (mCold (mLst (mCons (mVar 15) mNil))))) (aCons (mCold (mOp gAdd (mVar 8) (mCold (mLst (mCons (mVar 15) mNil))))) aNil))))) (mCold (mLst (mCons (mLenN 7) (mCons (ret (.bl true)) mNil)))))) (sRet (mWarm (ret (.bl false)))) sNil)
  (sSeq (sIf (mTest (mOp gNe (mCold (mCall f__law_refused [] (aCons (mVar 6) (aCons (mVar 7) (aCons (mCold (mOp gAdd (mVar 8) (mCold (mLst (mCons (mVar 15) mNil))))) aNil))))) (mCold (mLst (mCons (mLenN 8) (mCons (ret (.bl true)) mNil)))))) (sRet (mWarm (ret (.bl false)))) sNil)
  (sSeq (sIf (mTest (mOp gNe (mCold (mCall f__law_refused [] (aCons (mVar 6) (aCons (ret .non) (aCons (mCold (mOp gAdd (mVar 8) (mCold (mLst (mCons (mVar 15) mNil))))) aNil))))) (mCold (mLst (mCons (mUn gNeg (ret (.int 1))) (mCons (ret (.bl true)) mNil)))))) (sRet (mWarm (ret (.bl false)))) sNil)
  (sRet (mCall f__law_two_stocks [] (mIo 1 (aCons (mVar 2) (aCons (mVar 4) aNil)))))))))))))))))))))))))))
def f_law : Fun' := runDef 15 [true] m_law
/-! cover -/
def m_cover : MS := (sRet (mCall f__cover [] (aCons (mVar 0) (aCons (mCold (mCall f_set_of [] (aCons (mLen (mFldN KS "runs" 0)) (aCons (mVar 1) aNil)))) aNil))))
def f_cover : Fun' := runDef 0 [true, true] m_cover
/-! halves -/
def m_halves : MS := (sRet (mCall f__halves [] (aCons (mVar 0) (aCons (mCold (mCall f_set_of [] (aCons (mLen (mFldN KS "runs" 0)) (aCons (mVar 1) aNil)))) aNil))))
def f_halves : Fun' := runDef 0 [true, true] m_halves
/-! _far -/
def m__far : MS := (sSeq (sAsg (mWarm (ret (.int 1))) (gSetM 2))
  (sSeq (sAsg (mWarm (ret .non)) (gSetM 3))
  (sSeq (sFor (mRange1 (mVar 1)) (gSetM 4) (sSeq (sAsg (mLcN 0 (gSetM 6) mYes (mIxN 6 (mVar 4)) (([("row", 6)] : List (Str × Nat)).map (·.2))) (gSetM 5))
  (sIf (mTest (mOp gGt (mCold (mOp gSub (mCold (mB1 gMaxL (mVar 5))) (mCold (mB1 gMinL (mVar 5))))) (mVar 2))) (sSeq (sAsg (mOp gSub (mCold (mB1 gMaxL (mVar 5))) (mCold (mB1 gMinL (mVar 5)))) (gSetM 2))
  (sAsg (mWarm (mTup (mCons (mIndex (mVar 5) (mCold (mB1 gMaxL (mVar 5)))) (mCons (mIndex (mVar 5) (mCold (mB1 gMinL (mVar 5)))) mNil)))) (gSetM 3))) sNil)))
  (sRet (mMove 3)))))
def f__far : Fun' := runDef 5 [true, true] m__far
/-! lots -/
def m_lots : MS := (sSeq (sAsg (mCall f_set_of [] (aCons (mLen (mFldN KS "runs" 0)) (aCons (mVar 1) aNil))) (gSetM 3))
  (sSeq (sDrop (mCall f_check_number [] (aCons (mVar 2) (aCons (ret (.str "number")) (aCons (ret (.int 1)) (aCons (ret (.int 50)) aNil))))))
  (sSeq (sAsg (mLc (mRange1 (mVar 2)) (gSetM 5) mYes (mCold (mIf (mTest (mOp gEq (mVar 5) (ret (.int 0)))) (mWarm (mVar 3)) (mWarm (mTup mNil)))) (([("at", 5)] : List (Str × Nat)).map (·.2))) (gSetM 4))
  (sSeq (sAsg (mLcN 4 (gSetM 7) mYes (mCold (mCall f_cover [] (aCons (mVar 0) (aCons (mVar 7) aNil)))) (([("row", 7)] : List (Str × Nat)).map (·.2))) (gSetM 6))
  (sSeq (sAsg (mCall f__far [] (mIo 6 (aCons (mFldN KS "size" 0) aNil))) (gSetM 8))
  (sSeq (sWhile (mTest (mOp gNotN (mVar 8) (ret .non))) (sSeq (sAsg (mWarm (mVar 8)) (gTupM 2 (gConsM (gSetM 9) (gConsM (gSetM 10) gNilM))))
  (sSeq (sAsg (mCall f__halves [] (aCons (mVar 0) (aCons (mCold (mCall f_both [] (aCons (mIxN 4 (mVar 9)) (aCons (mIxN 4 (mVar 10)) aNil)))) aNil))) (gTupM 2 (gConsM (gSetM 11) (gConsM (gSetM 12) gNilM))))
  (sSeq (sAsg (mWarm (mTup (mCons (mVar 11) (mCons (mVar 12) mNil)))) (gTupM 2 (gConsM (gStN 4 (mVar 9)) (gConsM (gStN 4 (mVar 10)) gNilM))))
  (sSeq (sAsg (mCall f_cover [] (aCons (mVar 0) (aCons (mVar 11) aNil))) (gStN 6 (mVar 9)))
  (sSeq (sAsg (mCall f_cover [] (aCons (mVar 0) (aCons (mVar 12) aNil))) (gStN 6 (mVar 10)))
  (sAsg (mCall f__far [] (mIo 6 (aCons (mFldN KS "size" 0) aNil))) (gSetM 8))))))) 100000)
  (sRet (mMove 4))))))))
def f_lots : Fun' := runDef 10 [true, true, true] m_lots
/-! _law_special_v2 -/
def m__law_special_v2 : MS := (sSeq (sAsg (mCall f__law_take [] (mIo 0 (aCons (ret (.int 3)) aNil))) (gSetM 1))
  (sSeq (sIf (mTest (mOp gEq (mVar 1) (ret (.int 0)))) (sSeq (sAsg (mWarm (ret (.int 3))) (gSetM 2))
  (sAsg (mLst (mCons (mTup (mCons (ret (.int 0)) (mCons (ret (.int 1)) mNil))) (mCons (mTup (mCons (ret (.int 0)) (mCons (ret (.int 2)) mNil))) (mCons (mTup (mCons (ret (.int 1)) (mCons (ret (.int 2)) mNil))) (mCons (mTup (mCons (ret (.int 1)) (mCons (ret (.int 3)) mNil))) (mCons (mTup (mCons (ret (.int 2)) (mCons (ret (.int 3)) mNil))) (mCons (mTup (mCons (ret (.int 0)) (mCons (ret (.int 3)) mNil))) (mCons (mTup (mCons (ret (.int 1)) (mCons (ret (.int 2)) mNil))) mNil)))))))) (gSetM 3))) (sIf (mTest (mOp gEq (mVar 1) (ret (.int 1)))) (sSeq (sAsg (mWarm (ret (.int 5))) (gSetM 2))
  (sAsg (mLst (mCons (mTup (mCons (ret (.int 0)) (mCons (ret (.int 1)) mNil))) (mCons (mTup (mCons (ret (.int 1)) (mCons (ret (.int 2)) mNil))) (mCons (mTup (mCons (ret (.int 1)) (mCons (ret (.int 3)) mNil))) (mCons (mTup (mCons (ret (.int 2)) (mCons (ret (.int 3)) mNil))) (mCons (mTup (mCons (ret (.int 2)) (mCons (ret (.int 4)) mNil))) (mCons (mTup (mCons (ret (.int 3)) (mCons (ret (.int 4)) mNil))) (mCons (mTup (mCons (ret (.int 4)) (mCons (ret (.int 5)) mNil))) (mCons (mTup (mCons (ret (.int 0)) (mCons (ret (.int 1)) mNil))) (mCons (mTup (mCons (ret (.int 4)) (mCons (ret (.int 5)) mNil))) mNil)))))))))) (gSetM 3))) (sSeq (sAsg (mWarm (ret (.int 4))) (gSetM 2))
  (sAsg (mLst (mCons (mTup (mCons (ret (.int 0)) (mCons (ret (.int 4)) mNil))) (mCons (mTup (mCons (ret (.int 0)) (mCons (ret (.int 2)) mNil))) (mCons (mTup (mCons (ret (.int 2)) (mCons (ret (.int 4)) mNil))) (mCons (mTup (mCons (ret (.int 0)) (mCons (ret (.int 1)) mNil))) (mCons (mTup (mCons (ret (.int 1)) (mCons (ret (.int 2)) mNil))) (mCons (mTup (mCons (ret (.int 2)) (mCons (ret (.int 3)) mNil))) (mCons (mTup (mCons (ret (.int 3)) (mCons (ret (.int 4)) mNil))) (mCons (mTup (mCons (ret (.int 1)) (mCons (ret (.int 2)) mNil))) (mCons (mTup (mCons (ret (.int 0)) (mCons (ret (.int 4)) mNil))) mNil)))))))))) (gSetM 3)))))
  (sSeq (sAsg (mLc (mItems (mVar 3)) (gSetM 5) (mTest (mOp gLt (mCold (mCall f__law_take [] (mIo 0 (aCons (ret (.int 8)) aNil)))) (ret (.int 7)))) (mVar 5) (([("_law_run", 5)] : List (Str × Nat)).map (·.2))) (gSetM 4))
  (sRet (mLst (mCons (mVar 2) (mCons (mVar 4) mNil)))))))
def f__law_special_v2 : Fun' := runDef 5 [true] m__law_special_v2
/-! _law_market_v2 -/
def m__law_market_v2 : MS := (sSeq (sAsg (mCall f__law_take [] (mIo 0 (aCons (ret (.int 5)) aNil))) (gSetM 2))
  (sSeq (sIf (mTest (mOp gGe (mVar 2) (ret (.int 3)))) (sSeq (sAsg (mCall f__law_special_v2 [] (mIo 0 aNil)) (gSetM 3))
  (sSeq (sAsg (mWarm (mIxN 3 (ret (.int 0)))) (gSetM 4))
  (sAsg (mWarm (mIxN 3 (ret (.int 1)))) (gSetM 5)))) (sSeq (sAsg (mWarm (mIx (mCold (mLst (mCons (ret (.int 3)) (mCons (ret (.int 1)) (mCons (ret (.int 2)) (mCons (ret (.int 4)) (mCons (ret (.int 5)) (mCons (ret (.int 3)) (mCons (ret (.int 4)) (mCons (ret (.int 3)) (mCons (ret (.int 6)) (mCons (ret (.int 2)) mNil)))))))))))) (mCold (mCall f__law_take [] (mIo 0 (aCons (ret (.int 10)) aNil)))))) (gSetM 4))
  (sSeq (sIf (mTest (mOp gEq (mCold (mCall f__law_take [] (mIo 0 (aCons (ret (.int 12)) aNil)))) (ret (.int 11)))) (sAsg (mWarm (ret (.int 8))) (gSetM 4)) sNil)
  (sAsg (mCall f__law_chains [] (mIo 0 (aCons (mVar 4) aNil))) (gSetM 5)))))
  (sSeq (sAsg (mCall f__law_take [] (mIo 0 (aCons (ret (.int 9)) aNil))) (gSetM 6))
  (sSeq (sIf (mTest (mOp gLt (mVar 6) (mLenN 5))) (sAsg (mOp gAdd (mCold (mSlL (mVar 5) (mPart (mVar 6)) mNoPart)) (mCold (mSlL (mVar 5) mNoPart (mPart (mVar 6))))) (gSetM 5)) sNil)
  (sSeq (sAsg (mSlL (mVar 5) mNoPart (mPart (mVar 1))) (gSetM 5))
  (sSeq (sAsg (mLst mNil) (gSetM 7))
  (sSeq (sIf (mAnd (mTest (mOp gEq (mCold (mCall f__law_take [] (mIo 0 (aCons (ret (.int 10)) aNil)))) (ret (.int 9)))) (mTest (mOp gGt (mLenN 5) (ret (.int 1))))) (sAsg (mLst (mCons (mCold (mCall f__law_take [] (mIo 0 (aCons (mLenN 5) aNil)))) mNil)) (gSetM 7)) sNil)
  (sRet (mLst (mCons (mVar 4) (mCons (mVar 5) (mCons (mVar 7) mNil))))))))))))
def f__law_market_v2 : Fun' := runDef 6 [true, true] m__law_market_v2
/-! _law_parted -/
def m__law_parted : MS := (sSeq (sAsg (mLst mNil) (gSetM 3))
  (sSeq (sForN 0 (gSetM 4) (sSeq (sIf (mNot (mTest (mCall f__law_set [] (aCons (mVar 4) (aCons (mVar 2) aNil))))) (sRet (mWarm (ret (.bl false)))) sNil)
  (sFor (mItems (mVar 4)) (gSetM 5) (sSeq (sIf (mOr (mTest (mInN false 3 (mVar 5))) (mTest (mInN true 1 (mVar 5)))) (sRet (mWarm (ret (.bl false)))) sNil)
  (sDrop (mAppN 3 (mVar 5)))))))
  (sRet (mOp gEq (mLenN 3) (mLenN 1)))))
def f__law_parted : Fun' := runDef 3 [true, true, true] m__law_parted
/-! _law_even -/
def m__law_even : MS := (sSeq (sAsg (mWarm (mLenN 2)) (gSetM 4))
  (sSeq (sAsg (mCall f__law_cover [] (aCons (mVar 0) (aCons (mVar 1) (aCons (mVar 3) aNil)))) (gSetM 5))
  (sSeq (sAsg (mLcN 2 (gSetM 7) mYes (mCold (mCall f__law_cover [] (aCons (mVar 0) (aCons (mVar 1) (aCons (mVar 7) aNil))))) (([("_law_lot", 7)] : List (Str × Nat)).map (·.2))) (gSetM 6))
  (sSeq (sFor (mRange1 (mVar 0)) (gSetM 8) (sSeq (sAsg (mOp gDiv (mIxN 5 (mVar 8)) (mVar 4)) (gSetM 9))
  (sSeq (sAsg (mWarm (ret (.int 0))) (gSetM 10))
  (sSeq (sFor (mItems (mVar 6)) (gSetM 11) (sSeq (sIf (mAnd (mTest (mOp gNe (mIxN 11 (mVar 8)) (mVar 9))) (mTest (mOp gNe (mIxN 11 (mVar 8)) (mCold (mOp gAdd (mVar 9) (ret (.int 1))))))) (sRet (mWarm (ret (.bl false)))) sNil)
  (sAug 10 gAddI (mCold (mOp gSub (mIxN 11 (mVar 8)) (mVar 9))))))
  (sIf (mTest (mOp gNe (mVar 10) (mCold (mOp gSub (mIxN 5 (mVar 8)) (mCold (mOp gMul (mVar 9) (mVar 4))))))) (sRet (mWarm (ret (.bl false)))) sNil)))))
  (sRet (mWarm (ret (.bl true))))))))
def f__law_even : Fun' := runDef 8 [true, true, true, true] m__law_even
/-! _law_number_refused -/
def m__law_number_refused : MS := (sSeq (sAsg (mWarm (ret (.str "none"))) (gSetM 3))
  (sSeq (sTryL 4 (sDrop (mCall f_lots [] (aCons (mVar 0) (aCons (mVar 1) (aCons (mVar 2) aNil))))) [(subOf ["BadNumber", "BadSet"] "BadNumber", (sAsg (mOp gAdd (mCold (mOp gAdd (mErr 4 "BadNumber" "name") (mCold (mB1 gStrB (mCold (mIsErr 4 "BadNumber" true)))))) (mCold (mB1 gStrB (mCold (mIsErr 4 "BadNumber" false))))) (gSetM 3))), (subOf ["BadNumber", "BadSet"] "BadSet", (sAsg (mOp gAdd (ret (.str "set")) (mCold (mB1 gStr1 (mErr 4 "BadSet" "place")))) (gSetM 3)))])
  (sRet (mMove 3))))
def f__law_number_refused : Fun' := runDef 2 [true, true, true] m__law_number_refused
/-! _law_halves_refused -/
def m__law_halves_refused : MS := (sSeq (sAsg (mWarm (mUn gNeg (ret (.int 7)))) (gSetM 2))
  (sSeq (sTry SUB_BadSet 3 (sDrop (mCall f_halves [] (aCons (mVar 0) (aCons (mVar 1) aNil)))) (sAsg (mWarm (mErr 3 "BadSet" "place")) (gSetM 2)))
  (sRet (mMove 2))))
def f__law_halves_refused : Fun' := runDef 2 [true, true] m__law_halves_refused
/-! _law_turned_right -/
def m__law_turned_right : MS := (sSeq (sAsg (mLc (mRange1 (mLenN 3)) (gSetM 6) mYes (mIxN 3 (mCold (mOp gSub (mCold (mOp gSub (mLenN 3) (ret (.int 1)))) (mVar 6)))) (([("_law_k", 6)] : List (Str × Nat)).map (·.2))) (gSetM 5))
  (sSeq (sAsg (mB1 gList (mVar 5)) (gSetM 7))
  (sSeq (sAsg (mCall f_halves [] (aCons (mVar 0) (aCons (mVar 5) aNil))) (gSetM 8))
  (sSeq (sAsg (mCall f_lots [] (aCons (mVar 0) (aCons (mVar 5) (aCons (mVar 4) aNil)))) (gSetM 9))
  (sSeq (sAsg (mCall f_lots [] (aCons (mVar 0) (aCons (mVar 5) (aCons (ret (.int 50)) aNil)))) (gSetM 10))
  (sSeq (sIf (mOr (mTest (mOp gNe (mVar 5) (mVar 7))) (mOr (mTest (mOp gNe (mLenN 8) (ret (.int 2)))) (mOr (mTest (mOp gNe (mLenN 9) (mVar 4))) (mTest (mOp gNe (mLenN 10) (ret (.int 50))))))) (sRet (mWarm (ret (.bl false)))) sNil)
  (sSeq (sFor (mItems (mCold (mLst (mCons (mVar 8) (mCons (mVar 9) (mCons (mVar 10) mNil)))))) (gSetM 11) (sIf (mOr (mNot (mTest (mCall f__law_parted [] (mIo 11 (aCons (mVar 3) (aCons (mLenN 2) aNil)))))) (mNot (mTest (mCall f__law_even [] (aCons (mVar 1) (aCons (mVar 2) (mIo 11 (aCons (mVar 3) aNil)))))))) (sRet (mWarm (ret (.bl false)))) sNil))
  (sRet (mWarm (mAndV (mCold (mOp gEq (mCold (mCall f__law_halves_refused [] (aCons (mVar 0) (aCons (mCold (mOp gAdd (mVar 5) (mCold (mLst (mCons (mUn gNeg (ret (.int 1))) mNil))))) aNil)))) (mLenN 3))) (mCold (mOp gEq (mCold (mCall f__law_halves_refused [] (aCons (mVar 0) (aCons (ret .non) aNil)))) (mUn gNeg (ret (.int 1)))))))))))))))
def f__law_turned_right : Fun' := runDef 7 [true, true, true, true, true] m__law_turned_right
/-! _law_chain_stock -/
def m__law_chain_stock : MS := (sSeq (sAsg (mLst mNil) (gSetM 3))
  (sSeq (sAsg (mOp gAdd (ret (.int 1)) (mCold (mCall f__law_take [] (mIo 0 (aCons (ret (.int 3)) aNil))))) (gSetM 4))
  (sSeq (sFor (mRange1 (mVar 4)) (gSetM 5) (sSeq (sAsg (mWarm (ret (.int 0))) (gSetM 6))
  (sFor (mRange1 (mVar 2)) (gSetM 7) (sIf (mTest (mOp gLt (mVar 6) (mVar 2))) (sSeq (sAsg (mOp gMin2 (mVar 2) (mCold (mOp gAdd (mCold (mOp gAdd (mVar 6) (ret (.int 1)))) (mCold (mCall f__law_take [] (mIo 0 (aCons (mVar 2) aNil))))))) (gSetM 8))
  (sSeq (sDrop (mAppN 3 (mTup (mCons (mVar 6) (mCons (mVar 8) mNil)))))
  (sAsg (mWarm (mVar 8)) (gSetM 6)))) sNil))))
  (sSeq (sIf (mAnd (mTest (mOp gEq (mVar 1) (ret (.str "lap")))) (mTest (mOp gEq (mCold (mCall f__law_take [] (mIo 0 (aCons (ret (.int 2)) aNil)))) (ret (.int 1))))) (sDrop (mAppN 3 (mTup (mCons (ret (.int 0)) (mCons (mVar 2) mNil))))) sNil)
  (sSeq (sAsg (mCall f__law_take [] (mIo 0 (aCons (mLenN 3) aNil))) (gSetM 9))
  (sRet (mLst (mCons (mVar 4) (mCons (mCold (mOp gAdd (mCold (mSlL (mVar 3) (mPart (mVar 9)) mNoPart)) (mCold (mSlL (mVar 3) mNoPart (mPart (mVar 9)))))) mNil)))))))))
def f__law_chain_stock : Fun' := runDef 7 [true, true, true] m__law_chain_stock
/-! _law_stock_lots -/
def m__law_stock_lots : MS := (sSeq (sAsg (mCall f__law_chain_stock [] (mIo 0 (aCons (mVar 1) (aCons (mVar 2) aNil)))) (gSetM 3))
  (sSeq (sAsg (mWarm (mIxN 3 (ret (.int 0)))) (gSetM 4))
  (sSeq (sAsg (mWarm (mIxN 3 (ret (.int 1)))) (gSetM 5))
  (sSeq (sAsg (mCall f__law_built [] (aCons (mVar 1) (aCons (mVar 2) (aCons (mVar 5) (aCons (mCold (mLst mNil)) aNil))))) (gSetM 6))
  (sSeq (sAsg ((mLenN 5).bnd fun x => opt (gLstRg (.int 0) x)) (gSetM 7))
  (sSeq (sAsg (mCall f_lots [] (aCons (mVar 6) (aCons (mVar 7) (aCons (mVar 4) aNil)))) (gSetM 8))
  (sSeq (sIf (mOr (mNot (mTest (mIsTN (fun n => n == "list") 8))) (mOr (mTest (mOp gNe (mLenN 8) (mVar 4))) (mNot (mTest (mCall f__law_parted [] (mIo 8 (aCons (mVar 7) (aCons (mLenN 5) aNil)))))))) (sRet (mWarm (ret (.bl false)))) sNil)
  (sSeq (sAsg (mLst mNil) (gSetM 9))
  (sSeq (sAsg (mWarm (ret (.int 0))) (gSetM 10))
  (sSeq (sFor (mItems (mVar 8)) (gSetM 11) (sSeq (sIf (mNot (mTest (mCall f_is_stock [] (aCons (mVar 6) (aCons (ret (.int 1)) (aCons (mVar 11) aNil)))))) (sRet (mWarm (ret (.bl false)))) sNil)
  (sIf (mTest (mOp gEq (mCold (mCall f__law_take [] (mIo 0 (aCons (ret (.int 2)) aNil)))) (ret (.int 1)))) (sSeq (sAsg (mOp gAdd (mVar 9) (mCold (mB1 gList (mVar 11)))) (gSetM 9))
  (sAug 10 gAddI (ret (.int 1)))) sNil)))
  (sRet (mWarm (mAndV (mCold (mCall f_is_stock [] (aCons (mVar 6) (aCons (mVar 4) (aCons (mVar 7) aNil))))) (mCold (mCall f_is_stock [] (aCons (mVar 6) (aCons (mVar 10) (aCons (mVar 9) aNil))))))))))))))))))
def f__law_stock_lots : Fun' := runDef 9 [true, true, true] m__law_stock_lots
/-! law_v2 -/
def m_law_v2 : MS := (sSeq (sAsg (mCall f__law_draws [] (aCons (mVar 0) aNil)) (gSetM 1))
  (sSeq (sAsg (mCall f__law_kind [] (mIo 1 aNil)) (gSetM 2))
  (sSeq (sAsg (mCall f__law_market_v2 [] (mIo 1 (aCons (ret (.int 9)) aNil))) (gSetM 3))
  (sSeq (sAsg (mWarm (mIxN 3 (ret (.int 0)))) (gSetM 4))
  (sSeq (sAsg (mWarm (mIxN 3 (ret (.int 1)))) (gSetM 5))
  (sSeq (sAsg (mCall f__law_built [] (aCons (mVar 2) (aCons (mVar 4) (aCons (mCold (mB1 gList (mVar 5))) (aCons (mIxN 3 (ret (.int 2))) aNil))))) (gSetM 6))
  (sSeq (sAsg (mCall f__law_parts [] (mIo 1 (aCons (mLenN 5) aNil))) (gSetM 7))
  (sSeq (sIf (mTest (mOp gEq (mCold (mCall f__law_take [] (mIo 1 (aCons (ret (.int 4)) aNil)))) (ret (.int 0)))) (sAsg ((mLenN 5).bnd fun x => opt (gLstRg (.int 0) x)) (gSetM 7)) sNil)
  (sSeq (sAsg (mOp gAdd (ret (.int 1)) (mCold (mCall f__law_take [] (mIo 1 (aCons (ret (.int 6)) aNil))))) (gSetM 8))
  (sSeq (sAsg (mB1 gList (mVar 7)) (gSetM 9))
  (sSeq (sAsg (mCall f_halves [] (aCons (mVar 6) (aCons (mVar 9) aNil))) (gSetM 10))
  (sSeq (sIf (mOr (mNot (mTest (mIsTN (fun n => n == "tuple") 10))) (mOr (mTest (mOp gNe (mLenN 10) (ret (.int 2)))) (mNot (mTest (mCall f__law_parted [] (mIo 10 (aCons (mVar 7) (aCons (mLenN 5) aNil)))))))) (sRet (mWarm (ret (.bl false)))) sNil)
  (sSeq (sIf (mNot (mTest (mCall f__law_even [] (aCons (mVar 4) (aCons (mVar 5) (mIo 10 (aCons (mVar 7) aNil))))))) (sRet (mWarm (ret (.bl false)))) sNil)
  (sSeq (sAsg (mCall f_lots [] (aCons (mVar 6) (aCons (mVar 9) (aCons (mVar 8) aNil)))) (gSetM 11))
  (sSeq (sIf (mOr (mNot (mTest (mIsTN (fun n => n == "list") 11))) (mOr (mTest (mOp gNe (mLenN 11) (mVar 8))) (mNot (mTest (mCall f__law_parted [] (mIo 11 (aCons (mVar 7) (aCons (mLenN 5) aNil)))))))) (sRet (mWarm (ret (.bl false)))) sNil)
  (sSeq (sIf (mOr (mNot (mTest (mCall f__law_even [] (aCons (mVar 4) (aCons (mVar 5) (mIo 11 (aCons (mVar 7) aNil))))))) (mTest (mOp gNe (mVar 9) (mVar 7)))) (sRet (mWarm (ret (.bl false)))) sNil)
  (sSeq (sDrop (mAppN 11 (mTup mNil)))
  (sSeq (sAsg (mCall f_lots [] (aCons (mVar 6) (aCons (mCold (mB1 gTuple (mVar 7))) (aCons (mVar 8) aNil)))) (gSetM 12))
  (sSeq (sIf (mTest (mOp gNe (mVar 12) (mCold (mSlL (mVar 11) mNoPart (mPart (mUn gNeg (ret (.int 1)))))))) (sRet (mWarm (ret (.bl false)))) sNil)
  (sSeq (sIf (mNot (mTest (mCall f__law_turned_right [] (aCons (mVar 6) (aCons (mVar 4) (aCons (mVar 5) (aCons (mVar 7) (aCons (mVar 8) aNil)))))))) (sRet (mWarm (ret (.bl false)))) sNil)
  (sSeq (sAsg (mCall f_lots [] (aCons (mVar 6) (aCons (mVar 7) (aCons (ret (.int 1)) aNil)))) (gSetM 13))
  (sSeq (sIf (mOr (mTest (mOp gNe (mVar 13) (mCold (mLst (mCons (mCold (mB1 gTuple (mVar 7))) mNil))))) (mTest (mOp gNe (mCold (mCall f_cover [] (aCons (mVar 6) (aCons (mVar 7) aNil)))) (mCold (mB1 gTuple (mCold (mCall f__law_cover [] (aCons (mVar 4) (aCons (mVar 5) (aCons (mVar 7) aNil)))))))))) (sRet (mWarm (ret (.bl false)))) sNil)
  (sSeq (sAsg (mWarm (mIx (mCold (mLst (mCons (ret (.int 0)) (mCons (mUn gNeg (ret (.int 1))) (mCons (ret (.int 51)) (mCons (ret .non) (mCons (ret (.bl true)) mNil))))))) (mCold (mCall f__law_take [] (mIo 1 (aCons (ret (.int 5)) aNil)))))) (gSetM 14))
  (sSeq (sIf (mTest (mOp gNe (mCold (mCall f__law_number_refused [] (aCons (mVar 6) (aCons (mVar 7) (aCons (mVar 14) aNil))))) (ret (.str "numberTrueFalse")))) (sRet (mWarm (ret (.bl false)))) sNil)
  (sSeq (sIf (mTest (mOp gNe (mCold (mCall f__law_number_refused [] (aCons (mVar 6) (aCons (mCold (mOp gAdd (mVar 7) (mCold (mLst (mCons (mLenN 5) mNil))))) (aCons (mVar 14) aNil))))) (mCold (mOp gAdd (ret (.str "set")) (mCold (mB1 gStr1 (mLenN 7))))))) (sRet (mWarm (ret (.bl false)))) sNil)
  (sRet (mCall f__law_stock_lots [] (mIo 1 (aCons (mVar 2) (aCons (mVar 4) aNil))))))))))))))))))))))))))))))
def f_law_v2 : Fun' := runDef 14 [true] m_law_v2
/-! Market_there -/
def m_Market_there : MS := (sRet (mCall f_minus [] (aCons ((mLen (mFldN KS "runs" 0)).bnd fun x => opt (gTupRg (.int 0) x)) (aCons (mFldN KS "gone" 0) aNil))))
def f_Market_there : Fun' := runDef 0 [true] m_Market_there
/-! begins -/
def m_begins : MS := (sSeq (sAsg (mCall f_demand_of [] (aCons (mVar 0) (aCons (mVar 1) aNil))) (gSetM 2))
  (sSeq (sAsg (mLst mNil) (gSetM 3))
  (sSeq (sAsg (mWarm (ret (.int 0))) (gSetM 4))
  (sSeq (sFor (mItems (mVar 2)) (gSetM 5) (sSeq (sDrop (mAppN 3 (mCold (mOp gSub (mVar 5) (mVar 4)))))
  (sAsg (mWarm (mVar 5)) (gSetM 4))))
  (sSeq (sDrop (mAppN 3 (mUn gNeg (mVar 4))))
  (sRet (mB1 gTuple (mVar 3))))))))
def f_begins : Fun' := runDef 4 [true, true] m_begins
/-! _reached -/
def m__reached : MS := (sSeq (sAsg (ret (.dK [])) (gSetM 4))
  (sSeq (sFor (mItems (mVar 2)) (gSetM 5) (sPutN 4 (mVar 5) (ret .non)))
  (sSeq (sAsg (mB1 gList (mVar 2)) (gSetM 6))
  (sSeq (sAsg (mWarm (ret (.int 0))) (gSetM 7))
  (sSeq (sWhile (mTest (mOp gLt (mVar 7) (mLenN 6))) (sSeq (sAsg (mWarm (mIxN 6 (mVar 7))) (gSetM 5))
  (sSeq (sAug 7 gAddI (ret (.int 1)))
  (sSeq (sIf (mTest (mInN false 3 (mVar 5))) (sRet (mWarm (mTup (mCons (mVar 5) (mCons (mVar 4) mNil))))) sNil)
  (sFor (mItems (mCold (mMeth ([("Join", f_Market_there), ("Lap", f_Market_there)] : List (Str × Fun')) "there" (mVar 0) aNil))) (gSetM 8) (sSeq (sAsg (mWarm (mIx (mFldN KS "runs" 0) (mVar 8))) (gTupM 2 (gConsM (gSetM 9) (gConsM (gSetM 10) gNilM))))
  (sSeq (sIf (mTest (mWarm (mIxN 1 (mVar 8)))) (sPar 9 10 (mCons (mVar 10) (mCons (mVar 9) mNil))) sNil)
  (sIf (mAnd (mTest (mOp gEq (mVar 9) (mVar 5))) (mTest (mKeyN true 4 (mVar 10)))) (sSeq (sPutN 4 (mVar 10) (mTup (mCons (mVar 5) (mCons (mVar 8) mNil))))
  (sDrop (mAppN 6 (mVar 10)))) sNil))))))) 100)
  (sRet (mWarm (mTup (mCons (ret .non) (mCons (mVar 4) mNil))))))))))
def f__reached : Fun' := runDef 7 [true, true, true, true] m__reached
/-! _turn -/
def m__turn : MS := (sSeq (sWhile (mTest (mOp gNotN (mGetN 1 (mVar 2)) (ret .non))) (sSeq (sAsg (mWarm (mGetN 1 (mVar 2))) (gTupM 2 (gConsM (gSetM 2) (gConsM (gSetM 3) gNilM))))
  (sAsg (mWarm (mNotV (mIxN 0 (mVar 3)))) (gStN 0 (mVar 3)))) 100)
  (sRet (mMove 2)))
def f__turn : Fun' := runDef 1 [true, true, false] m__turn
/-! _chosen -/
def m__chosen : MS := (sRet (mB1 gTuple (mCold (mLc (mEnum (mVar 0)) (gTupM 2 (gConsM (gSetM 1) (gConsM (gSetM 2) gNilM))) (mTest (mWarm (mVar 2))) (mVar 1) (([("part", 1), ("is_in", 2)] : List (Str × Nat)).map (·.2))))))
def f__chosen : Fun' := runDef 2 [true] m__chosen
/-! _filled -/
def m__filled : MS := (sSeq (sAsg (mB1 gList (mCold (mCall f_begins [] (aCons (mVar 0) (aCons (mVar 1) aNil))))) (gSetM 2))
  (sSeq (sAsg (mLc (mItems (mFldN KS "runs" 0)) (gSetM 4) mYes (ret (.bl false)) (([("_", 4)] : List (Str × Nat)).map (·.2))) (gSetM 3))
  (sSeq (sAsg (mB1 gRng1 (mCold (mOp gAdd (mFldN KS "size" 0) (ret (.int 1))))) (gSetM 5))
  (sWhile (mTest (mWarm (ret (.bl true)))) (sSeq (sAsg (mLc (mItemsR (mVar 5)) (gSetM 7) (mTest (mOp gGt (mIxN 2 (mVar 7)) (ret (.int 0)))) (mVar 7) (([("point", 7)] : List (Str × Nat)).map (·.2))) (gSetM 6))
  (sSeq (sIf (mTest (mOp gEq (mLenN 6) (ret (.int 0)))) (sRet (mWarm (mTup (mCons (mCold (mCall f__chosen [] (aCons (mVar 3) aNil))) (mCons (mTup mNil) mNil))))) sNil)
  (sSeq (sAsg (mLc (mItemsR (mVar 5)) (gSetM 7) (mTest (mOp gLt (mIxN 2 (mVar 7)) (ret (.int 0)))) (mVar 7) (([("point", 7)] : List (Str × Nat)).map (·.2))) (gSetM 8))
  (sSeq (sAsg (mCall f__reached [] (aCons (mVar 0) (mIo 3 (aCons (mVar 6) (aCons (mVar 8) aNil))))) (gTupM 2 (gConsM (gSetM 9) (gConsM (gSetM 10) gNilM))))
  (sSeq (sIf (mTest (mOp gIsN (mVar 9) (ret .non))) (sRet (mWarm (mTup (mCons (ret .non) (mCons (mCold (mB1 gTuple (mCold (mB1 gSorted (mCold (mListKN 10)))))) mNil))))) sNil)
  (sSeq (sAugN 2 gAddI (mVar 9) (ret (.int 1)))
  (sAugN 2 gSubI (mCold (mCall f__turn [] (mIo 3 (aCons (mVar 10) (aCons (mVar 9) aNil))))) (ret (.int 1))))))))) 1000))))
def f__filled : Fun' := runDef 9 [true, true] m__filled
/-! _any_stock -/
def m__any_stock : MS := (sSeq (sIf (mTest (mOp gEq (mCon CN_KIND "KIND" (mVar 0)) (ret (.str "join")))) (sRet (mWarm (mIx (mCold (mCall f__filled [] (aCons (mVar 0) (aCons (mVar 1) aNil)))) (ret (.int 0))))) sNil)
  (sSeq (sAsg (mMeth ([("Join", f_Market_there), ("Lap", f_Market_there)] : List (Str × Fun')) "there" (mVar 0) aNil) (gSetM 2))
  (sSeq (sIf (mTest (mCall f_is_stock [] (aCons (mVar 0) (aCons (mVar 1) (aCons (mVar 2) aNil))))) (sRet (mMove 2)) sNil)
  (sRet (mWarm (ret .non))))))
def f__any_stock : Fun' := runDef 1 [true, true] m__any_stock
/-! some_stock -/
def m_some_stock : MS := (sRet (mCall f__any_stock [] (aCons (mVar 0) (aCons (mCold (mCall f_demand_of [] (aCons (mVar 0) (aCons (mVar 1) aNil)))) aNil))))
def f_some_stock : Fun' := runDef 0 [true, true] m_some_stock
/-! has_stock -/
def m_has_stock : MS := (sRet (mOp gNotN (mCold (mCall f__any_stock [] (aCons (mVar 0) (aCons (mCold (mCall f_demand_of [] (aCons (mVar 0) (aCons (mVar 1) aNil)))) aNil)))) (ret .non)))
def f_has_stock : Fun' := runDef 0 [true, true] m_has_stock
/-! _point_set -/
def m__point_set : MS := (sSeq (sIf (mNot (mTest (mIsT isLT (mVar 1)))) (sRaise1 "BadPoint" "point" (mVar 1)) sNil)
  (sSeq (sAsg (ret (.dK [])) (gSetM 2))
  (sSeq (sFor (mItems (mVar 1)) (gSetM 3) (sSeq (sIf (mOr (mNot (mTest (mCall f_is_int [] (aCons (mVar 3) aNil)))) (mOr (mTest (mOp gLt (mVar 3) (ret (.int 0)))) (mOr (mTest (mOp gGt (mVar 3) (mFldN KS "size" 0))) (mTest (mKeyN false 2 (mVar 3)))))) (sRaise1 "BadPoint" "point" (mVar 3)) sNil)
  (sPutN 2 (mVar 3) (ret (.bl true)))))
  (sRet (mB1 gTuple (mCold (mB1 gSorted (mCold (mListKN 2)))))))))
def f__point_set : Fun' := runDef 2 [true, true] m__point_set
/-! leaving -/
def m_leaving : MS := (sSeq (sAsg (mCall f__point_set [] (aCons (mVar 0) (aCons (mVar 1) aNil))) (gSetM 2))
  (sSeq (sAsg (mLst mNil) (gSetM 3))
  (sSeq (sFor (mItems (mCold (mMeth ([("Join", f_Market_there), ("Lap", f_Market_there)] : List (Str × Fun')) "there" (mVar 0) aNil))) (gSetM 4) (sSeq (sAsg (mWarm (mIx (mFldN KS "runs" 0) (mVar 4))) (gTupM 2 (gConsM (gSetM 5) (gConsM (gSetM 6) gNilM))))
  (sIf (mAnd (mTest (mInN false 2 (mVar 5))) (mTest (mInN true 2 (mVar 6)))) (sDrop (mAppN 3 (mVar 4))) sNil)))
  (sRet (mB1 gTuple (mVar 3))))))
def f_leaving : Fun' := runDef 5 [true, true] m_leaving
/-! entering -/
def m_entering : MS := (sSeq (sAsg (mCall f__point_set [] (aCons (mVar 0) (aCons (mVar 1) aNil))) (gSetM 2))
  (sSeq (sAsg (mLst mNil) (gSetM 3))
  (sSeq (sFor (mItems (mCold (mMeth ([("Join", f_Market_there), ("Lap", f_Market_there)] : List (Str × Fun')) "there" (mVar 0) aNil))) (gSetM 4) (sSeq (sAsg (mWarm (mIx (mFldN KS "runs" 0) (mVar 4))) (gTupM 2 (gConsM (gSetM 5) (gConsM (gSetM 6) gNilM))))
  (sIf (mAnd (mTest (mInN true 2 (mVar 5))) (mTest (mInN false 2 (mVar 6)))) (sDrop (mAppN 3 (mVar 4))) sNil)))
  (sRet (mB1 gTuple (mVar 3))))))
def f_entering : Fun' := runDef 5 [true, true] m_entering
/-! outflow -/
def m_outflow : MS := (sSeq (sAsg (mCall f_begins [] (aCons (mVar 0) (aCons (mVar 1) aNil))) (gSetM 3))
  (sRet (mB1 gSum (mCold (mLc (mItems (mCold (mCall f__point_set [] (aCons (mVar 0) (aCons (mVar 2) aNil))))) (gSetM 4) mYes (mIxN 3 (mVar 4)) (([("point", 4)] : List (Str × Nat)).map (·.2)))))))
def f_outflow : Fun' := runDef 2 [true, true, true] m_outflow
/-! lacking -/
def m_lacking : MS := (sSeq (sAsg (mCall f_demand_of [] (aCons (mVar 0) (aCons (mVar 1) aNil))) (gSetM 2))
  (sSeq (sIf (mTest (mOp gEq (mCon CN_KIND "KIND" (mVar 0)) (ret (.str "join")))) (sSeq (sAsg (mCall f__filled [] (aCons (mVar 0) (aCons (mVar 2) aNil))) (gTupM 2 (gConsM (gSetM 3) (gConsM (gSetM 4) gNilM))))
  (sRet (mIf (mTest (mOp gIsN (mVar 3) (ret .non))) (mWarm (mVar 4)) (mWarm (ret .non))))) sNil)
  (sSeq (sAsg (mCall f_cover [] (aCons (mVar 0) (aCons (mCold (mMeth ([("Join", f_Market_there), ("Lap", f_Market_there)] : List (Str × Fun')) "there" (mVar 0) aNil)) aNil))) (gSetM 5))
  (sSeq (sFor (mRange1 (mFldN KS "size" 0)) (gSetM 6) (sIf (mTest (mOp gLt (mIxN 5 (mVar 6)) (mIxN 2 (mVar 6)))) (sRet (mWarm ((mCold (mOp gAdd (mVar 6) (ret (.int 1)))).bnd fun x => opt (gTupRg (.int 0) x)))) sNil))
  (sRet (mWarm (ret .non)))))))
def f_lacking : Fun' := runDef 5 [true, true] m_lacking
/-! _law_size_wanted -/
def m__law_size_wanted : MS := (sRet (mWarm (mIx (mCold (mLst (mCons (ret (.int 1)) (mCons (ret (.int 2)) (mCons (ret (.int 1)) (mCons (ret (.int 0)) (mCons (ret (.int 2)) (mCons (ret (.int 3)) mNil)))))))) (mCold (mCall f__law_take [] (mIo 0 (aCons (ret (.int 6)) aNil)))))))
def f__law_size_wanted : Fun' := runDef 0 [true] m__law_size_wanted
/-! _law_demand -/
def m__law_demand : MS := (sSeq (sAsg (mCall f__law_size_wanted [] (mIo 0 aNil)) (gSetM 2))
  (sSeq (sAsg (mLc (mRange1 (mVar 1)) (gSetM 4) mYes (mVar 2) (([("_law_k", 4)] : List (Str × Nat)).map (·.2))) (gSetM 3))
  (sSeq (sAsg (mCall f__law_take [] (mIo 0 (aCons (ret (.int 4)) aNil))) (gSetM 5))
  (sSeq (sIf (mTest (mOp gGe (mVar 5) (ret (.int 2)))) (sSeq (sAsg (mCall f__law_run [] (mIo 0 (aCons (mVar 1) aNil))) (gSetM 6))
  (sFor (mRange2 (mIxN 6 (ret (.int 0))) (mIxN 6 (ret (.int 1)))) (gSetM 7) (sAugN 3 gAddI (mVar 7) (mIx (mCold (mLst (mCons (ret (.int 1)) (mCons (mUn gNeg (ret (.int 1))) mNil)))) (mCold (mOp gSub (mVar 5) (ret (.int 2)))))))) sNil)
  (sRet (mMove 3))))))
def f__law_demand : Fun' := runDef 6 [true, true] m__law_demand
/-! _law_is_stock -/
def m__law_is_stock : MS := (sSeq (sAsg (mCall f__law_cover [] (aCons (mVar 1) (aCons (mVar 2) (aCons (mVar 4) aNil)))) (gSetM 5))
  (sSeq (sFor (mRange1 (mVar 1)) (gSetM 6) (sSeq (sIf (mTest (mOp gLt (mIxN 5 (mVar 6)) (mIxN 3 (mVar 6)))) (sRet (mWarm (ret (.bl false)))) sNil)
  (sIf (mAnd (mTest (mOp gEq (mVar 0) (ret (.str "join")))) (mTest (mOp gGt (mIxN 5 (mVar 6)) (mIxN 3 (mVar 6))))) (sRet (mWarm (ret (.bl false)))) sNil)))
  (sRet (mWarm (ret (.bl true))))))
def f__law_is_stock : Fun' := runDef 2 [true, true, true, true, true] m__law_is_stock
/-! _law_sets -/
def m__law_sets : MS := (sSeq (sAsg (mLst (mCons (mCold (mLst mNil)) mNil)) (gSetM 1))
  (sSeq (sFor (mItems (mVar 0)) (gSetM 2) (sAsg (mOp gAdd (mVar 1) (mCold (mLc (mItems (mVar 1)) (gSetM 3) mYes (mCold (mOp gAdd (mVar 3) (mCold (mLst (mCons (mVar 2) mNil))))) (([("_law_one", 3)] : List (Str × Nat)).map (·.2))))) (gSetM 1)))
  (sRet (mMove 1))))
def f__law_sets : Fun' := runDef 3 [true] m__law_sets
/-! _law_outflow -/
def m__law_outflow : MS := (sSeq (sAsg (mWarm (ret (.int 0))) (gSetM 2))
  (sSeq (sFor (mItems (mVar 1)) (gSetM 3) (sSeq (sIf (mTest (mOp gLt (mVar 3) (mLenN 0))) (sAug 2 gAddI (mIxN 0 (mVar 3))) sNil)
  (sIf (mTest (mOp gGt (mVar 3) (ret (.int 0)))) (sAug 2 gSubI (mIxN 0 (mCold (mOp gSub (mVar 3) (ret (.int 1)))))) sNil)))
  (sRet (mMove 2))))
def f__law_outflow : Fun' := runDef 2 [true, true] m__law_outflow
/-! _law_over_edge -/
def m__law_over_edge : MS := (sSeq (sAsg (mLst mNil) (gSetM 4))
  (sSeq (sFor (mItems (mVar 1)) (gSetM 5) (sSeq (sAsg (mInN false 2 (mIx (mIxN 0 (mVar 5)) (ret (.int 0)))) (gSetM 6))
  (sSeq (sAsg (mInN false 2 (mIx (mIxN 0 (mVar 5)) (ret (.int 1)))) (gSetM 7))
  (sIf (mOr (mAnd (mTest (mWarm (mVar 3))) (mAnd (mTest (mWarm (mVar 7))) (mNot (mTest (mWarm (mVar 6)))))) (mAnd (mNot (mTest (mWarm (mVar 3)))) (mAnd (mTest (mWarm (mVar 6))) (mNot (mTest (mWarm (mVar 7))))))) (sDrop (mAppN 4 (mVar 5))) sNil))))
  (sRet (mB1 gTuple (mVar 4)))))
def f__law_over_edge : Fun' := runDef 4 [true, true, true, true] m__law_over_edge
/-! _law_lack_right -/
def m__law_lack_right : MS := (sSeq (sIf (mOr (mNot (mTest (mIsT (fun n => n == "tuple") (mVar 5)))) (mTest (mOp gEq (mLenN 5) (ret (.int 0))))) (sRet (mWarm (ret (.bl false)))) sNil)
  (sSeq (sAsg (mWarm (mUn gNeg (ret (.int 1)))) (gSetM 6))
  (sSeq (sFor (mItems (mVar 5)) (gSetM 7) (sSeq (sIf (mOr (mNot (mTest (mCall f__law_int [] (aCons (mVar 7) aNil)))) (mOr (mTest (mOp gLe (mVar 7) (mVar 6))) (mTest (mOp gGt (mVar 7) (mVar 1))))) (sRet (mWarm (ret (.bl false)))) sNil)
  (sAsg (mWarm (mVar 7)) (gSetM 6))))
  (sSeq (sIf (mTest (mOp gEq (mVar 0) (ret (.str "lap")))) (sSeq (sAsg (mWarm (mIxN 5 (mUn gNeg (ret (.int 1))))) (gSetM 8))
  (sSeq (sAsg (mCall f__law_cover [] (aCons (mVar 1) (aCons (mVar 2) (aCons (mVar 3) aNil)))) (gSetM 9))
  (sIf (mOr (mTest (mOp gNe (mVar 5) ((mCold (mOp gAdd (mVar 8) (ret (.int 1)))).bnd fun x => opt (gTupRg (.int 0) x)))) (mOr (mTest (mOp gGe (mVar 8) (mVar 1))) (mTest (mOp gGe (mIxN 9 (mVar 8)) (mIxN 4 (mVar 8)))))) (sRet (mWarm (ret (.bl false)))) sNil))) sNil)
  (sRet (mOp gGt (mCold (mCall f__law_outflow [] (aCons (mVar 4) (aCons (mVar 5) aNil)))) (mLen (mCold (mCall f__law_over_edge [] (aCons (mVar 2) (aCons (mVar 3) (aCons (mVar 5) (aCons (ret (.bl false)) aNil)))))))))))))
def f__law_lack_right : Fun' := runDef 4 [true, true, true, true, true, true] m__law_lack_right
/-! _law_refused_v2 -/
def m__law_refused_v2 : MS := (sSeq (sAsg (mLst (mCons (ret (.str "none")) (mCons (ret (.int 0)) mNil))) (gSetM 3))
  (sSeq (sTryL 4 (sDrop (mCall f_outflow [] (aCons (mVar 0) (aCons (mVar 1) (aCons (mVar 2) aNil))))) [(subOf ["BadDemand", "BadPoint"] "BadDemand", (sAsg (mLst (mCons (ret (.str "demand")) (mCons (mErr 4 "BadDemand" "place") mNil))) (gSetM 3))), (subOf ["BadDemand", "BadPoint"] "BadPoint", (sAsg (mLst (mCons (ret (.str "point")) (mCons (mErr 4 "BadPoint" "point") (mCons (mCold (mIsErr 4 "BadPoint" true)) (mCons (mCold (mIsErr 4 "BadPoint" false)) mNil))))) (gSetM 3)))])
  (sRet (mMove 3))))
def f__law_refused_v2 : Fun' := runDef 2 [true, true, true] m__law_refused_v2
/-! _law_door_refused -/
def m__law_door_refused : MS := (sSeq (sAsg (mLst (mCons (ret (.str "none")) (mCons (ret (.int 0)) mNil))) (gSetM 4))
  (sSeq (sTryL 5 (sIf (mTest (mOp gEq (mVar 0) (ret (.int 0)))) (sDrop (mCall f_leaving [] (aCons (mVar 1) (aCons (mVar 3) aNil)))) (sIf (mTest (mOp gEq (mVar 0) (ret (.int 1)))) (sDrop (mCall f_entering [] (aCons (mVar 1) (aCons (mVar 3) aNil)))) (sIf (mTest (mOp gEq (mVar 0) (ret (.int 2)))) (sDrop (mCall f_outflow [] (aCons (mVar 1) (aCons (mVar 2) (aCons (mVar 3) aNil))))) (sIf (mTest (mOp gEq (mVar 0) (ret (.int 3)))) (sDrop (mCall f_some_stock [] (aCons (mVar 1) (aCons (mVar 2) aNil)))) (sIf (mTest (mOp gEq (mVar 0) (ret (.int 4)))) (sDrop (mCall f_has_stock [] (aCons (mVar 1) (aCons (mVar 2) aNil)))) (sDrop (mCall f_lacking [] (aCons (mVar 1) (aCons (mVar 2) aNil))))))))) [(subOf ["BadDemand", "BadPoint"] "BadDemand", (sAsg (mLst (mCons (ret (.str "demand")) (mCons (mErr 5 "BadDemand" "place") mNil))) (gSetM 4))), (subOf ["BadDemand", "BadPoint"] "BadPoint", (sAsg (mLst (mCons (ret (.str "point")) (mCons (mErr 5 "BadPoint" "point") mNil))) (gSetM 4)))])
  (sRet (mMove 4))))
def f__law_door_refused : Fun' := runDef 2 [true, true, true, true] m__law_door_refused
/-! _law_doors_right -/
def m__law_doors_right : MS := (sSeq (sFor (mRange1 (ret (.int 3))) (gSetM 5) (sSeq (sIf (mTest (mOp gNe (mCold (mCall f__law_door_refused [] (aCons (mVar 5) (aCons (mVar 0) (aCons (mVar 2) (aCons (mVar 3) aNil)))))) (mCold (mLst (mCons (ret (.str "point")) (mCons (mVar 4) mNil)))))) (sRet (mWarm (ret (.bl false)))) sNil)
  (sSeq (sIf (mTest (mOp gNe (mCold (mCall f__law_door_refused [] (aCons (mVar 5) (aCons (mVar 0) (aCons (mVar 2) (aCons (mCold (mLst (mCons (ret (.bl true)) mNil))) aNil)))))) (mCold (mLst (mCons (ret (.str "point")) (mCons (ret (.bl true)) mNil)))))) (sRet (mWarm (ret (.bl false)))) sNil)
  (sSeq (sIf (mTest (mOp gNe (mCold (mCall f__law_door_refused [] (aCons (mVar 5) (aCons (mVar 0) (aCons (mVar 2) (aCons (ret .non) aNil)))))) (mCold (mLst (mCons (ret (.str "point")) (mCons (ret .non) mNil)))))) (sRet (mWarm (ret (.bl false)))) sNil)
  (sIf (mTest (mOp gNe (mCold (mCall f__law_door_refused [] (aCons (mVar 5) (aCons (mVar 0) (aCons (mVar 2) (aCons (mTup (mCons (mVar 1) (mCons (mVar 1) mNil))) aNil)))))) (mCold (mLst (mCons (ret (.str "point")) (mCons (mVar 1) mNil)))))) (sRet (mWarm (ret (.bl false)))) sNil)))))
  (sSeq (sFor (mRange2 (ret (.int 2)) (ret (.int 6))) (gSetM 5) (sSeq (sIf (mTest (mOp gNe (mCold (mCall f__law_door_refused [] (aCons (mVar 5) (aCons (mVar 0) (aCons (mCold (mOp gAdd (mVar 2) (mCold (mLst (mCons (ret (.int 0)) mNil))))) (aCons (mVar 3) aNil)))))) (mCold (mLst (mCons (ret (.str "demand")) (mCons (mUn gNeg (ret (.int 1))) mNil)))))) (sRet (mWarm (ret (.bl false)))) sNil)
  (sIf (mTest (mOp gNe (mCold (mCall f__law_door_refused [] (aCons (mVar 5) (aCons (mVar 0) (aCons (mCold (mOp gAdd (mCold (mLst (mCons (ret .non) mNil))) (mCold (mSlL (mVar 2) (mPart (ret (.int 1))) mNoPart)))) (aCons (mVar 3) aNil)))))) (mCold (mLst (mCons (ret (.str "demand")) (mCons (ret (.int 0)) mNil)))))) (sRet (mWarm (ret (.bl false)))) sNil)))
  (sRet (mWarm (ret (.bl true))))))
def f__law_doors_right : Fun' := runDef 1 [true, true, true, true, true] m__law_doors_right
/-! _law_points -/
def m__law_points : MS := (sSeq (sAsg (mLc (mRange1 (mCold (mOp gAdd (mVar 2) (ret (.int 1))))) (gSetM 7) (mTest (mOp gEq (mCold (mCall f__law_take [] (mIo 0 (aCons (ret (.int 2)) aNil)))) (ret (.int 1)))) (mVar 7) (([("_law_point", 7)] : List (Str × Nat)).map (·.2))) (gSetM 6))
  (sSeq (sAsg (mLc (mRange1 (mLenN 6)) (gSetM 9) mYes (mIxN 6 (mCold (mOp gSub (mCold (mOp gSub (mLenN 6) (ret (.int 1)))) (mVar 9)))) (([("_law_k", 9)] : List (Str × Nat)).map (·.2))) (gSetM 8))
  (sSeq (sIf (mTest (mOp gNe (mCold (mCall f_leaving [] (aCons (mVar 1) (aCons (mVar 8) aNil)))) (mCold (mCall f__law_over_edge [] (aCons (mVar 3) (aCons (mVar 4) (aCons (mVar 6) (aCons (ret (.bl false)) aNil)))))))) (sRet (mWarm (ret (.bl false)))) sNil)
  (sSeq (sIf (mTest (mOp gNe (mCold (mCall f_entering [] (aCons (mVar 1) (aCons (mCold (mB1 gTuple (mVar 6))) aNil)))) (mCold (mCall f__law_over_edge [] (aCons (mVar 3) (aCons (mVar 4) (aCons (mVar 6) (aCons (ret (.bl true)) aNil)))))))) (sRet (mWarm (ret (.bl false)))) sNil)
  (sSeq (sIf (mTest (mOp gNe (mCold (mCall f_outflow [] (aCons (mVar 1) (aCons (mVar 5) (aCons (mVar 8) aNil))))) (mCold (mCall f__law_outflow [] (aCons (mVar 5) (aCons (mVar 6) aNil)))))) (sRet (mWarm (ret (.bl false)))) sNil)
  (sSeq (sAsg (mCall f__law_take [] (mIo 0 (aCons (mCold (mOp gAdd (mLenN 6) (ret (.int 1)))) aNil))) (gSetM 10))
  (sSeq (sAsg (mWarm (mIx (mCold (mLst (mCons (mCold (mOp gAdd (mVar 2) (ret (.int 1)))) (mCons (mUn gNeg (ret (.int 1))) (mCons (ret .non) mNil))))) (mCold (mCall f__law_take [] (mIo 0 (aCons (ret (.int 3)) aNil)))))) (gSetM 11))
  (sSeq (sAsg (mOp gAdd (mCold (mOp gAdd (mCold (mSlL (mVar 6) mNoPart (mPart (mVar 10)))) (mCold (mLst (mCons (mVar 11) mNil))))) (mCold (mSlL (mVar 6) (mPart (mVar 10)) mNoPart))) (gSetM 12))
  (sSeq (sIf (mTest (mOp gNe (mCold (mCall f__law_refused_v2 [] (aCons (mVar 1) (aCons (mVar 5) (aCons (mVar 12) aNil))))) (mCold (mLst (mCons (ret (.str "point")) (mCons (mVar 11) (mCons (ret (.bl true)) (mCons (ret (.bl false)) mNil)))))))) (sRet (mWarm (ret (.bl false)))) sNil)
  (sSeq (sIf (mAnd (mTest (mOp gGt (mLenN 6) (ret (.int 0)))) (mTest (mOp gNe (mCold (mCall f__law_refused_v2 [] (aCons (mVar 1) (aCons (mVar 5) (aCons (mCold (mOp gAdd (mVar 6) (mCold (mLst (mCons (mIxN 6 (ret (.int 0))) mNil))))) aNil))))) (mCold (mLst (mCons (ret (.str "point")) (mCons (mIxN 6 (ret (.int 0))) (mCons (ret (.bl true)) (mCons (ret (.bl false)) mNil))))))))) (sRet (mWarm (ret (.bl false)))) sNil)
  (sSeq (sIf (mNot (mTest (mCall f__law_doors_right [] (aCons (mVar 1) (aCons (mVar 2) (aCons (mVar 5) (aCons (mVar 12) (aCons (mVar 11) aNil)))))))) (sRet (mWarm (ret (.bl false)))) sNil)
  (sRet (mOp gEq (mCold (mCall f__law_refused_v2 [] (aCons (mVar 1) (aCons (mCold (mOp gAdd (mVar 5) (mCold (mLst (mCons (ret (.int 0)) mNil))))) (aCons (mVar 12) aNil))))) (mCold (mLst (mCons (ret (.str "demand")) (mCons (mUn gNeg (ret (.int 1))) mNil)))))))))))))))))
def f__law_points : Fun' := runDef 7 [true, true, true, true, true, true] m__law_points
/-! law_v3 -/
def m_law_v3 : MS := (sSeq (sAsg (mCall f__law_draws [] (aCons (mVar 0) aNil)) (gSetM 1))
  (sSeq (sAsg (mCall f__law_kind [] (mIo 1 aNil)) (gSetM 2))
  (sSeq (sAsg (mCall f__law_market [] (mIo 1 (aCons (ret (.int 8)) aNil))) (gSetM 3))
  (sSeq (sAsg (mWarm (mIxN 3 (ret (.int 0)))) (gSetM 4))
  (sSeq (sAsg (mWarm (mIxN 3 (ret (.int 1)))) (gSetM 5))
  (sSeq (sAsg (mWarm (mIxN 3 (ret (.int 2)))) (gSetM 6))
  (sSeq (sAsg (mCall f__law_built [] (aCons (mVar 2) (aCons (mVar 4) (aCons (mCold (mB1 gList (mVar 5))) (aCons (mCold (mB1 gList (mVar 6))) aNil))))) (gSetM 7))
  (sSeq (sAsg (mLc (mRange1 (mLenN 5)) (gSetM 9) (mTest (mInN true 6 (mVar 9))) (mVar 9) (([("_law_part", 9)] : List (Str × Nat)).map (·.2))) (gSetM 8))
  (sSeq (sAsg (mCall f__law_demand [] (mIo 1 (aCons (mVar 4) aNil))) (gSetM 10))
  (sSeq (sAsg (mLc (mItems (mCold (mCall f__law_parts [] (mIo 1 (aCons (mLenN 5) aNil))))) (gSetM 9) (mTest (mInN false 8 (mVar 9))) (mVar 9) (([("_law_part", 9)] : List (Str × Nat)).map (·.2))) (gSetM 11))
  (sSeq (sIf (mTest (mOp gEq (mCold (mCall f__law_take [] (mIo 1 (aCons (ret (.int 3)) aNil)))) (ret (.int 0)))) (sAsg (mCall f__law_cover [] (aCons (mVar 4) (aCons (mVar 5) (aCons (mVar 11) aNil)))) (gSetM 10)) sNil)
  (sSeq (sAsg (mWarm (ret (.bl false))) (gSetM 12))
  (sSeq (sFor (mItems (mCold (mCall f__law_sets [] (aCons (mVar 8) aNil)))) (gSetM 13) (sIf (mAnd (mNot (mTest (mWarm (mVar 12)))) (mTest (mCall f__law_is_stock [] (aCons (mVar 2) (aCons (mVar 4) (aCons (mVar 5) (aCons (mVar 10) (aCons (mVar 13) aNil)))))))) (sAsg (mWarm (ret (.bl true))) (gSetM 12)) sNil))
  (sSeq (sAsg (mCall f_some_stock [] (aCons (mVar 7) (aCons (mCold (mB1 gList (mVar 10))) aNil))) (gSetM 14))
  (sSeq (sIf (mOr (mTest (mOp gNe (mCold (mCall f_has_stock [] (aCons (mVar 7) (aCons (mCold (mB1 gTuple (mVar 10))) aNil)))) (mVar 12))) (mTest (mOp gNe (mCold (mOp gNotN (mVar 14) (ret .non))) (mVar 12)))) (sRet (mWarm (ret (.bl false)))) sNil)
  (sSeq (sAsg (mCall f_lacking [] (aCons (mVar 7) (aCons (mVar 10) aNil))) (gSetM 15))
  (sSeq (sIf (mTest (mOp gNe (mCold (mOp gIsN (mVar 15) (ret .non))) (mVar 12))) (sRet (mWarm (ret (.bl false)))) sNil)
  (sSeq (sIf (mTest (mWarm (mVar 12))) (sSeq (sIf (mOr (mNot (mTest (mCall f__law_set [] (aCons (mVar 14) (aCons (mLenN 5) aNil))))) (mNot (mTest (mCall f_is_stock [] (aCons (mVar 7) (aCons (mVar 10) (aCons (mVar 14) aNil))))))) (sRet (mWarm (ret (.bl false)))) sNil)
  (sSeq (sIf (mTest (mOp gGt (mLen (mCold (mLc (mItems (mVar 14)) (gSetM 9) (mTest (mInN false 6 (mVar 9))) (mVar 9) (([("_law_part", 9)] : List (Str × Nat)).map (·.2))))) (ret (.int 0)))) (sRet (mWarm (ret (.bl false)))) sNil)
  (sIf (mNot (mTest (mCall f__law_is_stock [] (aCons (mVar 2) (aCons (mVar 4) (aCons (mVar 5) (aCons (mVar 10) (aCons (mVar 14) aNil)))))))) (sRet (mWarm (ret (.bl false)))) sNil))) (sIf (mNot (mTest (mCall f__law_lack_right [] (aCons (mVar 2) (aCons (mVar 4) (aCons (mVar 5) (aCons (mVar 8) (aCons (mVar 10) (aCons (mVar 15) aNil))))))))) (sRet (mWarm (ret (.bl false)))) sNil))
  (sRet (mCall f__law_points [] (mIo 1 (aCons (mVar 7) (aCons (mVar 4) (aCons (mVar 5) (aCons (mVar 8) (aCons (mVar 10) aNil))))))))))))))))))))))))))
def f_law_v3 : Fun' := runDef 15 [true] m_law_v3
end L2.Fn
set_option maxRecDepth 100000
set_option maxHeartbeats 4000000
/-! FnLibK11: what the defs compute (printed). -/
namespace L2.Fn
open PySem PySem.Spec PyProof.Rows L2
/-! check_part -/
def m_check_part : MS := (sSeq (sIf (mOr (mNot (mTest (mCall f_is_int [] (aCons (mVar 1) aNil)))) (mOr (mTest (mOp gLt (mVar 1) (ret (.int 0)))) (mTest (mOp gGe (mVar 1) (mLen (mFldN KS "runs" 0)))))) (sRaise1 "BadPart" "part" (mVar 1)) sNil)
  (sRet (mMove 1)))
def f_check_part : Fun' := runDef 0 [true, true] m_check_part
/-! part_there -/
def m_part_there : MS := (sSeq (sDrop (mCall f_check_part [] (aCons (mVar 0) (aCons (mVar 1) aNil))))
  (sSeq (sIf (mTest (mOp (gIn false) (mVar 1) (mFldN KS "gone" 0))) (sRaise1 "IsGone" "part" (mVar 1)) sNil)
  (sRet (mMove 1))))
def f_part_there : Fun' := runDef 0 [true, true] m_part_there
/-! _full_flow -/
def m__full_flow : MS := (sSeq (sAsg (mLc (mItems (mFldN KS "runs" 0)) (gSetM 2) mYes (ret (.bl false)) (([("_", 2)] : List (Str × Nat)).map (·.2))) (gSetM 1))
  (sSeq (sAsg (mWarm (ret (.int 0))) (gSetM 3))
  (sSeq (sAsg (mCall f__reached [] (aCons (mVar 0) (mIo 1 (aCons (mCold (mLst (mCons (ret (.int 0)) mNil))) (aCons (mCold (mLst (mCons (mFldN KS "size" 0) mNil))) aNil))))) (gTupM 2 (gConsM (gSetM 4) (gConsM (gSetM 5) gNilM))))
  (sSeq (sWhile (mTest (mOp gNotN (mVar 4) (ret .non))) (sSeq (sDrop (mCall f__turn [] (mIo 1 (aCons (mVar 5) (aCons (mVar 4) aNil)))))
  (sSeq (sAug 3 gAddI (ret (.int 1)))
  (sAsg (mCall f__reached [] (aCons (mVar 0) (mIo 1 (aCons (mCold (mLst (mCons (ret (.int 0)) mNil))) (aCons (mCold (mLst (mCons (mFldN KS "size" 0) mNil))) aNil))))) (gTupM 2 (gConsM (gSetM 4) (gConsM (gSetM 5) gNilM)))))) 1000)
  (sRet (mWarm (mTup (mCons (mVar 3) (mCons (mCold (mB1 gTuple (mCold (mB1 gSorted (mCold (mListKN 5)))))) mNil)))))))))
def f__full_flow : Fun' := runDef 5 [true] m__full_flow
/-! strength -/
def m_strength : MS := (sSeq (sIf (mTest (mOp gEq (mCon CN_KIND "KIND" (mVar 0)) (ret (.str "join")))) (sRet (mWarm (mIx (mCold (mCall f__full_flow [] (aCons (mVar 0) aNil))) (ret (.int 0))))) sNil)
  (sRet (mB1 gMinL (mCold (mB1 gList (mCold (mCall f_cover [] (aCons (mVar 0) (aCons (mCold (mMeth ([("Join", f_Market_there), ("Lap", f_Market_there)] : List (Str × Fun')) "there" (mVar 0) aNil)) aNil)))))))))
def f_strength : Fun' := runDef 0 [true] m_strength
/-! _join_state -/
def m__join_state : MS := (sSeq (sAsg (mWarm (mIx (mCold (mCall f__filled [] (aCons (mVar 0) (aCons (mVar 1) aNil)))) (ret (.int 0)))) (gSetM 3))
  (sSeq (sIf (mTest (mOp gIsN (mVar 3) (ret .non))) (sRaise0 "NoStock") sNil)
  (sSeq (sAsg (mLc (mRange1 (mLen (mFldN KS "runs" 0))) (gSetM 5) mYes (mCold (mInN false 3 (mVar 5))) (([("number", 5)] : List (Str × Nat)).map (·.2))) (gSetM 4))
  (sSeq (sAsg (mWarm (mIx (mFldN KS "runs" 0) (mVar 2))) (gTupM 2 (gConsM (gSetM 6) (gConsM (gSetM 7) gNilM))))
  (sSeq (sIf (mTest (mWarm (mIxN 4 (mVar 2)))) (sSeq (sAsg (mCall f__reached [] (aCons (mVar 0) (mIo 4 (aCons (mCold (mLst (mCons (mVar 6) mNil))) (aCons (mCold (mLst (mCons (mVar 7) mNil))) aNil))))) (gTupM 2 (gConsM (gSetM 8) (gConsM (gSetM 9) gNilM))))
  (sAsg (mWarm (ret (.str "firm"))) (gSetM 10))) (sSeq (sAsg (mCall f__reached [] (aCons (mVar 0) (mIo 4 (aCons (mCold (mLst (mCons (mVar 7) mNil))) (aCons (mCold (mLst (mCons (mVar 6) mNil))) aNil))))) (gTupM 2 (gConsM (gSetM 8) (gConsM (gSetM 9) gNilM))))
  (sAsg (mWarm (ret (.str "dead"))) (gSetM 10))))
  (sSeq (sIf (mTest (mOp gIsN (mVar 8) (ret .non))) (sRet (mWarm (mTup (mCons (mVar 10) (mCons (mCold (mB1 gTuple (mCold (mB1 gSorted (mCold (mListKN 9)))))) mNil))))) sNil)
  (sRet (mWarm (mTup (mCons (ret (.str "loose")) (mCons (ret .non) mNil)))))))))))
def f__join_state : Fun' := runDef 8 [true, true, true] m__join_state
/-! _lap_state -/
def m__lap_state : MS := (sSeq (sIf (mTest (mOp gIsN (mCold (mCall f__any_stock [] (aCons (mVar 0) (aCons (mVar 1) aNil)))) (ret .non))) (sRaise0 "NoStock") sNil)
  (sSeq (sAsg (mCall f_cover [] (aCons (mVar 0) (aCons (mCold (mMeth ([("Join", f_Market_there), ("Lap", f_Market_there)] : List (Str × Fun')) "there" (mVar 0) aNil)) aNil))) (gSetM 3))
  (sSeq (sAsg (mWarm (mIx (mFldN KS "runs" 0) (mVar 2))) (gTupM 2 (gConsM (gSetM 4) (gConsM (gSetM 5) gNilM))))
  (sSeq (sFor (mRange2 (mVar 4) (mVar 5)) (gSetM 6) (sIf (mTest (mOp gEq (mIxN 3 (mVar 6)) (mIxN 1 (mVar 6)))) (sRet (mWarm (mTup (mCons (ret (.str "firm")) (mCons ((mCold (mOp gAdd (mVar 6) (ret (.int 1)))).bnd fun x => opt (gTupRg (.int 0) x)) mNil))))) sNil))
  (sRet (mWarm (mTup (mCons (ret (.str "loose")) (mCons (ret .non) mNil)))))))))
def f__lap_state : Fun' := runDef 4 [true, true, true] m__lap_state
/-! _state -/
def m__state : MS := (sSeq (sAsg (mCall f_demand_of [] (aCons (mVar 0) (aCons (mVar 1) aNil))) (gSetM 3))
  (sSeq (sDrop (mCall f_part_there [] (aCons (mVar 0) (aCons (mVar 2) aNil))))
  (sSeq (sIf (mTest (mOp gEq (mCon CN_KIND "KIND" (mVar 0)) (ret (.str "join")))) (sRet (mCall f__join_state [] (aCons (mVar 0) (aCons (mVar 3) (aCons (mVar 2) aNil))))) sNil)
  (sRet (mCall f__lap_state [] (aCons (mVar 0) (aCons (mVar 3) (aCons (mVar 2) aNil))))))))
def f__state : Fun' := runDef 1 [true, true, true] m__state
/-! state_of -/
def m_state_of : MS := (sRet (mWarm (mIx (mCold (mCall f__state [] (aCons (mVar 0) (aCons (mVar 1) (aCons (mVar 2) aNil))))) (ret (.int 0)))))
def f_state_of : Fun' := runDef 0 [true, true, true] m_state_of
/-! full_points -/
def m_full_points : MS := (sRet (mWarm (mIx (mCold (mCall f__state [] (aCons (mVar 0) (aCons (mVar 1) (aCons (mVar 2) aNil))))) (ret (.int 1)))))
def f_full_points : Fun' := runDef 0 [true, true, true] m_full_points
/-! _law_all_stocks -/
def m__law_all_stocks : MS := (sRet (mLc (mItems (mCold (mCall f__law_sets [] (aCons (mVar 3) aNil)))) (gSetM 5) (mTest (mCall f__law_is_stock [] (aCons (mVar 0) (aCons (mVar 1) (aCons (mVar 2) (aCons (mVar 4) (aCons (mVar 5) aNil))))))) (mVar 5) (([("_law_parts", 5)] : List (Str × Nat)).map (·.2))))
def f__law_all_stocks : Fun' := runDef 1 [true, true, true, true, true] m__law_all_stocks
/-! _law_state -/
def m__law_state : MS := (sSeq (sAsg (mWarm (mLen (mCold (mLc (mItems (mVar 0)) (gSetM 3) (mTest (mInN false 3 (mVar 1))) (mVar 3) (([("_law_parts", 3)] : List (Str × Nat)).map (·.2)))))) (gSetM 2))
  (sSeq (sIf (mTest (mOp gEq (mVar 2) (mLenN 0))) (sRet (mWarm (ret (.str "firm")))) sNil)
  (sSeq (sIf (mTest (mOp gEq (mVar 2) (ret (.int 0)))) (sRet (mWarm (ret (.str "dead")))) sNil)
  (sRet (mWarm (ret (.str "loose")))))))
def f__law_state : Fun' := runDef 2 [true, true] m__law_state
/-! _law_full_right -/
def m__law_full_right : MS := (sSeq (sAsg (mCall f_full_points [] (aCons (mVar 4) (aCons (mVar 5) (aCons (mVar 7) aNil)))) (gSetM 9))
  (sSeq (sIf (mTest (mOp gEq (mVar 8) (ret (.str "loose")))) (sRet (mOp gIsN (mVar 9) (ret .non))) sNil)
  (sSeq (sIf (mOr (mNot (mTest (mCall f__law_set [] (aCons (mVar 9) (aCons (mCold (mOp gAdd (mVar 1) (ret (.int 1)))) aNil))))) (mTest (mOp gEq (mLenN 9) (ret (.int 0))))) (sRet (mWarm (ret (.bl false)))) sNil)
  (sSeq (sAsg (mCall f_leaving [] (aCons (mVar 4) (aCons (mVar 9) aNil))) (gSetM 10))
  (sSeq (sAsg (mCall f_entering [] (aCons (mVar 4) (aCons (mVar 9) aNil))) (gSetM 11))
  (sSeq (sAsg (mInN false 9 (mIx (mIxN 2 (mVar 7)) (ret (.int 0)))) (gSetM 12))
  (sSeq (sAsg (mInN false 9 (mIx (mIxN 2 (mVar 7)) (ret (.int 1)))) (gSetM 13))
  (sSeq (sIf (mAnd (mTest (mOp gEq (mVar 8) (ret (.str "firm")))) (mOr (mNot (mTest (mWarm (mVar 12)))) (mOr (mTest (mWarm (mVar 13))) (mTest (mInN true 10 (mVar 7)))))) (sRet (mWarm (ret (.bl false)))) sNil)
  (sSeq (sIf (mAnd (mTest (mOp gEq (mVar 8) (ret (.str "dead")))) (mOr (mTest (mWarm (mVar 12))) (mOr (mNot (mTest (mWarm (mVar 13)))) (mTest (mInN true 11 (mVar 7)))))) (sRet (mWarm (ret (.bl false)))) sNil)
  (sSeq (sIf (mTest (mOp gNe (mCold (mCall f_outflow [] (aCons (mVar 4) (aCons (mVar 5) (aCons (mVar 9) aNil))))) (mLenN 10))) (sRet (mWarm (ret (.bl false)))) sNil)
  (sSeq (sIf (mTest (mOp gEq (mVar 0) (ret (.str "lap")))) (sSeq (sAsg (mWarm (mIxN 9 (mUn gNeg (ret (.int 1))))) (gSetM 14))
  (sSeq (sIf (mOr (mTest (mOp gNe (mVar 9) ((mCold (mOp gAdd (mVar 14) (ret (.int 1)))).bnd fun x => opt (gTupRg (.int 0) x)))) (mNot (mTest (mChain gLe gLt (mIx (mIxN 2 (mVar 7)) (ret (.int 0))) (mVar 14) (mIx (mIxN 2 (mVar 7)) (ret (.int 1))))))) (sRet (mWarm (ret (.bl false)))) sNil)
  (sIf (mTest (mOp gNe (mIx (mCold (mCall f__law_cover [] (aCons (mVar 1) (aCons (mVar 2) (aCons (mVar 3) aNil))))) (mVar 14)) (mIxN 5 (mVar 14)))) (sRet (mWarm (ret (.bl false)))) sNil))) sNil)
  (sSeq (sFor (mItems (mVar 6)) (gSetM 15) (sSeq (sFor (mItems (mVar 10)) (gSetM 16) (sIf (mTest (mInN true 15 (mVar 16))) (sRet (mWarm (ret (.bl false)))) sNil))
  (sFor (mItems (mVar 11)) (gSetM 16) (sIf (mAnd (mTest (mOp gEq (mVar 0) (ret (.str "join")))) (mTest (mInN false 15 (mVar 16)))) (sRet (mWarm (ret (.bl false)))) sNil))))
  (sRet (mWarm (ret (.bl true))))))))))))))))
def f__law_full_right : Fun' := runDef 8 [true, true, true, true, true, true, true, true, true] m__law_full_right
/-! _law_refused_v3 -/
def m__law_refused_v3 : MS := (sSeq (sAsg (mLst (mCons (ret (.str "none")) (mCons (ret (.int 0)) (mCons (ret (.bl false)) mNil)))) (gSetM 3))
  (sSeq (sTryL 4 (sDrop (mCall f_state_of [] (aCons (mVar 0) (aCons (mVar 1) (aCons (mVar 2) aNil))))) [(subOf ["BadDemand", "BadPart", "IsGone", "NoStock"] "BadDemand", (sAsg (mLst (mCons (ret (.str "demand")) (mCons (mErr 4 "BadDemand" "place") (mCons (mCold (mIsErr 4 "BadDemand" true)) mNil)))) (gSetM 3))), (subOf ["BadDemand", "BadPart", "IsGone", "NoStock"] "BadPart", (sAsg (mLst (mCons (ret (.str "part")) (mCons (mErr 4 "BadPart" "part") (mCons (mCold (mIsErr 4 "BadPart" true)) mNil)))) (gSetM 3))), (subOf ["BadDemand", "BadPart", "IsGone", "NoStock"] "IsGone", (sAsg (mLst (mCons (ret (.str "gone")) (mCons (mErr 4 "IsGone" "part") (mCons (mCold (mIsErr 4 "IsGone" true)) mNil)))) (gSetM 3))), (subOf ["BadDemand", "BadPart", "IsGone", "NoStock"] "NoStock", (sAsg (mLst (mCons (ret (.str "stock")) (mCons (ret (.int 0)) (mCons (mCold (mIsErr 4 "NoStock" true)) mNil)))) (gSetM 3)))])
  (sRet (mMove 3))))
def f__law_refused_v3 : Fun' := runDef 2 [true, true, true] m__law_refused_v3
/-! _law_points_refused -/
def m__law_points_refused : MS := (sSeq (sAsg (mWarm (ret (.str "none"))) (gSetM 3))
  (sSeq (sTryL 4 (sDrop (mCall f_full_points [] (aCons (mVar 0) (aCons (mVar 1) (aCons (mVar 2) aNil))))) [(subOf ["BadDemand", "BadPart", "IsGone", "NoStock"] "IsGone", (sAsg (mOp gAdd (ret (.str "gone")) (mCold (mB1 gStr1 (mErr 4 "IsGone" "part")))) (gSetM 3))), (subOf ["BadDemand", "BadPart", "IsGone", "NoStock"] "NoStock", (sAsg (mOp gAdd (ret (.str "stock")) (mCold (mB1 gStrB (mCold (mIsErr 4 "NoStock" false))))) (gSetM 3)))])
  (sRet (mMove 3))))
def f__law_points_refused : Fun' := runDef 2 [true, true, true] m__law_points_refused
/-! _law_refusals -/
def m__law_refusals : MS := (sSeq (sAsg (mWarm (mIx (mCold (mLst (mCons (mVar 5) (mCons (mUn gNeg (ret (.int 1))) (mCons (ret .non) (mCons (ret (.bl true)) mNil)))))) (mCold (mCall f__law_take [] (mIo 0 (aCons (ret (.int 4)) aNil)))))) (gSetM 6))
  (sSeq (sAsg (mLc (mItems (mVar 2)) (gSetM 8) mYes (mCold (mOp gAdd (mVar 8) (ret (.int 12)))) (([("_law_number", 8)] : List (Str × Nat)).map (·.2))) (gSetM 7))
  (sSeq (sIf (mTest (mOp gNe (mCold (mCall f__law_refused_v3 [] (aCons (mVar 1) (aCons (mVar 7) (aCons (mVar 6) aNil))))) (mCold (mLst (mCons (ret (.str "part")) (mCons (mVar 6) (mCons (ret (.bl true)) mNil))))))) (sRet (mWarm (ret (.bl false)))) sNil)
  (sSeq (sIf (mTest (mOp gNe (mCold (mCall f__law_refused_v3 [] (aCons (mVar 1) (aCons (mCold (mOp gAdd (mVar 2) (mCold (mLst (mCons (ret (.int 0)) mNil))))) (aCons (mVar 6) aNil))))) (mCold (mLst (mCons (ret (.str "demand")) (mCons (mUn gNeg (ret (.int 1))) (mCons (ret (.bl true)) mNil))))))) (sRet (mWarm (ret (.bl false)))) sNil)
  (sSeq (sIf (mTest (mOp gGt (mLenN 4) (ret (.int 0)))) (sSeq (sIf (mTest (mOp gNe (mCold (mCall f__law_refused_v3 [] (aCons (mVar 1) (aCons (mVar 7) (aCons (mIxN 4 (ret (.int 0))) aNil))))) (mCold (mLst (mCons (ret (.str "gone")) (mCons (mIxN 4 (ret (.int 0))) (mCons (ret (.bl true)) mNil))))))) (sRet (mWarm (ret (.bl false)))) sNil)
  (sIf (mTest (mOp gNe (mCold (mCall f__law_points_refused [] (aCons (mVar 1) (aCons (mVar 7) (aCons (mIxN 4 (ret (.int 0))) aNil))))) (mCold (mOp gAdd (ret (.str "gone")) (mCold (mB1 gStr1 (mIxN 4 (ret (.int 0))))))))) (sRet (mWarm (ret (.bl false)))) sNil)) sNil)
  (sSeq (sIf (mTest (mOp gGt (mLenN 3) (ret (.int 0)))) (sSeq (sIf (mTest (mOp gNe (mCold (mCall f__law_refused_v3 [] (aCons (mVar 1) (aCons (mVar 7) (aCons (mIxN 3 (ret (.int 0))) aNil))))) (mCold (mLst (mCons (ret (.str "stock")) (mCons (ret (.int 0)) (mCons (ret (.bl true)) mNil))))))) (sRet (mWarm (ret (.bl false)))) sNil)
  (sIf (mTest (mOp gNe (mCold (mCall f__law_points_refused [] (aCons (mVar 1) (aCons (mVar 7) (aCons (mIxN 3 (mUn gNeg (ret (.int 1)))) aNil))))) (ret (.str "stockFalse")))) (sRet (mWarm (ret (.bl false)))) sNil)) sNil)
  (sRet (mWarm (ret (.bl true))))))))))
def f__law_refusals : Fun' := runDef 3 [true, true, true, true, true, true] m__law_refusals
/-! law_v4 -/
def m_law_v4 : MS := (sSeq (sAsg (mCall f__law_draws [] (aCons (mVar 0) aNil)) (gSetM 1))
  (sSeq (sAsg (mCall f__law_kind [] (mIo 1 aNil)) (gSetM 2))
  (sSeq (sAsg (mCall f__law_market [] (mIo 1 (aCons (ret (.int 8)) aNil))) (gSetM 3))
  (sSeq (sAsg (mWarm (mIxN 3 (ret (.int 0)))) (gSetM 4))
  (sSeq (sAsg (mWarm (mIxN 3 (ret (.int 1)))) (gSetM 5))
  (sSeq (sAsg (mWarm (mIxN 3 (ret (.int 2)))) (gSetM 6))
  (sSeq (sAsg (mCall f__law_built [] (aCons (mVar 2) (aCons (mVar 4) (aCons (mCold (mB1 gList (mVar 5))) (aCons (mCold (mB1 gList (mVar 6))) aNil))))) (gSetM 7))
  (sSeq (sAsg (mLc (mRange1 (mLenN 5)) (gSetM 9) (mTest (mInN true 6 (mVar 9))) (mVar 9) (([("_law_part", 9)] : List (Str × Nat)).map (·.2))) (gSetM 8))
  (sSeq (sAsg (mCall f__law_demand [] (mIo 1 (aCons (mVar 4) aNil))) (gSetM 10))
  (sSeq (sAsg (mCall f__law_take [] (mIo 1 (aCons (ret (.int 6)) aNil))) (gSetM 11))
  (sSeq (sAsg (mCall f_strength [] (aCons (mVar 7) aNil)) (gSetM 12))
  (sSeq (sIf (mTest (mOp gLt (mVar 11) (ret (.int 3)))) (sAsg (mLc (mRange1 (mVar 4)) (gSetM 13) mYes (mVar 12) (([("_law_place", 13)] : List (Str × Nat)).map (·.2))) (gSetM 10)) (sIf (mTest (mOp gEq (mVar 11) (ret (.int 3)))) (sAsg (mLc (mRange1 (mVar 4)) (gSetM 13) mYes (ret (.int 0)) (([("_law_place", 13)] : List (Str × Nat)).map (·.2))) (gSetM 10)) sNil))
  (sSeq (sAsg (mCall f__law_all_stocks [] (aCons (mVar 2) (aCons (mVar 4) (aCons (mVar 5) (aCons (mVar 8) (aCons (mVar 10) aNil)))))) (gSetM 14))
  (sSeq (sFor (mItems (mVar 8)) (gSetM 9) (sIf (mTest (mOp gGt (mLenN 14) (ret (.int 0)))) (sSeq (sAsg (mCall f__law_state [] (aCons (mVar 14) (aCons (mVar 9) aNil))) (gSetM 15))
  (sSeq (sIf (mOr (mTest (mOp gNe (mCold (mCall f_state_of [] (aCons (mVar 7) (aCons (mCold (mB1 gList (mVar 10))) (aCons (mVar 9) aNil))))) (mVar 15))) (mAnd (mTest (mOp gEq (mVar 2) (ret (.str "lap")))) (mTest (mOp gEq (mVar 15) (ret (.str "dead")))))) (sRet (mWarm (ret (.bl false)))) sNil)
  (sIf (mNot (mTest (mCall f__law_full_right [] (aCons (mVar 2) (aCons (mVar 4) (aCons (mVar 5) (aCons (mVar 8) (aCons (mVar 7) (aCons (mVar 10) (aCons (mVar 14) (aCons (mVar 9) (aCons (mVar 15) aNil)))))))))))) (sRet (mWarm (ret (.bl false)))) sNil))) (sIf (mTest (mOp gNe (mCold (mCall f__law_refused_v3 [] (aCons (mVar 7) (aCons (mVar 10) (aCons (mVar 9) aNil))))) (mCold (mLst (mCons (ret (.str "stock")) (mCons (ret (.int 0)) (mCons (ret (.bl true)) mNil))))))) (sRet (mWarm (ret (.bl false)))) sNil)))
  (sSeq (sFor (mRange1 (mCold (mOp gAdd (mVar 12) (ret (.int 1))))) (gSetM 16) (sSeq (sAsg (mLc (mItems (mVar 8)) (gSetM 9) mYes (mCold (mCall f_state_of [] (aCons (mVar 7) (aCons (mVar 16) (aCons (mVar 9) aNil))))) (([("_law_part", 9)] : List (Str × Nat)).map (·.2))) (gSetM 17))
  (sSeq (sIf (mAnd (mTest (mOp gGt (mVar 16) (ret (.int 0)))) (mTest (mOp gNe (mCold (mInN false 17 (ret (.str "firm")))) (mCold (mOp gEq (mVar 16) (mVar 12)))))) (sRet (mWarm (ret (.bl false)))) sNil)
  (sSeq (sAsg (mWarm (mIx (mCold (mLst (mCons (ret (.str "dead")) (mCons (ret (.str "loose")) mNil)))) (mCold (mB1 gInt1 (mCold (mOp gEq (mVar 2) (ret (.str "lap")))))))) (gSetM 18))
  (sIf (mAnd (mTest (mOp gEq (mVar 16) (ret (.int 0)))) (mTest (mOp gNe (mVar 17) (mCold (mLc (mItems (mVar 8)) (gSetM 9) mYes (mVar 18) (([("_law_part", 9)] : List (Str × Nat)).map (·.2))))))) (sRet (mWarm (ret (.bl false)))) sNil)))))
  (sRet (mCall f__law_refusals [] (mIo 1 (aCons (mVar 7) (aCons (mVar 10) (aCons (mVar 8) (aCons (mVar 6) (aCons (mLenN 5) aNil)))))))))))))))))))))))
def f_law_v4 : Fun' := runDef 18 [true] m_law_v4
end L2.Fn
set_option maxRecDepth 100000
set_option maxHeartbeats 4000000
/-! FnLibK10: what the defs compute (printed). -/
namespace L2.Fn
open PySem PySem.Spec PyProof.Rows L2
/-! Join___sub__ -/
def m_Join___sub__ : MS := (sRet (mMakeK "Join" f_Join___init__ 2 (["gone"] : List Str).length (mCons (mFldN KS "size" 0) (mCons (mFldN KS "runs" 0) mNil)) (mCons (mCold (mCall f_both [] (aCons (mFldN KS "gone" 0) (aCons (mCold (mCall f_set_of [] (aCons (mLen (mFldN KS "runs" 0)) (aCons (mVar 1) aNil)))) aNil)))) mNil)))
def f_Join___sub__ : Fun' := runDef 0 [true, true] m_Join___sub__
/-! Lap___sub__ -/
def m_Lap___sub__ : MS := (sRet (mMakeK "Lap" f_Lap___init__ 2 (["gone"] : List Str).length (mCons (mFldN KS "size" 0) (mCons (mFldN KS "runs" 0) mNil)) (mCons (mCold (mCall f_both [] (aCons (mFldN KS "gone" 0) (aCons (mCold (mCall f_set_of [] (aCons (mLen (mFldN KS "runs" 0)) (aCons (mVar 1) aNil)))) aNil)))) mNil)))
def f_Lap___sub__ : Fun' := runDef 0 [true, true] m_Lap___sub__
/-! check_stock -/
def m_check_stock : MS := (sSeq (sAsg (mCall f_demand_of [] (aCons (mVar 0) (aCons (mVar 1) aNil))) (gSetM 3))
  (sSeq (sAsg (mCall f_set_of [] (aCons (mLen (mFldN KS "runs" 0)) (aCons (mVar 2) aNil))) (gSetM 4))
  (sSeq (sIf (mTest (mOp gGt (mLen (mCold (mCall f_common [] (aCons (mVar 4) (aCons (mFldN KS "gone" 0) aNil))))) (ret (.int 0)))) (sRaise1 "NotAStock" "place" (mUn gNeg (ret (.int 1)))) sNil)
  (sSeq (sAsg (mCall f__misfit [] (aCons (mVar 0) (aCons (mVar 3) (aCons (mVar 4) aNil)))) (gSetM 5))
  (sSeq (sIf (mTest (mOp gNotN (mVar 5) (ret .non))) (sRaise1 "NotAStock" "place" (mVar 5)) sNil)
  (sRet (mMove 4)))))))
def f_check_stock : Fun' := runDef 3 [true, true, true] m_check_stock
/-! _thin_place -/
def m__thin_place : MS := (sSeq (sAsg (mB1 gList (mCold (mCall f_cover [] (aCons (mVar 0) (aCons (mCold (mMeth ([("Join", f_Market_there), ("Lap", f_Market_there)] : List (Str × Fun')) "there" (mVar 0) aNil)) aNil))))) (gSetM 1))
  (sRet (mWarm (mIndex (mVar 1) (mCold (mB1 gMinL (mVar 1)))))))
def f__thin_place : Fun' := runDef 1 [true] m__thin_place
/-! least_cut -/
def m_least_cut : MS := (sSeq (sIf (mTest (mOp gEq (mCon CN_KIND "KIND" (mVar 0)) (ret (.str "join")))) (sRet (mWarm (mIx (mCold (mCall f__full_flow [] (aCons (mVar 0) aNil))) (ret (.int 1))))) sNil)
  (sRet (mWarm ((mCold (mOp gAdd (mCold (mCall f__thin_place [] (aCons (mVar 0) aNil))) (ret (.int 1)))).bnd fun x => opt (gTupRg (.int 0) x)))))
def f_least_cut : Fun' := runDef 0 [true] m_least_cut
/-! bears -/
def m_bears : MS := (sSeq (sDrop (mCall f_check_number [] (aCons (mVar 1) (aCons (ret (.str "losses")) (aCons (ret (.int 0)) (aCons (ret .non) aNil))))))
  (sRet (mOp gGe (mCold (mCall f_strength [] (aCons (mVar 0) aNil))) (mCold (mOp gAdd (mVar 1) (ret (.int 1)))))))
def f_bears : Fun' := runDef 0 [true, true] m_bears
/-! blow_at -/
def m_blow_at : MS := (sSeq (sAsg (mCall f_strength [] (aCons (mVar 0) aNil)) (gSetM 2))
  (sSeq (sDrop (mCall f_check_number [] (aCons (mVar 1) (aCons (ret (.str "number")) (aCons (ret (.int 1)) (aCons (mVar 2) aNil))))))
  (sSeq (sAsg (mCall f_leaving [] (aCons (mVar 0) (aCons (mCold (mCall f_least_cut [] (aCons (mVar 0) aNil))) aNil))) (gSetM 3))
  (sRet (mSlT (mVar 3) mNoPart (mPart (mCold (mOp gAdd (mCold (mOp gSub (mVar 2) (mVar 1))) (ret (.int 1))))))))))
def f_blow_at : Fun' := runDef 2 [true, true] m_blow_at
/-! ways -/
def m_ways : MS := (sSeq (sDrop (mCall f_check_number [] (aCons (mVar 1) (aCons (ret (.str "number")) (aCons (ret (.int 1)) (aCons (ret (.int 50)) aNil))))))
  (sRet (mCall f_lots [] (aCons (mVar 0) (aCons (mCold (mCall f_check_stock [] (aCons (mVar 0) (aCons (mVar 1) (aCons (mVar 2) aNil))))) (aCons (mVar 1) aNil))))))
def f_ways : Fun' := runDef 0 [true, true, true] m_ways
/-! _law_strength -/
def m__law_strength : MS := (sSeq (sAsg (mWarm (ret (.int 0))) (gSetM 4))
  (sSeq (sFor (mItems (mCold (mCall f__law_sets [] (aCons (mVar 3) aNil)))) (gSetM 5) (sFor (mRange2 (mCold (mOp gAdd (mVar 4) (ret (.int 1)))) (mCold (mOp gAdd (mLenN 5) (ret (.int 1))))) (gSetM 6) (sIf (mTest (mCall f__law_is_stock [] (aCons (mVar 0) (aCons (mVar 1) (aCons (mVar 2) (aCons (mCold (mLc (mRange1 (mVar 1)) (gSetM 7) mYes (mVar 6) (([("_law_place", 7)] : List (Str × Nat)).map (·.2)))) (aCons (mVar 5) aNil))))))) (sAsg (mWarm (mVar 6)) (gSetM 4)) sNil)))
  (sRet (mMove 4))))
def f__law_strength : Fun' := runDef 4 [true, true, true, true] m__law_strength
/-! _law_cut_right -/
def m__law_cut_right : MS := (sSeq (sAsg (mCall f_least_cut [] (aCons (mVar 4) aNil)) (gSetM 6))
  (sSeq (sIf (mOr (mNot (mTest (mCall f__law_set [] (aCons (mVar 6) (aCons (mCold (mOp gAdd (mVar 1) (ret (.int 1)))) aNil))))) (mOr (mTest (mOp gEq (mLenN 6) (ret (.int 0)))) (mOr (mTest (mOp gNe (mIxN 6 (ret (.int 0))) (ret (.int 0)))) (mTest (mOp gEq (mIxN 6 (mUn gNeg (ret (.int 1)))) (mVar 1)))))) (sRet (mWarm (ret (.bl false)))) sNil)
  (sSeq (sAsg (mLc (mItems (mVar 3)) (gSetM 8) (mAnd (mTest (mInN false 6 (mIx (mIxN 2 (mVar 8)) (ret (.int 0))))) (mTest (mInN true 6 (mIx (mIxN 2 (mVar 8)) (ret (.int 1)))))) (mVar 8) (([("_law_part", 8)] : List (Str × Nat)).map (·.2))) (gSetM 7))
  (sSeq (sIf (mTest (mOp gNe (mCold (mCall f_leaving [] (aCons (mVar 4) (aCons (mVar 6) aNil)))) (mCold (mB1 gTuple (mVar 7))))) (sRet (mWarm (ret (.bl false)))) sNil)
  (sSeq (sIf (mTest (mOp gEq (mVar 0) (ret (.str "lap")))) (sSeq (sAsg (mWarm (mIxN 6 (mUn gNeg (ret (.int 1))))) (gSetM 9))
  (sSeq (sIf (mTest (mOp gNe (mVar 6) ((mCold (mOp gAdd (mVar 9) (ret (.int 1)))).bnd fun x => opt (gTupRg (.int 0) x)))) (sRet (mWarm (ret (.bl false)))) sNil)
  (sRet (mOp gEq (mIx (mCold (mCall f__law_cover [] (aCons (mVar 1) (aCons (mVar 2) (aCons (mVar 3) aNil))))) (mVar 9)) (mVar 5))))) sNil)
  (sRet (mOp gEq (mLenN 7) (mVar 5))))))))
def f__law_cut_right : Fun' := runDef 4 [true, true, true, true, true, true] m__law_cut_right
/-! _law_many_ways -/
def m__law_many_ways : MS := (sSeq (sAsg (mCall f_some_stock [] (aCons (mVar 0) (aCons (mVar 1) aNil))) (gSetM 2))
  (sSeq (sIf (mOr (mTest (mOp gIsN (mVar 2) (ret .non))) (mNot (mTest (mCall f_is_stock [] (aCons (mVar 0) (aCons (mVar 1) (aCons (mVar 2) aNil))))))) (sRet (mWarm (ret (.bl false)))) sNil)
  (sSeq (sIf (mTest (mOp gEq (mVar 1) (ret (.int 0)))) (sRet (mWarm (ret (.bl true)))) sNil)
  (sSeq (sAsg (mLst mNil) (gSetM 3))
  (sSeq (sFor (mItems (mCold (mCall f_ways [] (aCons (mVar 0) (aCons (mVar 1) (aCons (mVar 2) aNil)))))) (gSetM 4) (sSeq (sIf (mNot (mTest (mCall f_is_stock [] (aCons (mVar 0) (aCons (ret (.int 1)) (aCons (mVar 4) aNil)))))) (sRet (mWarm (ret (.bl false)))) sNil)
  (sAsg (mOp gAdd (mVar 3) (mCold (mB1 gList (mVar 4)))) (gSetM 3))))
  (sRet (mOp gEq (mCold (mB1 gSorted (mVar 3))) (mCold (mB1 gList (mVar 2))))))))))
def f__law_many_ways : Fun' := runDef 3 [true, true] m__law_many_ways
/-! _law_blows_right -/
def m__law_blows_right : MS := (sSeq (sFor (mRange2 (ret (.int 1)) (mCold (mOp gAdd (mVar 3) (ret (.int 1))))) (gSetM 4) (sSeq (sAsg (mCall f_blow_at [] (aCons (mVar 2) (aCons (mVar 4) aNil))) (gSetM 5))
  (sSeq (sIf (mOr (mNot (mTest (mCall f__law_set [] (aCons (mVar 5) (aCons (mLenN 0) aNil))))) (mTest (mOp gNe (mLenN 5) (mCold (mOp gAdd (mCold (mOp gSub (mVar 3) (mVar 4))) (ret (.int 1))))))) (sRet (mWarm (ret (.bl false)))) sNil)
  (sSeq (sIf (mTest (mOp gGt (mLen (mCold (mLc (mItems (mVar 5)) (gSetM 6) (mTest (mInN true 1 (mVar 6))) (mVar 6) (([("_law_part", 6)] : List (Str × Nat)).map (·.2))))) (ret (.int 0)))) (sRet (mWarm (ret (.bl false)))) sNil)
  (sIf (mOr (mTest (mCall f_has_stock [] (aCons (mCold (mSubT ([("Join", f_Join___sub__), ("Lap", f_Lap___sub__)] : List (Str × Fun')) (mVar 2) (mVar 5))) (aCons (mVar 4) aNil)))) (mTest (mOp gNe (mCold (mCall f_strength [] (aCons (mCold (mSubT ([("Join", f_Join___sub__), ("Lap", f_Lap___sub__)] : List (Str × Fun')) (mVar 2) (mVar 5))) aNil))) (mCold (mOp gSub (mVar 4) (ret (.int 1))))))) (sRet (mWarm (ret (.bl false)))) sNil)))))
  (sRet (mWarm (ret (.bl true)))))
def f__law_blows_right : Fun' := runDef 3 [true, true, true, true] m__law_blows_right
/-! _law_losses_right -/
def m__law_losses_right : MS := (sSeq (sFor (mItems (mCold (mCall f__law_sets [] (aCons (mVar 0) aNil)))) (gSetM 3) (sIf (mTest (mOp gLe (mLenN 3) (ret (.int 2)))) (sSeq (sAsg (mCall f_strength [] (aCons (mCold (mSubT ([("Join", f_Join___sub__), ("Lap", f_Lap___sub__)] : List (Str × Fun')) (mVar 1) (mVar 3))) aNil)) (gSetM 4))
  (sSeq (sIf (mOr (mTest (mOp gLt (mVar 4) (mCold (mOp gSub (mVar 2) (mLenN 3))))) (mTest (mOp gGt (mVar 4) (mVar 2)))) (sRet (mWarm (ret (.bl false)))) sNil)
  (sFor (mRange2 (ret (.int 1)) (mCold (mOp gAdd (mVar 2) (ret (.int 1))))) (gSetM 5) (sIf (mAnd (mTest (mOp gLe (mLenN 3) (mCold (mOp gSub (mVar 2) (mVar 5))))) (mNot (mTest (mCall f_has_stock [] (aCons (mCold (mSubT ([("Join", f_Join___sub__), ("Lap", f_Lap___sub__)] : List (Str × Fun')) (mVar 1) (mVar 3))) (aCons (mVar 5) aNil)))))) (sRet (mWarm (ret (.bl false)))) sNil)))) sNil))
  (sRet (mWarm (ret (.bl true)))))
def f__law_losses_right : Fun' := runDef 3 [true, true, true] m__law_losses_right
/-! _law_bears_right -/
def m__law_bears_right : MS := (sSeq (sAsg (mWarm (mLenN 0)) (gSetM 3))
  (sSeq (sFor (mItems (mCold (mCall f__law_sets [] (aCons (mVar 0) aNil)))) (gSetM 4) (sIf (mAnd (mTest (mOp gLt (mLenN 4) (mVar 3))) (mNot (mTest (mCall f_has_stock [] (aCons (mCold (mSubT ([("Join", f_Join___sub__), ("Lap", f_Lap___sub__)] : List (Str × Fun')) (mVar 1) (mVar 4))) (aCons (ret (.int 1)) aNil)))))) (sAsg (mWarm (mLenN 4)) (gSetM 3)) sNil))
  (sSeq (sFor (mRange1 (ret (.int 5))) (gSetM 5) (sIf (mOr (mTest (mOp gNe (mCold (mCall f_bears [] (aCons (mVar 1) (aCons (mVar 5) aNil)))) (mCold (mOp gLt (mVar 5) (mVar 3))))) (mTest (mOp gNe (mCold (mOp gLt (mVar 5) (mVar 3))) (mCold (mOp gGt (mVar 2) (mVar 5)))))) (sRet (mWarm (ret (.bl false)))) sNil))
  (sRet (mWarm (ret (.bl true)))))))
def f__law_bears_right : Fun' := runDef 3 [true, true, true] m__law_bears_right
/-! _law_long_row -/
def m__law_long_row : MS := (sSeq (sAsg (mOp gAdd (ret (.int 9)) (mCold (mCall f__law_take [] (mIo 0 (aCons (ret (.int 4)) aNil))))) (gSetM 1))
  (sSeq (sAsg (mWarm (mIx (mCold (mLst (mCons (ret (.int 3)) (mCons (ret (.int 1)) (mCons (ret (.int 2)) mNil))))) (mCold (mCall f__law_take [] (mIo 0 (aCons (ret (.int 3)) aNil)))))) (gSetM 2))
  (sSeq (sAsg (mLst mNil) (gSetM 3))
  (sSeq (sFor (mRange1 (mVar 2)) (gSetM 4) (sSeq (sAsg (mWarm (ret (.int 0))) (gSetM 5))
  (sFor (mRange1 (mVar 1)) (gSetM 6) (sIf (mTest (mOp gLt (mVar 5) (mVar 1))) (sSeq (sAsg (mOp gMin2 (mVar 1) (mCold (mOp gAdd (mCold (mOp gAdd (mVar 5) (ret (.int 2)))) (mCold (mCall f__law_take [] (mIo 0 (aCons (ret (.int 5)) aNil))))))) (gSetM 7))
  (sSeq (sDrop (mAppN 3 (mTup (mCons (mVar 5) (mCons (mVar 7) mNil)))))
  (sAsg (mWarm (mVar 7)) (gSetM 5)))) sNil))))
  (sSeq (sFor (mRange1 (mCold (mCall f__law_take [] (mIo 0 (aCons (ret (.int 3)) aNil))))) (gSetM 6) (sSeq (sAsg (mOp gAdd (ret (.int 1)) (mCold (mCall f__law_take [] (mIo 0 (aCons (mCold (mOp gSub (mVar 1) (ret (.int 1)))) aNil))))) (gSetM 5))
  (sDrop (mAppN 3 (mTup (mCons (mVar 5) (mCons (mCold (mOp gMin2 (mVar 1) (mCold (mOp gAdd (mCold (mOp gAdd (mVar 5) (ret (.int 1)))) (mCold (mCall f__law_take [] (mIo 0 (aCons (ret (.int 9)) aNil)))))))) mNil)))))))
  (sSeq (sAsg (mCall f__law_take [] (mIo 0 (aCons (ret (.int 24)) aNil))) (gSetM 8))
  (sSeq (sIf (mTest (mOp gLt (mVar 8) (mLenN 3))) (sAsg (mOp gAdd (mCold (mSlL (mVar 3) (mPart (mVar 8)) mNoPart)) (mCold (mSlL (mVar 3) mNoPart (mPart (mVar 8))))) (gSetM 3)) sNil)
  (sRet (mLst (mCons (mVar 1) (mCons (mVar 3) (mCons (mVar 2) mNil))))))))))))
def f__law_long_row : Fun' := runDef 8 [true] m__law_long_row
/-! _law_long_right -/
def m__law_long_right : MS := (sSeq (sAsg (mCall f__law_long_row [] (mIo 0 aNil)) (gSetM 2))
  (sSeq (sAsg (mWarm (mIxN 2 (ret (.int 0)))) (gSetM 3))
  (sSeq (sAsg (mWarm (mIxN 2 (ret (.int 1)))) (gSetM 4))
  (sSeq (sAsg (mCall f__law_built [] (aCons (mVar 1) (aCons (mVar 3) (aCons (mCold (mB1 gList (mVar 4))) (aCons (mCold (mLst mNil)) aNil))))) (gSetM 5))
  (sSeq (sAsg ((mLenN 4).bnd fun x => opt (gLstRg (.int 0) x)) (gSetM 6))
  (sSeq (sAsg (mWarm (mIxN 2 (ret (.int 2)))) (gSetM 7))
  (sSeq (sIf (mTest (mOp gEq (mVar 1) (ret (.str "lap")))) (sAsg (mB1 gMinL (mCold (mCall f__law_cover [] (aCons (mVar 3) (aCons (mVar 4) (aCons (mVar 6) aNil)))))) (gSetM 7)) sNil)
  (sSeq (sIf (mOr (mTest (mOp gNe (mCold (mCall f_strength [] (aCons (mVar 5) aNil))) (mVar 7))) (mOr (mTest (mCall f_has_stock [] (aCons (mVar 5) (aCons (mCold (mOp gAdd (mVar 7) (ret (.int 1)))) aNil)))) (mTest (mOp gNotN (mCold (mCall f_some_stock [] (aCons (mVar 5) (aCons (mCold (mOp gAdd (mVar 7) (ret (.int 1)))) aNil)))) (ret .non))))) (sRet (mWarm (ret (.bl false)))) sNil)
  (sSeq (sAsg (mCall f_some_stock [] (aCons (mVar 5) (aCons (mVar 7) aNil))) (gSetM 8))
  (sSeq (sIf (mOr (mNot (mTest (mCall f__law_set [] (aCons (mVar 8) (aCons (mLenN 4) aNil))))) (mNot (mTest (mCall f__law_is_stock [] (aCons (mVar 1) (aCons (mVar 3) (aCons (mVar 4) (aCons (mCold (mLc (mRange1 (mVar 3)) (gSetM 9) mYes (mVar 7) (([("_law_place", 9)] : List (Str × Nat)).map (·.2)))) (aCons (mVar 8) aNil))))))))) (sRet (mWarm (ret (.bl false)))) sNil)
  (sSeq (sIf (mOr (mNot (mTest (mCall f__law_many_ways [] (aCons (mVar 5) (aCons (mVar 7) aNil))))) (mNot (mTest (mCall f__law_cut_right [] (aCons (mVar 1) (aCons (mVar 3) (aCons (mVar 4) (aCons (mVar 6) (aCons (mVar 5) (aCons (mVar 7) aNil)))))))))) (sRet (mWarm (ret (.bl false)))) sNil)
  (sSeq (sIf (mOr (mNot (mTest (mCall f_bears [] (aCons (mVar 5) (aCons (mCold (mOp gSub (mVar 7) (ret (.int 1)))) aNil))))) (mTest (mCall f_bears [] (aCons (mVar 5) (aCons (mVar 7) aNil))))) (sRet (mWarm (ret (.bl false)))) sNil)
  (sRet (mCall f__law_blows_right [] (aCons (mVar 4) (aCons (mVar 6) (aCons (mVar 5) (aCons (mVar 7) aNil))))))))))))))))))
def f__law_long_right : Fun' := runDef 8 [true, true] m__law_long_right
/-! _law_refused_v4 -/
def m__law_refused_v4 : MS := (sSeq (sAsg (mWarm (ret (.str "none"))) (gSetM 2))
  (sSeq (sTryL 3 (sAsg (mB1 gStr1 (mLen (mCold (mCall f_blow_at [] (aCons (mVar 0) (aCons (mVar 1) aNil)))))) (gSetM 2)) [(subOf ["BadNumber"] "BadNumber", (sAsg (mOp gAdd (mErr 3 "BadNumber" "name") (mCold (mB1 gStrB (mCold (mIsErr 3 "BadNumber" true))))) (gSetM 2)))])
  (sRet (mMove 2))))
def f__law_refused_v4 : Fun' := runDef 2 [true, true] m__law_refused_v4
/-! _law_losses_refused -/
def m__law_losses_refused : MS := (sSeq (sAsg (mWarm (ret (.str "none"))) (gSetM 2))
  (sSeq (sTryL 3 (sAsg (mB1 gStr1 (mCold (mCall f_bears [] (aCons (mVar 0) (aCons (mVar 1) aNil))))) (gSetM 2)) [(subOf ["BadNumber"] "BadNumber", (sAsg (mOp gAdd (mErr 3 "BadNumber" "name") (mCold (mB1 gStrB (mCold (mIsErr 3 "BadNumber" true))))) (gSetM 2)))])
  (sRet (mMove 2))))
def f__law_losses_refused : Fun' := runDef 2 [true, true] m__law_losses_refused
/-! law_v5 -/
def m_law_v5 : MS := (sSeq (sAsg (mCall f__law_draws [] (aCons (mVar 0) aNil)) (gSetM 1))
  (sSeq (sAsg (mCall f__law_kind [] (mIo 1 aNil)) (gSetM 2))
  (sSeq (sAsg (mCall f__law_market_v2 [] (mIo 1 (aCons (ret (.int 7)) aNil))) (gSetM 3))
  (sSeq (sAsg (mWarm (mIxN 3 (ret (.int 0)))) (gSetM 4))
  (sSeq (sAsg (mWarm (mIxN 3 (ret (.int 1)))) (gSetM 5))
  (sSeq (sAsg (mWarm (mIxN 3 (ret (.int 2)))) (gSetM 6))
  (sSeq (sAsg (mCall f__law_built [] (aCons (mVar 2) (aCons (mVar 4) (aCons (mCold (mB1 gList (mVar 5))) (aCons (mCold (mB1 gList (mVar 6))) aNil))))) (gSetM 7))
  (sSeq (sAsg (mLc (mRange1 (mLenN 5)) (gSetM 9) (mTest (mInN true 6 (mVar 9))) (mVar 9) (([("_law_part", 9)] : List (Str × Nat)).map (·.2))) (gSetM 8))
  (sSeq (sAsg (mCall f_strength [] (aCons (mVar 7) aNil)) (gSetM 10))
  (sSeq (sIf (mOr (mNot (mTest (mCall f__law_int [] (aCons (mVar 10) aNil)))) (mTest (mOp gNe (mVar 10) (mCold (mCall f__law_strength [] (aCons (mVar 2) (aCons (mVar 4) (aCons (mVar 5) (aCons (mVar 8) aNil))))))))) (sRet (mWarm (ret (.bl false)))) sNil)
  (sSeq (sFor (mRange1 (mCold (mOp gAdd (mVar 10) (ret (.int 1))))) (gSetM 11) (sIf (mOr (mNot (mTest (mCall f_has_stock [] (aCons (mVar 7) (aCons (mVar 11) aNil))))) (mNot (mTest (mCall f__law_many_ways [] (aCons (mVar 7) (aCons (mVar 11) aNil)))))) (sRet (mWarm (ret (.bl false)))) sNil))
  (sSeq (sIf (mOr (mTest (mCall f_has_stock [] (aCons (mVar 7) (aCons (mCold (mOp gAdd (mVar 10) (ret (.int 1)))) aNil)))) (mTest (mOp gNotN (mCold (mCall f_some_stock [] (aCons (mVar 7) (aCons (mCold (mOp gAdd (mVar 10) (ret (.int 1)))) aNil)))) (ret .non)))) (sRet (mWarm (ret (.bl false)))) sNil)
  (sSeq (sIf (mNot (mTest (mCall f__law_cut_right [] (aCons (mVar 2) (aCons (mVar 4) (aCons (mVar 5) (aCons (mVar 8) (aCons (mVar 7) (aCons (mVar 10) aNil))))))))) (sRet (mWarm (ret (.bl false)))) sNil)
  (sSeq (sIf (mTest (mOp gLt (mCold (mCall f_strength [] (aCons (mCold (mMakeK "Lap" f_Lap___init__ 2 (["gone"] : List Str).length (mCons (mVar 4) (mCons (mVar 5) mNil)) (mCons (mVar 6) mNil))) aNil))) (mCold (mCall f_strength [] (aCons (mCold (mMakeK "Join" f_Join___init__ 2 (["gone"] : List Str).length (mCons (mVar 4) (mCons (mVar 5) mNil)) (mCons (mVar 6) mNil))) aNil))))) (sRet (mWarm (ret (.bl false)))) sNil)
  (sSeq (sIf (mNot (mTest (mCall f__law_blows_right [] (aCons (mVar 5) (aCons (mVar 8) (aCons (mVar 7) (aCons (mVar 10) aNil))))))) (sRet (mWarm (ret (.bl false)))) sNil)
  (sSeq (sIf (mOr (mNot (mTest (mCall f__law_losses_right [] (aCons (mVar 8) (aCons (mVar 7) (aCons (mVar 10) aNil)))))) (mNot (mTest (mCall f__law_bears_right [] (aCons (mVar 8) (aCons (mVar 7) (aCons (mVar 10) aNil))))))) (sRet (mWarm (ret (.bl false)))) sNil)
  (sSeq (sAsg (mWarm (mIx (mCold (mLst (mCons (ret (.int 0)) (mCons (mUn gNeg (ret (.int 1))) (mCons (mCold (mOp gAdd (mVar 10) (ret (.int 1)))) (mCons (ret .non) mNil)))))) (mCold (mCall f__law_take [] (mIo 1 (aCons (ret (.int 4)) aNil)))))) (gSetM 12))
  (sSeq (sIf (mTest (mOp gNe (mCold (mCall f__law_refused_v4 [] (aCons (mVar 7) (aCons (mVar 12) aNil)))) (ret (.str "numberTrue")))) (sRet (mWarm (ret (.bl false)))) sNil)
  (sSeq (sIf (mTest (mOp gNe (mCold (mCall f__law_losses_refused [] (aCons (mVar 7) (aCons (mIx (mCold (mLst (mCons (mUn gNeg (ret (.int 1))) (mCons (ret .non) (mCons (ret (.bl true)) mNil))))) (mCold (mCall f__law_take [] (mIo 1 (aCons (ret (.int 3)) aNil))))) aNil)))) (ret (.str "lossesTrue")))) (sRet (mWarm (ret (.bl false)))) sNil)
  (sRet (mWarm (mOrV (mCold (mOp gNe (mCold (mCall f__law_take [] (mIo 1 (aCons (ret (.int 10)) aNil)))) (ret (.int 9)))) (mCold (mCall f__law_long_right [] (mIo 1 (aCons (mVar 2) aNil))))))))))))))))))))))))))
def f_law_v5 : Fun' := runDef 12 [true] m_law_v5
end L2.Fn
set_option maxRecDepth 100000
set_option maxHeartbeats 4000000
/-! FnLibK00: what the defs compute (printed). -/
namespace L2.Fn
open PySem PySem.Spec PyProof.Rows L2
/-! _check_amount -/
def m__check_amount : MS := (sIf (mAnd (mTest (mOp gNotN (mVar 0) (ret .non))) (mNot (mTest (mCall f_is_int [] (aCons (mVar 0) aNil))))) (sRaise1 "BadNumber" "name" (mVar 1)) sNil)
def f__check_amount : Fun' := runDef 0 [true, true] m__check_amount
/-! _check_amounts -/
def m__check_amounts : MS := (sSeq (sIf (mNot (mTest (mIsT isLT (mVar 0)))) (sRaise1 "BadNumber" "name" (ret (.str "row"))) sNil)
  (sFor (mItems (mVar 0)) (gSetM 1) (sDrop (mCall f__check_amount [] (aCons (mVar 1) (aCons (ret (.str "row")) aNil))))))
def f__check_amounts : Fun' := runDef 1 [true] m__check_amounts
/-! plus -/
def m_plus : MS := (sSeq (sDrop (mCall f__check_amount [] (aCons (mVar 0) (aCons (ret (.str "one")) aNil))))
  (sSeq (sDrop (mCall f__check_amount [] (aCons (mVar 1) (aCons (ret (.str "other")) aNil))))
  (sSeq (sIf (mOr (mTest (mOp gIsN (mVar 0) (ret .non))) (mTest (mOp gIsN (mVar 1) (ret .non)))) (sRet (mWarm (ret .non))) sNil)
  (sRet (mOp gAdd (mVar 0) (mVar 1))))))
def f_plus : Fun' := runDef 0 [true, true] m_plus
/-! total -/
def m_total : MS := (sSeq (sDrop (mCall f__check_amounts [] (aCons (mVar 0) aNil)))
  (sSeq (sAsg (mWarm (ret (.int 0))) (gSetM 1))
  (sSeq (sFor (mItems (mVar 0)) (gSetM 2) (sSeq (sIf (mTest (mOp gIsN (mVar 2) (ret .non))) (sRet (mWarm (ret .non))) sNil)
  (sAsg (mOp gAdd (mVar 1) (mVar 2)) (gSetM 1))))
  (sRet (mMove 1)))))
def f_total : Fun' := runDef 2 [true] m_total
/-! least -/
def m_least : MS := (sSeq (sDrop (mCall f__check_amounts [] (aCons (mVar 0) aNil)))
  (sSeq (sAsg (mWarm (ret .non)) (gSetM 1))
  (sSeq (sFor (mItems (mVar 0)) (gSetM 2) (sIf (mAnd (mTest (mOp gNotN (mVar 2) (ret .non))) (mOr (mTest (mOp gIsN (mVar 1) (ret .non))) (mTest (mOp gLt (mVar 2) (mVar 1))))) (sAsg (mWarm (mVar 2)) (gSetM 1)) sNil))
  (sRet (mMove 1)))))
def f_least : Fun' := runDef 2 [true] m_least
/-! at_most -/
def m_at_most : MS := (sSeq (sDrop (mCall f__check_amount [] (aCons (mVar 0) (aCons (ret (.str "one")) aNil))))
  (sSeq (sDrop (mCall f__check_amount [] (aCons (mVar 1) (aCons (ret (.str "other")) aNil))))
  (sSeq (sIf (mTest (mOp gIsN (mVar 1) (ret .non))) (sRet (mWarm (ret (.bl true)))) sNil)
  (sSeq (sIf (mTest (mOp gIsN (mVar 0) (ret .non))) (sRet (mWarm (ret (.bl false)))) sNil)
  (sRet (mOp gLe (mVar 0) (mVar 1)))))))
def f_at_most : Fun' := runDef 0 [true, true] m_at_most
/-! gap -/
def m_gap : MS := (sSeq (sDrop (mCall f__check_amount [] (aCons (mVar 0) (aCons (ret (.str "one")) aNil))))
  (sSeq (sIf (mNot (mTest (mCall f_is_int [] (aCons (mVar 1) aNil)))) (sRaise1 "BadNumber" "name" (ret (.str "other"))) sNil)
  (sSeq (sIf (mTest (mOp gIsN (mVar 0) (ret .non))) (sRet (mWarm (ret .non))) sNil)
  (sRet (mOp gSub (mVar 0) (mVar 1))))))
def f_gap : Fun' := runDef 0 [true, true] m_gap
/-! _longer -/
def m__longer : MS := (sSeq (sAsg (mLst mNil) (gSetM 2))
  (sSeq (sFor (mItems (mVar 0)) (gSetM 3) (sSeq (sAsg (mWarm (ret (.int 0))) (gSetM 4))
  (sSeq (sIf (mTest (mOp gGt (mLenN 3) (ret (.int 0)))) (sAsg (mOp gAdd (mIxN 3 (mUn gNeg (ret (.int 1)))) (ret (.int 1))) (gSetM 4)) sNil)
  (sFor (mRange2 (mVar 4) (mVar 1)) (gSetM 5) (sDrop (mAppN 2 (mTup (mStar (mVar 3) (mCons (mVar 5) mNil)))))))))
  (sRet (mMove 2))))
def f__longer : Fun' := runDef 4 [true, true] m__longer
/-! subsets -/
def m_subsets : MGn := (ySeq (yPlain (sAsg (mLst (mCons (mTup mNil) mNil)) (gSetM 1)))
  (ySeq (yWhile (mTest (mOp gGt (mLenN 1) (ret (.int 0)))) (ySeq (yFor (mItems (mVar 1)) (gSetM 2) (ySeq (yYield (mCold (mB1 gTuple (mCold (mLc (mItems (mVar 2)) (gSetM 3) mYes (mIxN 0 (mVar 3)) (([("place", 3)] : List (Str × Nat)).map (·.2)))))))
  yNil))
  (ySeq (yPlain (sAsg (mCall f__longer [] (aCons (mVar 1) (aCons (mLenN 0) aNil))) (gSetM 1)))
  yNil)) 20)
  yNil))
def f_subsets : GFun := runGen 3 [true] m_subsets
/-! check_join -/
def m_check_join : MS := (sIf (mTest (mOp gNe (mCon CN_KIND "KIND" (mVar 0)) (ret (.str "join")))) (sRaise0 "NotJoin") sNil)
def f_check_join : Fun' := runDef 0 [true] m_check_join
/-! misfit_place -/
def m_misfit_place : MS := (sSeq (sAsg (mCall f_demand_of [] (aCons (mVar 0) (aCons (mVar 1) aNil))) (gSetM 3))
  (sRet (mCall f__misfit [] (aCons (mVar 0) (aCons (mVar 3) (aCons (mCold (mCall f_set_of [] (aCons (mLen (mFldN KS "runs" 0)) (aCons (mVar 2) aNil)))) aNil))))))
def f_misfit_place : Fun' := runDef 1 [true, true, true] m_misfit_place
/-! over -/
def m_over : MS := (sSeq (sAsg (mCall f_demand_of [] (aCons (mVar 0) (aCons (mVar 1) aNil))) (gSetM 3))
  (sSeq (sAsg (mCall f_cover [] (aCons (mVar 0) (aCons (mVar 2) aNil))) (gSetM 4))
  (sRet (mB1 gTuple (mCold (mLc (mRange1 (mFldN KS "size" 0)) (gSetM 5) (mTest (mOp gGt (mIxN 4 (mVar 5)) (mIxN 3 (mVar 5)))) (mVar 5) (([("place", 5)] : List (Str × Nat)).map (·.2))))))))
def f_over : Fun' := runDef 3 [true, true, true] m_over
/-! _law_misfit -/
def m__law_misfit : MS := (sSeq (sFor (mRange1 (mLenN 2)) (gSetM 3) (sIf (mOr (mTest (mOp gLt (mIxN 1 (mVar 3)) (mIxN 2 (mVar 3)))) (mAnd (mTest (mOp gEq (mVar 0) (ret (.str "join")))) (mTest (mOp gGt (mIxN 1 (mVar 3)) (mIxN 2 (mVar 3)))))) (sRet (mMove 3)) sNil))
  (sRet (mWarm (ret .non))))
def f__law_misfit : Fun' := runDef 1 [true, true, true] m__law_misfit
/-! _law_begins -/
def m__law_begins : MS := (sSeq (sAsg (mLst mNil) (gSetM 1))
  (sSeq (sAsg (mWarm (ret (.int 0))) (gSetM 2))
  (sSeq (sFor (mItems (mVar 0)) (gSetM 3) (sSeq (sDrop (mAppN 1 (mCold (mOp gSub (mVar 3) (mVar 2)))))
  (sAsg (mWarm (mVar 3)) (gSetM 2))))
  (sSeq (sDrop (mAppN 1 (mCold (mOp gSub (ret (.int 0)) (mVar 2)))))
  (sRet (mMove 1))))))
def f__law_begins : Fun' := runDef 3 [true] m__law_begins
/-! _law_points_fit -/
def m__law_points_fit : MS := (sSeq (sFor (mRange1 (mCold (mOp gAdd (mVar 0) (ret (.int 1))))) (gSetM 4) (sSeq (sAsg (mWarm (mLen (mCold (mLc (mItems (mVar 2)) (gSetM 6) (mTest (mOp gEq (mIx (mIxN 1 (mVar 6)) (ret (.int 0))) (mVar 4))) (mVar 6) (([("_law_part", 6)] : List (Str × Nat)).map (·.2)))))) (gSetM 5))
  (sSeq (sAsg (mWarm (mLen (mCold (mLc (mItems (mVar 2)) (gSetM 6) (mTest (mOp gEq (mIx (mIxN 1 (mVar 6)) (ret (.int 1))) (mVar 4))) (mVar 6) (([("_law_part", 6)] : List (Str × Nat)).map (·.2)))))) (gSetM 7))
  (sIf (mTest (mOp gNe (mCold (mOp gSub (mVar 5) (mVar 7))) (mIxN 3 (mVar 4)))) (sRet (mWarm (ret (.bl false)))) sNil))))
  (sRet (mWarm (ret (.bl true)))))
def f__law_points_fit : Fun' := runDef 4 [true, true, true, true] m__law_points_fit
/-! _law_refused_v5 -/
def m__law_refused_v5 : MS := (sSeq (sAsg (mLst (mCons (ret (.str "none")) (mCons (ret (.int 0)) (mCons (ret (.bl false)) (mCons (ret (.bl false)) mNil))))) (gSetM 3))
  (sSeq (sTryL 4 (sDrop (mCall f_is_stock [] (aCons (mVar 0) (aCons (mVar 1) (aCons (mVar 2) aNil))))) [(subOf ["BadDemand", "BadSet", "BadRun", "BadNumber", "NotAStock", "NotJoin", "BadPart", "IsGone"] "BadDemand", (sAsg (mLst (mCons (ret (.str "demand")) (mCons (mErr 4 "BadDemand" "place") (mCons (mCold (mIsErr 4 "BadDemand" true)) (mCons (mCold (mIsErr 4 "BadDemand" false)) mNil))))) (gSetM 3))), (subOf ["BadDemand", "BadSet", "BadRun", "BadNumber", "NotAStock", "NotJoin", "BadPart", "IsGone"] "BadSet", (sAsg (mLst (mCons (ret (.str "set")) (mCons (mErr 4 "BadSet" "place") (mCons (mCold (mIsErr 4 "BadSet" true)) (mCons (mCold (mIsErr 4 "BadSet" false)) mNil))))) (gSetM 3)))])
  (sRet (mMove 3))))
def f__law_refused_v5 : Fun' := runDef 2 [true, true, true] m__law_refused_v5
/-! _law_stock_refused -/
def m__law_stock_refused : MS := (sSeq (sAsg (mWarm (ret .non)) (gSetM 3))
  (sSeq (sTryL 4 (sDrop (mCall f_check_stock [] (aCons (mVar 0) (aCons (mVar 1) (aCons (mVar 2) aNil))))) [(subOf ["BadDemand", "BadSet", "BadRun", "BadNumber", "NotAStock", "NotJoin", "BadPart", "IsGone"] "NotAStock", (sAsg (mWarm (mErr 4 "NotAStock" "place")) (gSetM 3)))])
  (sRet (mMove 3))))
def f__law_stock_refused : Fun' := runDef 2 [true, true, true] m__law_stock_refused
/-! _law_door_refused_v2 -/
def m__law_door_refused_v2 : MS := (sSeq (sAsg (mLst (mCons (ret (.str "none")) (mCons (ret (.int 0)) mNil))) (gSetM 6))
  (sSeq (sTryL 7 (sIf (mTest (mOp gEq (mVar 0) (ret (.int 0)))) (sDrop (mCall f_cover [] (aCons (mVar 1) (aCons (mVar 3) aNil)))) (sIf (mTest (mOp gEq (mVar 0) (ret (.int 1)))) (sDrop (mCall f_misfit_place [] (aCons (mVar 1) (aCons (mVar 2) (aCons (mVar 3) aNil))))) (sIf (mTest (mOp gEq (mVar 0) (ret (.int 2)))) (sDrop (mCall f_over [] (aCons (mVar 1) (aCons (mVar 2) (aCons (mVar 3) aNil))))) (sIf (mTest (mOp gEq (mVar 0) (ret (.int 3)))) (sDrop (mCall f_check_stock [] (aCons (mVar 1) (aCons (mVar 2) (aCons (mVar 3) aNil))))) (sIf (mTest (mOp gEq (mVar 0) (ret (.int 4)))) (sDrop (mCall f_begins [] (aCons (mVar 1) (aCons (mVar 2) aNil)))) (sIf (mTest (mOp gEq (mVar 0) (ret (.int 5)))) (sDrop (mCall f_changed [] (aCons (mVar 1) (aCons (mVar 2) (aCons (mVar 4) (aCons (mVar 5) aNil)))))) (sDrop (mCall f_demand_of [] (aCons (mVar 1) (aCons (mVar 2) aNil)))))))))) [(subOf ["BadDemand", "BadSet", "BadRun", "BadNumber", "NotAStock", "NotJoin", "BadPart", "IsGone"] "BadDemand", (sAsg (mLst (mCons (ret (.str "demand")) (mCons (mErr 7 "BadDemand" "place") mNil))) (gSetM 6))), (subOf ["BadDemand", "BadSet", "BadRun", "BadNumber", "NotAStock", "NotJoin", "BadPart", "IsGone"] "BadSet", (sAsg (mLst (mCons (ret (.str "set")) (mCons (mErr 7 "BadSet" "place") mNil))) (gSetM 6))), (subOf ["BadDemand", "BadSet", "BadRun", "BadNumber", "NotAStock", "NotJoin", "BadPart", "IsGone"] "BadRun", (sAsg (mLst (mCons (ret (.str "run")) (mCons (mErr 7 "BadRun" "place") mNil))) (gSetM 6))), (subOf ["BadDemand", "BadSet", "BadRun", "BadNumber", "NotAStock", "NotJoin", "BadPart", "IsGone"] "BadNumber", (sAsg (mLst (mCons (ret (.str "number")) (mCons (mErr 7 "BadNumber" "name") mNil))) (gSetM 6)))])
  (sRet (mMove 6))))
def f__law_door_refused_v2 : Fun' := runDef 2 [true, true, true, true, true, true] m__law_door_refused_v2
/-! _law_doors_right_v2 -/
def m__law_doors_right_v2 : MS := (sSeq (sFor (mRange2 (ret (.int 1)) (ret (.int 7))) (gSetM 7) (sSeq (sIf (mTest (mOp gNe (mCold (mCall f__law_door_refused_v2 [] (aCons (mVar 7) (aCons (mVar 0) (aCons (mVar 2) (aCons (mVar 5) (aCons (ret .non) (aCons (ret .non) aNil)))))))) (mCold (mLst (mCons (ret (.str "demand")) (mCons (mVar 3) mNil)))))) (sRet (mWarm (ret (.bl false)))) sNil)
  (sSeq (sIf (mTest (mOp gNe (mCold (mCall f__law_door_refused_v2 [] (aCons (mVar 7) (aCons (mVar 0) (aCons (mVar 4) (aCons (mVar 5) (aCons (ret .non) (aCons (ret .non) aNil)))))))) (mCold (mLst (mCons (ret (.str "demand")) (mCons (mUn gNeg (ret (.int 1))) mNil)))))) (sRet (mWarm (ret (.bl false)))) sNil)
  (sIf (mAnd (mTest (mOp gLt (mVar 7) (ret (.int 4)))) (mTest (mOp gNe (mCold (mCall f__law_door_refused_v2 [] (aCons (mVar 7) (aCons (mVar 0) (aCons (mVar 1) (aCons (mVar 5) (aCons (ret .non) (aCons (ret .non) aNil)))))))) (mCold (mLst (mCons (ret (.str "set")) (mCons (mVar 6) mNil))))))) (sRet (mWarm (ret (.bl false)))) sNil))))
  (sSeq (sIf (mTest (mOp gNe (mCold (mCall f__law_door_refused_v2 [] (aCons (ret (.int 0)) (aCons (mVar 0) (aCons (ret .non) (aCons (mVar 5) (aCons (ret .non) (aCons (ret .non) aNil)))))))) (mCold (mLst (mCons (ret (.str "set")) (mCons (mVar 6) mNil)))))) (sRet (mWarm (ret (.bl false)))) sNil)
  (sSeq (sIf (mTest (mOp gNe (mCold (mCall f__law_door_refused_v2 [] (aCons (ret (.int 5)) (aCons (mVar 0) (aCons (mVar 1) (aCons (mCold (mLst mNil)) (aCons (mTup (mCons (ret (.int 0)) (mCons (ret (.int 0)) mNil))) (aCons (ret .non) aNil)))))))) (mCold (mLst (mCons (ret (.str "run")) (mCons (mUn gNeg (ret (.int 1))) mNil)))))) (sRet (mWarm (ret (.bl false)))) sNil)
  (sRet (mOp gEq (mCold (mCall f__law_door_refused_v2 [] (aCons (ret (.int 5)) (aCons (mVar 0) (aCons (mVar 1) (aCons (mCold (mLst mNil)) (aCons (mTup (mCons (ret (.int 0)) (mCons (mLenN 1) mNil))) (aCons (ret (.bl true)) aNil)))))))) (mCold (mLst (mCons (ret (.str "number")) (mCons (ret (.str "by")) mNil)))))))))
def f__law_doors_right_v2 : Fun' := runDef 1 [true, true, true, true, true, true, true] m__law_doors_right_v2
/-! _law_wrong_sets -/
def m__law_wrong_sets : MS := (sSeq (sAsg (mCall f__law_take [] (mIo 0 (aCons (mCold (mOp gAdd (mLenN 3) (ret (.int 1)))) aNil))) (gSetM 5))
  (sSeq (sAsg (mWarm (mIx (mCold (mLst (mCons (mVar 4) (mCons (mUn gNeg (ret (.int 1))) (mCons (ret (.bl true)) (mCons (ret .non) (mCons (ret (.str "0")) (mCons (mCold (mOp gAdd (mVar 4) (ret (.int 3)))) mNil)))))))) (mCold (mCall f__law_take [] (mIo 0 (aCons (ret (.int 6)) aNil)))))) (gSetM 6))
  (sSeq (sAsg (mOp gAdd (mCold (mOp gAdd (mCold (mSlL (mVar 3) mNoPart (mPart (mVar 5)))) (mCold (mLst (mCons (mVar 6) mNil))))) (mCold (mSlL (mVar 3) (mPart (mVar 5)) mNoPart))) (gSetM 7))
  (sSeq (sIf (mTest (mOp gNe (mCold (mCall f__law_refused_v5 [] (aCons (mVar 1) (aCons (mVar 2) (aCons (mVar 7) aNil))))) (mCold (mLst (mCons (ret (.str "set")) (mCons (mVar 5) (mCons (ret (.bl true)) (mCons (ret (.bl false)) mNil)))))))) (sRet (mWarm (ret (.bl false)))) sNil)
  (sSeq (sIf (mTest (mOp gGt (mLenN 3) (ret (.int 0)))) (sSeq (sAsg (mCall f__law_take [] (mIo 0 (aCons (mLenN 3) aNil))) (gSetM 8))
  (sSeq (sAsg (mOp gAdd (mCold (mOp gAdd (mCold (mSlL (mVar 3) mNoPart (mPart (mVar 5)))) (mCold (mLst (mCons (mIxN 3 (mVar 8)) mNil))))) (mCold (mSlL (mVar 3) (mPart (mVar 5)) mNoPart))) (gSetM 9))
  (sSeq (sAsg (mWarm (mVar 5)) (gSetM 10))
  (sSeq (sIf (mTest (mOp gLe (mVar 5) (mVar 8))) (sAsg (mOp gAdd (mVar 8) (ret (.int 1))) (gSetM 10)) sNil)
  (sIf (mTest (mOp gNe (mCold (mCall f__law_refused_v5 [] (aCons (mVar 1) (aCons (mVar 2) (aCons (mVar 9) aNil))))) (mCold (mLst (mCons (ret (.str "set")) (mCons (mVar 10) (mCons (ret (.bl true)) (mCons (ret (.bl false)) mNil)))))))) (sRet (mWarm (ret (.bl false)))) sNil))))) sNil)
  (sSeq (sAsg (mWarm (mIx (mCold (mLst (mCons (ret .non) (mCons (ret (.int 3)) (mCons (ret (.str "01")) mNil))))) (mCold (mCall f__law_take [] (mIo 0 (aCons (ret (.int 3)) aNil)))))) (gSetM 11))
  (sSeq (sIf (mTest (mOp gNe (mCold (mCall f__law_refused_v5 [] (aCons (mVar 1) (aCons (mVar 2) (aCons (mVar 11) aNil))))) (mCold (mLst (mCons (ret (.str "set")) (mCons (mUn gNeg (ret (.int 1))) (mCons (ret (.bl true)) (mCons (ret (.bl false)) mNil)))))))) (sRet (mWarm (ret (.bl false)))) sNil)
  (sSeq (sAsg (mCall f__law_take [] (mIo 0 (aCons (mLenN 2) aNil))) (gSetM 12))
  (sSeq (sAsg (mOp gAdd (mCold (mOp gAdd (mCold (mSlL (mVar 2) mNoPart (mPart (mVar 12)))) (mCold (mLst (mCons (mIx (mCold (mLst (mCons (ret .non) (mCons (ret (.bl true)) (mCons (ret (.str "1")) mNil))))) (mCold (mCall f__law_take [] (mIo 0 (aCons (ret (.int 3)) aNil))))) mNil))))) (mCold (mSlL (mVar 2) (mPart (mCold (mOp gAdd (mVar 12) (ret (.int 1))))) mNoPart))) (gSetM 13))
  (sSeq (sIf (mTest (mOp gNe (mCold (mCall f__law_refused_v5 [] (aCons (mVar 1) (aCons (mVar 13) (aCons (mVar 7) aNil))))) (mCold (mLst (mCons (ret (.str "demand")) (mCons (mVar 12) (mCons (ret (.bl true)) (mCons (ret (.bl false)) mNil)))))))) (sRet (mWarm (ret (.bl false)))) sNil)
  (sSeq (sAsg (mWarm (mIx (mCold (mLst (mCons (ret .non) (mCons (ret (.bl true)) (mCons (mCold (mOp gAdd (mVar 2) (mCold (mLst (mCons (ret (.int 1)) mNil))))) (mCons (mCold (mOp gAdd (mCold (mSlL (mVar 2) (mPart (ret (.int 1))) mNoPart)) (mCold (mLst (mCons (ret (.int 0)) (mCons (ret (.int 0)) mNil)))))) mNil)))))) (mCold (mCall f__law_take [] (mIo 0 (aCons (ret (.int 4)) aNil)))))) (gSetM 14))
  (sSeq (sIf (mNot (mTest (mCall f__law_doors_right_v2 [] (aCons (mVar 1) (aCons (mVar 2) (aCons (mVar 13) (aCons (mVar 12) (aCons (mVar 14) (aCons (mVar 7) (aCons (mVar 5) aNil)))))))))) (sRet (mWarm (ret (.bl false)))) sNil)
  (sRet (mOp gEq (mCold (mCall f__law_refused_v5 [] (aCons (mVar 1) (aCons (mVar 14) (aCons (mVar 3) aNil))))) (mCold (mLst (mCons (ret (.str "demand")) (mCons (mUn gNeg (ret (.int 1))) (mCons (ret (.bl true)) (mCons (ret (.bl false)) mNil))))))))))))))))))))
def f__law_wrong_sets : Fun' := runDef 10 [true, true, true, true, true] m__law_wrong_sets
/-! _law_amounts_right -/
def m__law_amounts_right : MS := (sSeq (sAsg (mLc (mRange1 (mCold (mCall f__law_take [] (mIo 0 (aCons (ret (.int 5)) aNil))))) (gSetM 2) mYes (mIx (mCold (mLst (mCons (ret .non) (mCons (ret (.int 0)) (mCons (mUn gNeg (ret (.int 3))) (mCons (ret (.int 7)) mNil)))))) (mCold (mCall f__law_take [] (mIo 0 (aCons (ret (.int 4)) aNil))))) (([("_law_k", 2)] : List (Str × Nat)).map (·.2))) (gSetM 1))
  (sSeq (sAsg (mWarm (ret (.int 0))) (gSetM 3))
  (sSeq (sAsg (mWarm (ret .non)) (gSetM 4))
  (sSeq (sFor (mItems (mVar 1)) (gSetM 5) (sSeq (sIf (mTest (mOp gNotN (mVar 3) (ret .non))) (sAsg (mIf (mTest (mOp gIsN (mVar 5) (ret .non))) (mWarm (ret .non)) (mOp gAdd (mVar 3) (mVar 5))) (gSetM 3)) sNil)
  (sIf (mAnd (mTest (mOp gNotN (mVar 5) (ret .non))) (mOr (mTest (mOp gIsN (mVar 4) (ret .non))) (mTest (mOp gLt (mVar 5) (mVar 4))))) (sAsg (mWarm (mVar 5)) (gSetM 4)) sNil)))
  (sSeq (sIf (mOr (mTest (mOp gNe (mCold (mCall f_total [] (aCons (mVar 1) aNil))) (mVar 3))) (mTest (mOp gNe (mCold (mCall f_least [] (aCons (mCold (mB1 gTuple (mVar 1))) aNil))) (mVar 4)))) (sRet (mWarm (ret (.bl false)))) sNil)
  (sSeq (sAsg (mWarm (mIx (mCold (mLst (mCons (ret .non) (mCons (mCold (mOp gSub (mCold (mCall f__law_take [] (mIo 0 (aCons (ret (.int 24)) aNil)))) (ret (.int 9)))) mNil)))) (mCold (mCall f__law_take [] (mIo 0 (aCons (ret (.int 2)) aNil)))))) (gSetM 6))
  (sSeq (sAsg (mWarm (mIx (mCold (mLst (mCons (ret .non) (mCons (mCold (mOp gSub (mCold (mCall f__law_take [] (mIo 0 (aCons (ret (.int 24)) aNil)))) (ret (.int 9)))) mNil)))) (mCold (mCall f__law_take [] (mIo 0 (aCons (ret (.int 2)) aNil)))))) (gSetM 7))
  (sSeq (sAsg (mIf (mOr (mTest (mOp gIsN (mVar 6) (ret .non))) (mTest (mOp gIsN (mVar 7) (ret .non)))) (mWarm (ret .non)) (mOp gAdd (mVar 6) (mVar 7))) (gSetM 8))
  (sSeq (sIf (mOr (mTest (mOp gNe (mCold (mCall f_plus [] (aCons (mVar 6) (aCons (mVar 7) aNil)))) (mVar 8))) (mTest (mOp gNe (mCold (mCall f_at_most [] (aCons (mVar 6) (aCons (mVar 7) aNil)))) (mOrV (mCold (mOp gIsN (mVar 7) (ret .non))) (mCold (mWarm (mAndV (mCold (mOp gNotN (mVar 6) (ret .non))) (mCold (mOp gLe (mVar 6) (mVar 7)))))))))) (sRet (mWarm (ret (.bl false)))) sNil)
  (sSeq (sIf (mOr (mTest (mOp gNotB (mCold (mCall f_at_most [] (aCons (mVar 6) (aCons (mVar 6) aNil)))) (ret (.bl true)))) (mTest (mOp gNe (mCold (mCall f_gap [] (aCons (mVar 6) (aCons (ret (.int 4)) aNil)))) (mCold (mIf (mTest (mOp gIsN (mVar 6) (ret .non))) (mWarm (ret .non)) (mOp gSub (mVar 6) (ret (.int 4)))))))) (sRet (mWarm (ret (.bl false)))) sNil)
  (sSeq (sAsg (mLst mNil) (gSetM 9))
  (sSeq (sTryL 10 (sDrop (mAppN 9 (mCold (mCall f_plus [] (aCons (ret (.str "0")) (aCons (ret (.bl true)) aNil)))))) [(subOf ["BadDemand", "BadSet", "BadRun", "BadNumber", "NotAStock", "NotJoin", "BadPart", "IsGone"] "BadNumber", (sDrop (mAppN 9 (mErr 10 "BadNumber" "name"))))])
  (sSeq (sTryL 10 (sDrop (mAppN 9 (mCold (mCall f_gap [] (aCons (ret .non) (aCons (ret .non) aNil)))))) [(subOf ["BadDemand", "BadSet", "BadRun", "BadNumber", "NotAStock", "NotJoin", "BadPart", "IsGone"] "BadNumber", (sDrop (mAppN 9 (mErr 10 "BadNumber" "name"))))])
  (sSeq (sTryL 10 (sDrop (mAppN 9 (mCold (mCall f_total [] (aCons (mCold (mLst (mCons (ret (.int 0)) (mCons (ret (.str "1")) mNil)))) aNil))))) [(subOf ["BadDemand", "BadSet", "BadRun", "BadNumber", "NotAStock", "NotJoin", "BadPart", "IsGone"] "BadNumber", (sDrop (mAppN 9 (mErr 10 "BadNumber" "name"))))])
  (sRet (mOp gEq (mVar 9) (mCold (mLst (mCons (ret (.str "one")) (mCons (ret (.str "other")) (mCons (ret (.str "row")) mNil)))))))))))))))))))))
def f__law_amounts_right : Fun' := runDef 10 [true] m__law_amounts_right
/-! _law_sets_right -/
def m__law_sets_right : MS := (sSeq (sAsg (mB1 gTuple (mVar 0)) (gSetM 3))
  (sSeq (sAsg (mB1 gTuple (mVar 1)) (gSetM 4))
  (sSeq (sIf (mTest (mOp gNe (mCold (mCall f_set_of [] (aCons (mVar 2) (aCons (mCold (mLc (mRange1 (mLenN 0)) (gSetM 5) mYes (mIxN 0 (mCold (mOp gSub (mCold (mOp gSub (mLenN 0) (ret (.int 1)))) (mVar 5)))) (([("_law_k", 5)] : List (Str × Nat)).map (·.2)))) aNil)))) (mVar 3))) (sRet (mWarm (ret (.bl false)))) sNil)
  (sSeq (sIf (mTest (mOp gNe (mCold (mCall f_both [] (aCons (mVar 3) (aCons (mVar 4) aNil)))) (mCold (mB1 gTuple (mCold (mLc (mRange1 (mVar 2)) (gSetM 6) (mOr (mTest (mInN false 3 (mVar 6))) (mTest (mInN false 4 (mVar 6)))) (mVar 6) (([("_law_part", 6)] : List (Str × Nat)).map (·.2)))))))) (sRet (mWarm (ret (.bl false)))) sNil)
  (sSeq (sIf (mTest (mOp gNe (mCold (mCall f_common [] (aCons (mVar 3) (aCons (mVar 4) aNil)))) (mCold (mB1 gTuple (mCold (mLc (mItems (mVar 3)) (gSetM 6) (mTest (mInN false 4 (mVar 6))) (mVar 6) (([("_law_part", 6)] : List (Str × Nat)).map (·.2)))))))) (sRet (mWarm (ret (.bl false)))) sNil)
  (sSeq (sIf (mTest (mOp gNe (mCold (mCall f_minus [] (aCons (mVar 3) (aCons (mVar 4) aNil)))) (mCold (mB1 gTuple (mCold (mLc (mItems (mVar 3)) (gSetM 6) (mTest (mInN true 4 (mVar 6))) (mVar 6) (([("_law_part", 6)] : List (Str × Nat)).map (·.2)))))))) (sRet (mWarm (ret (.bl false)))) sNil)
  (sSeq (sAsg (mListG f_subsets (mCons (mCold (mSlT (mVar 3) mNoPart (mPart (ret (.int 4))))) mNil)) (gSetM 7))
  (sSeq (sIf (mTest (mOp gNe (mLenN 7) (mIx (mCold (mLst (mCons (ret (.int 1)) (mCons (ret (.int 2)) (mCons (ret (.int 4)) (mCons (ret (.int 8)) (mCons (ret (.int 16)) mNil))))))) (mCold (mOp gMin2 (ret (.int 4)) (mLenN 3)))))) (sRet (mWarm (ret (.bl false)))) sNil)
  (sSeq (sFor (mRange2 (ret (.int 1)) (mLenN 7)) (gSetM 5) (sSeq (sAsg (mWarm (mTup (mCons (mLen (mIxN 7 (mCold (mOp gSub (mVar 5) (ret (.int 1)))))) (mCons (mIxN 7 (mCold (mOp gSub (mVar 5) (ret (.int 1))))) mNil)))) (gSetM 8))
  (sIf (mOr (mNot (mTest (mOp gLtP (mVar 8) (mTup (mCons (mLen (mIxN 7 (mVar 5))) (mCons (mIxN 7 (mVar 5)) mNil)))))) (mTest (mOp gNe (mCold (mCall f_minus [] (aCons (mIxN 7 (mVar 5)) (aCons (mVar 3) aNil)))) (mTup mNil)))) (sRet (mWarm (ret (.bl false)))) sNil)))
  (sRet (mOp gEq (mIxN 7 (ret (.int 0))) (mTup mNil))))))))))))
def f__law_sets_right : Fun' := runDef 6 [true, true, true] m__law_sets_right
/-! _law_checks_right -/
def m__law_checks_right : MS := (sSeq (sAsg (mLst mNil) (gSetM 6))
  (sSeq (sTryL 7 (sDrop (mAppN 6 (mCold (mCall f_check_join [] (aCons (mVar 0) aNil))))) [(subOf ["BadDemand", "BadSet", "BadRun", "BadNumber", "NotAStock", "NotJoin", "BadPart", "IsGone"] "NotJoin", (sDrop (mAppN 6 (mCold (mIsErr 7 "NotJoin" true)))))])
  (sSeq (sTryL 7 (sDrop (mAppN 6 (mCold (mCall f_check_run [] (aCons (mVar 0) (aCons (mTup (mCons (mVar 2) (mCons (mVar 2) mNil))) aNil)))))) [(subOf ["BadDemand", "BadSet", "BadRun", "BadNumber", "NotAStock", "NotJoin", "BadPart", "IsGone"] "BadRun", (sDrop (mAppN 6 (mErr 7 "BadRun" "place"))))])
  (sSeq (sTryL 7 (sDrop (mAppN 6 (mCold (mCall f_part_there [] (aCons (mVar 0) (aCons (mLenN 3) aNil)))))) [(subOf ["BadDemand", "BadSet", "BadRun", "BadNumber", "NotAStock", "NotJoin", "BadPart", "IsGone"] "BadPart", (sDrop (mAppN 6 (mErr 7 "BadPart" "part"))))])
  (sSeq (sIf (mOr (mTest (mOp gNe (mVar 6) (mCold (mLst (mCons (mCold (mIf (mTest (mOp gEq (mVar 1) (ret (.str "join")))) (mWarm (ret .non)) (mWarm (ret (.bl true))))) (mCons (mUn gNeg (ret (.int 1))) (mCons (mLenN 3) mNil))))))) (mTest (mOp gNe (mCold (mCall f_check_run [] (aCons (mVar 0) (aCons (mCold (mLst (mCons (ret (.int 0)) (mCons (mVar 2) mNil)))) aNil)))) (mTup (mCons (ret (.int 0)) (mCons (mVar 2) mNil)))))) (sRet (mWarm (ret (.bl false)))) sNil)
  (sSeq (sIf (mTest (mOp gNe (mCold (mCall f_demand_of [] (aCons (mVar 0) (aCons (mVar 5) aNil)))) (mCold (mB1 gTuple (mCold (mLc (mRange1 (mVar 2)) (gSetM 8) mYes (mVar 5) (([("_law_place", 8)] : List (Str × Nat)).map (·.2)))))))) (sRet (mWarm (ret (.bl false)))) sNil)
  (sSeq (sFor (mRange1 (mLenN 3)) (gSetM 9) (sSeq (sAsg (mWarm (ret (.str "none"))) (gSetM 10))
  (sSeq (sTryL 7 (sAsg (mB1 gStr1 (mCold (mCall f_part_there [] (aCons (mVar 0) (aCons (mVar 9) aNil))))) (gSetM 10)) [(subOf ["BadDemand", "BadSet", "BadRun", "BadNumber", "NotAStock", "NotJoin", "BadPart", "IsGone"] "IsGone", (sAsg (mOp gAdd (ret (.str "gone")) (mCold (mB1 gStr1 (mErr 7 "IsGone" "part")))) (gSetM 10)))])
  (sIf (mTest (mOp gNe (mVar 10) (mCold (mOp gAdd (mIx (mCold (mLst (mCons (ret (.str "")) (mCons (ret (.str "gone")) mNil)))) (mCold (mB1 gInt1 (mCold (mInN false 4 (mVar 9)))))) (mCold (mB1 gStr1 (mVar 9))))))) (sRet (mWarm (ret (.bl false)))) sNil))))
  (sRet (mWarm (ret (.bl true)))))))))))
def f__law_checks_right : Fun' := runDef 5 [true, true, true, true, true, true] m__law_checks_right
/-! law_v6 -/
def m_law_v6 : MS := (sSeq (sAsg (mCall f__law_draws [] (aCons (mVar 0) aNil)) (gSetM 1))
  (sSeq (sAsg (mCall f__law_kind [] (mIo 1 aNil)) (gSetM 2))
  (sSeq (sAsg (mCall f__law_market [] (mIo 1 (aCons (ret (.int 9)) aNil))) (gSetM 3))
  (sSeq (sAsg (mWarm (mIxN 3 (ret (.int 0)))) (gSetM 4))
  (sSeq (sAsg (mWarm (mIxN 3 (ret (.int 1)))) (gSetM 5))
  (sSeq (sAsg (mWarm (mIxN 3 (ret (.int 2)))) (gSetM 6))
  (sSeq (sAsg (mCall f__law_built [] (aCons (mVar 2) (aCons (mVar 4) (aCons (mCold (mB1 gList (mVar 5))) (aCons (mCold (mB1 gList (mVar 6))) aNil))))) (gSetM 7))
  (sSeq (sAsg (mCall f__law_parts [] (mIo 1 (aCons (mLenN 5) aNil))) (gSetM 8))
  (sSeq (sAsg (mCall f__law_demand [] (mIo 1 (aCons (mVar 4) aNil))) (gSetM 9))
  (sSeq (sAsg (mCall f__law_cover [] (aCons (mVar 4) (aCons (mVar 5) (aCons (mVar 8) aNil)))) (gSetM 10))
  (sSeq (sIf (mTest (mOp gEq (mCold (mCall f__law_take [] (mIo 1 (aCons (ret (.int 3)) aNil)))) (ret (.int 0)))) (sAsg (mB1 gList (mVar 10)) (gSetM 9)) sNil)
  (sSeq (sAsg (mCall f_cover [] (aCons (mVar 7) (aCons (mCold (mB1 gList (mVar 8))) aNil))) (gSetM 11))
  (sSeq (sIf (mOr (mNot (mTest (mIsT (fun n => n == "tuple") (mVar 11)))) (mTest (mOp gNe (mCold (mB1 gList (mVar 11))) (mVar 10)))) (sRet (mWarm (ret (.bl false)))) sNil)
  (sSeq (sIf (mTest (mOp gNe (mCold (mB1 gSum (mVar 10))) (mCold (mB1 gSum (mCold (mLc (mItems (mVar 8)) (gSetM 12) mYes (mCold (mOp gSub (mIx (mIxN 5 (mVar 12)) (ret (.int 1))) (mIx (mIxN 5 (mVar 12)) (ret (.int 0))))) (([("_law_part", 12)] : List (Str × Nat)).map (·.2)))))))) (sRet (mWarm (ret (.bl false)))) sNil)
  (sSeq (sAsg (mCall f__law_misfit [] (aCons (mVar 2) (aCons (mVar 10) (aCons (mVar 9) aNil)))) (gSetM 13))
  (sSeq (sAsg (mOp gGt (mLen (mCold (mLc (mItems (mVar 8)) (gSetM 12) (mTest (mInN false 6 (mVar 12))) (mVar 12) (([("_law_part", 12)] : List (Str × Nat)).map (·.2))))) (ret (.int 0))) (gSetM 14))
  (sSeq (sIf (mTest (mOp gNe (mCold (mCall f_misfit_place [] (aCons (mVar 7) (aCons (mVar 9) (aCons (mVar 8) aNil))))) (mVar 13))) (sRet (mWarm (ret (.bl false)))) sNil)
  (sSeq (sIf (mTest (mOp gNe (mCold (mCall f_is_stock [] (aCons (mVar 7) (aCons (mCold (mB1 gList (mVar 9))) (aCons (mCold (mB1 gList (mVar 8))) aNil))))) (mAndV (mCold (mOp gIsN (mVar 13) (ret .non))) (mCold (mWarm (mNotV (mVar 14))))))) (sRet (mWarm (ret (.bl false)))) sNil)
  (sSeq (sAsg (mWarm (mVar 13)) (gSetM 15))
  (sSeq (sIf (mTest (mWarm (mVar 14))) (sAsg (mWarm (mUn gNeg (ret (.int 1)))) (gSetM 15)) sNil)
  (sSeq (sIf (mTest (mOp gNe (mCold (mCall f__law_stock_refused [] (aCons (mVar 7) (aCons (mVar 9) (aCons (mVar 8) aNil))))) (mVar 15))) (sRet (mWarm (ret (.bl false)))) sNil)
  (sSeq (sAsg (mLc (mRange1 (mLenN 8)) (gSetM 17) mYes (mIxN 8 (mCold (mOp gSub (mCold (mOp gSub (mLenN 8) (ret (.int 1)))) (mVar 17)))) (([("_law_k", 17)] : List (Str × Nat)).map (·.2))) (gSetM 16))
  (sSeq (sIf (mAnd (mTest (mOp gIsN (mVar 15) (ret .non))) (mTest (mOp gNe (mCold (mCall f_check_stock [] (aCons (mVar 7) (aCons (mVar 9) (aCons (mVar 16) aNil))))) (mCold (mB1 gTuple (mVar 8)))))) (sRet (mWarm (ret (.bl false)))) sNil)
  (sSeq (sIf (mTest (mOp gNe (mCold (mCall f_over [] (aCons (mVar 7) (aCons (mVar 9) (aCons (mVar 8) aNil))))) (mCold (mB1 gTuple (mCold (mLc (mRange1 (mVar 4)) (gSetM 18) (mTest (mOp gGt (mIxN 10 (mVar 18)) (mIxN 9 (mVar 18)))) (mVar 18) (([("_law_place", 18)] : List (Str × Nat)).map (·.2)))))))) (sRet (mWarm (ret (.bl false)))) sNil)
  (sSeq (sAsg (mCall f__law_begins [] (aCons (mVar 9) aNil)) (gSetM 19))
  (sSeq (sIf (mTest (mOp gNe (mCold (mCall f_begins [] (aCons (mVar 7) (aCons (mVar 9) aNil)))) (mCold (mB1 gTuple (mVar 19))))) (sRet (mWarm (ret (.bl false)))) sNil)
  (sSeq (sIf (mAnd (mTest (mOp gEq (mVar 2) (ret (.str "join")))) (mTest (mOp gNe (mCold (mCall f__law_points_fit [] (aCons (mVar 4) (aCons (mVar 5) (aCons (mVar 8) (aCons (mVar 19) aNil)))))) (mCold (mOp gIsN (mVar 13) (ret .non)))))) (sRet (mWarm (ret (.bl false)))) sNil)
  (sSeq (sAsg (mCall f__law_run [] (mIo 1 (aCons (mVar 4) aNil))) (gSetM 20))
  (sSeq (sAsg (mOp gSub (mCold (mCall f__law_take [] (mIo 1 (aCons (ret (.int 5)) aNil)))) (ret (.int 2))) (gSetM 21))
  (sSeq (sAsg (mLc (mRange1 (mVar 4)) (gSetM 18) mYes (mCold (mOp gAdd (mIxN 9 (mVar 18)) (mCold (mOp gMul (mVar 21) (mCold (mB1 gInt1 (mCold (mChain gLe gLt (mIxN 20 (ret (.int 0))) (mVar 18) (mIxN 20 (ret (.int 1))))))))))) (([("_law_place", 18)] : List (Str × Nat)).map (·.2))) (gSetM 22))
  (sSeq (sIf (mTest (mOp gNe (mCold (mCall f_changed [] (aCons (mVar 7) (aCons (mVar 9) (aCons (mVar 20) (aCons (mVar 21) aNil)))))) (mCold (mB1 gTuple (mVar 22))))) (sRet (mWarm (ret (.bl false)))) sNil)
  (sSeq (sAsg (mCall f__law_size_wanted [] (mIo 1 aNil)) (gSetM 23))
  (sSeq (sIf (mTest (mOp gNe (mCold (mCall f_is_stock [] (aCons (mVar 7) (aCons (mVar 23) (aCons (mVar 8) aNil))))) (mCold (mCall f_is_stock [] (aCons (mVar 7) (aCons (mCold (mLc (mRange1 (mVar 4)) (gSetM 18) mYes (mVar 23) (([("_law_place", 18)] : List (Str × Nat)).map (·.2)))) (aCons (mVar 8) aNil))))))) (sRet (mWarm (ret (.bl false)))) sNil)
  (sSeq (sIf (mNot (mTest (mCall f__law_wrong_sets [] (mIo 1 (aCons (mVar 7) (aCons (mVar 9) (aCons (mVar 8) (aCons (mLenN 5) aNil)))))))) (sRet (mWarm (ret (.bl false)))) sNil)
  (sSeq (sIf (mNot (mTest (mCall f__law_sets_right [] (aCons (mVar 8) (aCons (mCold (mCall f__law_parts [] (mIo 1 (aCons (mLenN 5) aNil)))) (aCons (mLenN 5) aNil)))))) (sRet (mWarm (ret (.bl false)))) sNil)
  (sSeq (sIf (mOr (mTest (mOp gNe (mCold (mCall f_demand_of [] (aCons (mVar 7) (aCons (mCold (mB1 gList (mVar 9))) aNil)))) (mCold (mB1 gTuple (mVar 9))))) (mNot (mTest (mCall f__law_checks_right [] (aCons (mVar 7) (aCons (mVar 2) (aCons (mVar 4) (aCons (mVar 5) (aCons (mVar 6) (aCons (mVar 23) aNil)))))))))) (sRet (mWarm (ret (.bl false)))) sNil)
  (sRet (mCall f__law_amounts_right [] (mIo 1 aNil)))))))))))))))))))))))))))))))))))))))
def f_law_v6 : Fun' := runDef 23 [true] m_law_v6
end L2.Fn
set_option maxRecDepth 100000
set_option maxHeartbeats 4000000
/-! FnLibK01: what the defs compute (printed). -/
namespace L2.Fn
open PySem PySem.Spec PyProof.Rows L2
/-! Market___len__ -/
def m_Market___len__ : MS := (sRet (mWarm (mLen (mFldN KS "runs" 0))))
def f_Market___len__ : Fun' := runDef 0 [true] m_Market___len__
/-! Market___eq__ -/
def m_Market___eq__ : MS := (sSeq (sIf (mNot (mTest (mIsO (["Join", "Lap"] : List Str) (mVar 1)))) (sRet (mWarm (ret (.bl false)))) sNil)
  (sSeq (sAsg (mWarm (mTup (mCons (mCon CN_KIND "KIND" (mVar 0)) (mCons (mFldN KS "size" 0) (mCons (mFldN KS "runs" 0) (mCons (mFldN KS "gone" 0) mNil)))))) (gSetM 2))
  (sRet (mOp gEq (mVar 2) (mTup (mCons (mCon CN_KIND "KIND" (mVar 1)) (mCons (mFldN KS "size" 1) (mCons (mFldN KS "runs" 1) (mCons (mFldN KS "gone" 1) mNil)))))))))
def f_Market___eq__ : Fun' := runDef 1 [true, true] m_Market___eq__
/-! market_text -/
def m_market_text : MS := (sSeq (sAsg (mLst (mCons (mJs [(mFmt (mCon CN_KIND "KIND" (mVar 0))), (ret (.str " ")), (mFmt (mFldN KS "size" 0)), (ret (.str "
"))] Str.empty) mNil)) (gSetM 1))
  (sSeq (sFor (mEnum (mCold (mB1 gList (mFldN KS "runs" 0)))) (gTupM 2 (gConsM (gSetM 2) (gConsM (gTupM 2 (gConsM (gSetM 3) (gConsM (gSetM 4) gNilM))) gNilM))) (sSeq (sAsg (mIf (mTest (mOp (gIn false) (mVar 2) (mFldN KS "gone" 0))) (mWarm (ret (.str " gone"))) (mWarm (ret (.str "")))) (gSetM 5))
  (sDrop (mAppN 1 (mJs [(mFmt (mVar 3)), (ret (.str " ")), (mFmt (mVar 4)), (mFmt (mVar 5)), (ret (.str "
"))] Str.empty)))))
  (sRet (mWarm (mJoin (ret (.str "")) (mVar 1))))))
def f_market_text : Fun' := runDef 5 [true] m_market_text
/-! _number -/
def m__number : MS := (sSeq (sIf (mOr (mTest (mOp gEq (mLenN 0) (ret (.int 0)))) (mTest (mOp gGt (mLenN 0) (ret (.int 9))))) (sRet (mWarm (ret .non))) sNil)
  (sSeq (sIf (mTest (mOp gGt (mLen (mCold (mLc (mSigns (mVar 0)) (gSetM 1) (mTest (mOp (gInS true) (mVar 1) (ret (.str "0123456789")))) (mVar 1) (([("sign", 1)] : List (Str × Nat)).map (·.2))))) (ret (.int 0)))) (sRet (mWarm (ret .non))) sNil)
  (sSeq (sIf (mAnd (mTest (mOp gEq (mIxN 0 (ret (.int 0))) (ret (.str "0")))) (mTest (mOp gGt (mLenN 0) (ret (.int 1))))) (sRet (mWarm (ret .non))) sNil)
  (sRet (mB1 gIntT (mVar 0))))))
def f__number : Fun' := runDef 1 [true] m__number
/-! _head -/
def m__head : MS := (sMatch2 (mCold (mSplit (mVar 0) (ret (.str " ")))) 1 2 (mTest (mOp (gIn false) (mVar 1) (mTup (mCons (ret (.str "join")) (mCons (ret (.str "lap")) mNil)))))
  (sSeq (sAsg (mCall f__number [] (aCons (mVar 2) aNil)) (gSetM 3))
  (sSeq (sIf (mTest (mOp gIsN (mVar 3) (ret .non))) (sRaise1 "BadText" "line" (ret (.int 1))) sNil)
  (sSeq (sIf (mOr (mTest (mOp gLt (mVar 3) (ret (.int 1)))) (mTest (mOp gGt (mVar 3) (ret (.int 30))))) (sRaiseF "BadText" "line" (ret (.int 1)) (ret (.str "size"))) sNil)
  (sRet (mWarm (mTup (mCons (mVar 1) (mCons (mVar 3) mNil))))))))
  (sRaise1 "BadText" "line" (ret (.int 1))))
def f__head : Fun' := runDef 3 [true] m__head
/-! _words -/
def m__words : MS := (sSeq (sAsg (mSplit (mVar 0) (ret (.str " "))) (gSetM 2))
  (sSeq (sAsg (mWarm (mAndV (mCold (mOp gEq (mLenN 2) (ret (.int 3)))) (mCold (mOp gEq (mIxN 2 (ret (.int 2))) (ret (.str "gone")))))) (gSetM 3))
  (sSeq (sIf (mAnd (mTest (mOp gNe (mLenN 2) (ret (.int 2)))) (mNot (mTest (mWarm (mVar 3))))) (sRaise1 "BadText" "line" (mVar 1)) sNil)
  (sSeq (sAsg (mCall f__number [] (aCons (mIxN 2 (ret (.int 0))) aNil)) (gSetM 4))
  (sSeq (sAsg (mCall f__number [] (aCons (mIxN 2 (ret (.int 1))) aNil)) (gSetM 5))
  (sSeq (sIf (mOr (mTest (mOp gIsN (mVar 4) (ret .non))) (mTest (mOp gIsN (mVar 5) (ret .non)))) (sRaise1 "BadText" "line" (mVar 1)) sNil)
  (sRet (mWarm (mTup (mCons (mVar 4) (mCons (mVar 5) (mCons (mVar 3) mNil))))))))))))
def f__words : Fun' := runDef 4 [true, true] m__words
/-! market_from -/
def m_market_from : MS := (sSeq (sIf (mNot (mTest (mIsT (fun n => n == "str") (mVar 0)))) (sRaise1 "BadText" "line" (ret (.int 0))) sNil)
  (sSeq (sAsg (mSplit (mVar 0) (ret (.str "
"))) (gSetM 1))
  (sSeq (sIf (mTest (mOp gEq (mLenN 1) (ret (.int 1)))) (sRaise1 "BadText" "line" (ret (.int 1))) sNil)
  (sSeq (sAsg (mCall f__head [] (aCons (mIxN 1 (ret (.int 0))) aNil)) (gTupM 2 (gConsM (gSetM 2) (gConsM (gSetM 3) gNilM))))
  (sSeq (sAsg (mLst mNil) (gSetM 4))
  (sSeq (sAsg (mLst mNil) (gSetM 5))
  (sSeq (sFor (mRange2 (ret (.int 1)) (mCold (mOp gSub (mLenN 1) (ret (.int 1))))) (gSetM 6) (sSeq (sAsg (mCall f__words [] (aCons (mIxN 1 (mVar 6)) (aCons (mCold (mOp gAdd (mVar 6) (ret (.int 1)))) aNil))) (gTupM 3 (gConsM (gSetM 7) (gConsM (gSetM 8) (gConsM (gSetM 9) gNilM)))))
  (sSeq (sIf (mTest (mOp gIsN (mCold (mCall f_pair_of [] (aCons (mVar 3) (aCons (mTup (mCons (mVar 7) (mCons (mVar 8) mNil))) aNil)))) (ret .non))) (sRaiseF "BadText" "line" (mCold (mOp gAdd (mVar 6) (ret (.int 1)))) (mCold (mOp gSub (mVar 6) (ret (.int 1))))) sNil)
  (sSeq (sIf (mTest (mWarm (mVar 9))) (sDrop (mAppN 5 (mCold (mOp gSub (mVar 6) (ret (.int 1)))))) sNil)
  (sDrop (mAppN 4 (mTup (mCons (mVar 7) (mCons (mVar 8) mNil)))))))))
  (sSeq (sIf (mTest (mOp gNe (mIxN 1 (mUn gNeg (ret (.int 1)))) (ret (.str "")))) (sRaise1 "BadText" "line" (mLenN 1)) sNil)
  (sSeq (sIf (mTest (mOp gEq (mVar 2) (ret (.str "join")))) (sRet (mMakeK "Join" f_Join___init__ 2 (["gone"] : List Str).length (mCons (mVar 3) (mCons (mVar 4) mNil)) (mCons (mVar 5) mNil))) sNil)
  (sRet (mMakeK "Lap" f_Lap___init__ 2 (["gone"] : List Str).length (mCons (mVar 3) (mCons (mVar 4) mNil)) (mCons (mVar 5) mNil))))))))))))
def f_market_from : Fun' := runDef 9 [true] m_market_from
/-! _law_lines -/
def m__law_lines : MS := (sSeq (sAsg (mLst (mCons (mCold (mOp gAdd (mCold (mOp gAdd (mVar 0) (ret (.str " ")))) (mCold (mB1 gStr1 (mVar 1))))) mNil)) (gSetM 4))
  (sSeq (sFor (mRange1 (mLenN 2)) (gSetM 5) (sSeq (sAsg (mOp gAdd (mCold (mOp gAdd (mCold (mB1 gStr1 (mIx (mIxN 2 (mVar 5)) (ret (.int 0))))) (ret (.str " ")))) (mCold (mB1 gStr1 (mIx (mIxN 2 (mVar 5)) (ret (.int 1)))))) (gSetM 6))
  (sSeq (sIf (mTest (mInN false 3 (mVar 5))) (sAsg (mOp gAdd (mVar 6) (ret (.str " gone"))) (gSetM 6)) sNil)
  (sDrop (mAppN 4 (mVar 6))))))
  (sRet (mMove 4))))
def f__law_lines : Fun' := runDef 3 [true, true, true, true] m__law_lines
/-! _law_joined -/
def m__law_joined : MS := (sRet (mWarm (mJoin (ret (.str "")) (mCold (mLc (mItems (mVar 0)) (gSetM 1) mYes (mCold (mOp gAdd (mVar 1) (ret (.str "
")))) (([("_law_line", 1)] : List (Str × Nat)).map (·.2)))))))
def f__law_joined : Fun' := runDef 1 [true] m__law_joined
/-! _law_refused_v6 -/
def m__law_refused_v6 : MS := (sSeq (sAsg (mLst (mCons (mUn gNeg (ret (.int 7))) (mCons (ret (.bl false)) (mCons (ret (.bl false)) mNil)))) (gSetM 1))
  (sSeq (sTryL 2 (sDrop (mCall f_market_from [] (aCons (mVar 0) aNil))) [(subOf ["BadText", "BadSet", "BadRun", "BadNumber"] "BadText", (sAsg (mLst (mCons (mErr 2 "BadText" "line") (mCons (mCold (mIsErr 2 "BadText" true)) (mCons (mCold (mIsErr 2 "BadText" false)) mNil)))) (gSetM 1)))])
  (sRet (mMove 1))))
def f__law_refused_v6 : Fun' := runDef 2 [true] m__law_refused_v6
/-! _law_wrong_head -/
def m__law_wrong_head : MS := (sSeq (sAsg (mB1 gStr1 (mVar 2)) (gSetM 3))
  (sSeq (sAsg (mLst (mCons (mCold (mOp gAdd (mCold (mOp gAdd (mVar 1) (ret (.str "s ")))) (mVar 3))) (mCons (mCold (mOp gAdd (mCold (mOp gAdd (mVar 1) (ret (.str "  ")))) (mVar 3))) (mCons (mCold (mOp gAdd (mCold (mOp gAdd (mVar 1) (ret (.str " 0")))) (mVar 3))) (mCons (mCold (mOp gAdd (mVar 1) (ret (.str " 0")))) (mCons (mCold (mOp gAdd (mVar 1) (ret (.str " 31")))) mNil)))))) (gSetM 4))
  (sSeq (sAsg (mOp gAdd (mVar 4) (mCold (mLst (mCons (mVar 1) (mCons (mCold (mOp gAdd (mCold (mOp gAdd (mCold (mOp gAdd (ret (.str " ")) (mVar 1))) (ret (.str " ")))) (mVar 3))) (mCons (mCold (mOp gAdd (mCold (mOp gAdd (mCold (mOp gAdd (mVar 1) (ret (.str " ")))) (mVar 3))) (ret (.str " ")))) (mCons (mCold (mOp gAdd (mCold (mOp gAdd (mVar 1) (ret (.str " -")))) (mVar 3))) (mCons (ret (.str "")) mNil)))))))) (gSetM 4))
  (sSeq (sAsg (mOp gAdd (mVar 4) (mCold (mLst (mCons (mCold (mOp gAdd (ret (.str "joinlap ")) (mVar 3))) (mCons (mCold (mOp gAdd (mCold (mOp gAdd (mCold (mOp gAdd (mVar 1) (ret (.str " ")))) (mVar 3))) (ret (.str " gone")))) (mCons (mCold (mOp gAdd (mCold (mOp gAdd (mVar 1) (ret (.str " +")))) (mVar 3))) mNil)))))) (gSetM 4))
  (sRet (mWarm (mIxN 4 (mCold (mCall f__law_take [] (mIo 0 (aCons (ret (.int 13)) aNil)))))))))))
def f__law_wrong_head : Fun' := runDef 2 [true, true, true] m__law_wrong_head
/-! _law_wrong_part -/
def m__law_wrong_part : MS := (sSeq (sAsg (mLst (mCons (mCold (mOp gAdd (ret (.str "0 ")) (mCold (mB1 gStr1 (mCold (mOp gAdd (mVar 1) (ret (.int 1)))))))) (mCons (ret (.str "1 0")) (mCons (ret (.str "0 0")) (mCons (ret (.str "0")) (mCons (ret (.str "01 2")) (mCons (ret (.str "0  1")) (mCons (ret (.str " 0 1")) (mCons (ret (.str "0 1 ")) (mCons (ret (.str "00 1")) (mCons (ret (.str "0 01")) mNil))))))))))) (gSetM 2))
  (sSeq (sAsg (mOp gAdd (mVar 2) (mCold (mLst (mCons (ret (.str "0 1 lost")) (mCons (ret (.str "0 1 gone ")) (mCons (ret (.str "0 1  gone")) (mCons (ret (.str "0 1 gone gone")) (mCons (ret (.str "a 1")) (mCons (ret (.str "-0 1")) (mCons (ret (.str "0 1 2")) mNil)))))))))) (gSetM 2))
  (sRet (mWarm (mIxN 2 (mCold (mCall f__law_take [] (mIo 0 (aCons (ret (.int 17)) aNil)))))))))
def f__law_wrong_part : Fun' := runDef 1 [true, true] m__law_wrong_part
/-! _law_texts_refused -/
def m__law_texts_refused : MS := (sSeq (sAsg (mCall f__law_joined [] (aCons (mVar 1) aNil)) (gSetM 4))
  (sSeq (sAsg (mCall f__law_take [] (mIo 0 (aCons (mCold (mOp gAdd (mLenN 1) (ret (.int 1)))) aNil))) (gSetM 5))
  (sSeq (sAsg (mCall f__law_wrong_part [] (mIo 0 (aCons (mVar 3) aNil))) (gSetM 6))
  (sSeq (sIf (mTest (mOp gEq (mVar 5) (ret (.int 0)))) (sAsg (mCall f__law_wrong_head [] (mIo 0 (aCons (mVar 2) (aCons (mVar 3) aNil)))) (gSetM 6)) sNil)
  (sSeq (sIf (mTest (mOp gLt (mVar 5) (mLenN 1))) (sAsg (mOp gAdd (mCold (mOp gAdd (mCold (mSlL (mVar 1) mNoPart (mPart (mVar 5)))) (mCold (mLst (mCons (mVar 6) mNil))))) (mCold (mSlL (mVar 1) (mPart (mCold (mOp gAdd (mVar 5) (ret (.int 1))))) mNoPart))) (gSetM 7)) (sAsg (mOp gAdd (mVar 1) (mCold (mLst (mCons (mVar 6) mNil)))) (gSetM 7)))
  (sSeq (sAsg (mLst (mCons (mCold (mOp gAdd (mVar 5) (ret (.int 1)))) (mCons (ret (.bl true)) (mCons (ret (.bl false)) mNil)))) (gSetM 8))
  (sSeq (sIf (mTest (mOp gNe (mCold (mCall f__law_refused_v6 [] (aCons (mCold (mCall f__law_joined [] (aCons (mVar 7) aNil))) aNil))) (mVar 8))) (sRet (mWarm (ret (.bl false)))) sNil)
  (sSeq (sIf (mTest (mOp gNe (mCold (mCall f__law_refused_v6 [] (aCons (mCold (mCall f__law_joined [] (aCons (mCold (mOp gAdd (mVar 7) (mCold (mLst (mCons (mCold (mCall f__law_wrong_part [] (mIo 0 (aCons (mVar 3) aNil)))) mNil))))) aNil))) aNil))) (mVar 8))) (sRet (mWarm (ret (.bl false)))) sNil)
  (sSeq (sIf (mTest (mOp gNe (mCold (mCall f__law_refused_v6 [] (aCons (mCold (mSlS (mCold (mCall f__law_joined [] (aCons (mVar 7) aNil))) mNoPart (mPart (mUn gNeg (ret (.int 1)))))) aNil))) (mVar 8))) (sRet (mWarm (ret (.bl false)))) sNil)
  (sSeq (sIf (mTest (mOp gNe (mCold (mCall f__law_refused_v6 [] (aCons (mCold (mSlS (mVar 4) mNoPart (mPart (mUn gNeg (ret (.int 1)))))) aNil))) (mCold (mLst (mCons (mLenN 1) (mCons (ret (.bl true)) (mCons (ret (.bl false)) mNil))))))) (sRet (mWarm (ret (.bl false)))) sNil)
  (sSeq (sIf (mTest (mOp gNe (mCold (mCall f__law_refused_v6 [] (aCons (mCold (mOp gAdd (mVar 4) (ret (.str "
")))) aNil))) (mCold (mLst (mCons (mCold (mOp gAdd (mLenN 1) (ret (.int 1)))) (mCons (ret (.bl true)) (mCons (ret (.bl false)) mNil))))))) (sRet (mWarm (ret (.bl false)))) sNil)
  (sSeq (sIf (mTest (mOp gNe (mCold (mCall f__law_refused_v6 [] (aCons (mCold (mOp gAdd (mVar 4) (ret (.str "0 1")))) aNil))) (mCold (mLst (mCons (mCold (mOp gAdd (mLenN 1) (ret (.int 1)))) (mCons (ret (.bl true)) (mCons (ret (.bl false)) mNil))))))) (sRet (mWarm (ret (.bl false)))) sNil)
  (sSeq (sAsg (mWarm (mIx (mCold (mLst (mCons (ret .non) (mCons (ret (.int 7)) (mCons (mCold (mLst (mCons (mVar 4) mNil))) mNil))))) (mCold (mCall f__law_take [] (mIo 0 (aCons (ret (.int 3)) aNil)))))) (gSetM 9))
  (sRet (mWarm (mAndV (mCold (mOp gEq (mCold (mCall f__law_refused_v6 [] (aCons (ret (.str "")) aNil))) (mCold (mLst (mCons (ret (.int 1)) (mCons (ret (.bl true)) (mCons (ret (.bl false)) mNil))))))) (mCold (mOp gEq (mCold (mCall f__law_refused_v6 [] (aCons (mVar 9) aNil))) (mCold (mLst (mCons (ret (.int 0)) (mCons (ret (.bl true)) (mCons (ret (.bl false)) mNil)))))))))))))))))))))))
def f__law_texts_refused : Fun' := runDef 6 [true, true, true, true] m__law_texts_refused
/-! law_v7 -/
def m_law_v7 : MS := (sSeq (sAsg (mCall f__law_draws [] (aCons (mVar 0) aNil)) (gSetM 1))
  (sSeq (sAsg (mCall f__law_kind [] (mIo 1 aNil)) (gSetM 2))
  (sSeq (sAsg (mCall f__law_market_v2 [] (mIo 1 (aCons (ret (.int 9)) aNil))) (gSetM 3))
  (sSeq (sAsg (mWarm (mIx (mCold (mLst (mCons (ret (.int 1)) (mCons (ret (.int 3)) mNil)))) (mCold (mCall f__law_take [] (mIo 1 (aCons (ret (.int 2)) aNil)))))) (gSetM 4))
  (sSeq (sAsg (mOp gMul (mIxN 3 (ret (.int 0))) (mVar 4)) (gSetM 5))
  (sSeq (sAsg (mLc (mItems (mIxN 3 (ret (.int 1)))) (gSetM 7) mYes (mTup (mCons (mCold (mOp gMul (mIxN 7 (ret (.int 0))) (mVar 4))) (mCons (mCold (mOp gMul (mIxN 7 (ret (.int 1))) (mVar 4))) mNil))) (([("_law_run", 7)] : List (Str × Nat)).map (·.2))) (gSetM 6))
  (sSeq (sAsg (mLc (mRange1 (mLenN 6)) (gSetM 9) (mTest (mOp gEq (mCold (mCall f__law_take [] (mIo 1 (aCons (ret (.int 4)) aNil)))) (ret (.int 3)))) (mVar 9) (([("_law_part", 9)] : List (Str × Nat)).map (·.2))) (gSetM 8))
  (sSeq (sAsg (mCall f__law_built [] (aCons (mVar 2) (aCons (mVar 5) (aCons (mCold (mB1 gList (mVar 6))) (aCons (mCold (mB1 gList (mVar 8))) aNil))))) (gSetM 10))
  (sSeq (sAsg (mCall f__law_lines [] (aCons (mVar 2) (aCons (mVar 5) (aCons (mVar 6) (aCons (mVar 8) aNil))))) (gSetM 11))
  (sSeq (sAsg (mCall f__law_joined [] (aCons (mVar 11) aNil)) (gSetM 12))
  (sSeq (sAsg (mCall f_market_text [] (aCons (mVar 10) aNil)) (gSetM 13))
  (sSeq (sIf (mOr (mNot (mTest (mIsT (fun n => n == "str") (mVar 13)))) (mTest (mOp gNe (mVar 13) (mVar 12)))) (sRet (mWarm (ret (.bl false)))) sNil)
  (sSeq (sAsg (mCall f_market_from [] (aCons (mVar 12) aNil)) (gSetM 14))
  (sSeq (sIf (mOr (mTest (mOp gNe (mCon CN_KIND "KIND" (mVar 14)) (mVar 2))) (mOr (mTest (mOp gNe (mFldN KS "size" 14) (mVar 5))) (mOr (mTest (mOp gNe (mFldN KS "runs" 14) (mCold (mB1 gTuple (mVar 6))))) (mTest (mOp gNe (mFldN KS "gone" 14) (mCold (mB1 gTuple (mVar 8)))))))) (sRet (mWarm (ret (.bl false)))) sNil)
  (sSeq (sIf (mOr (mNot (mTest (mOp (gEqO ([("Join", f_Market___eq__), ("Lap", f_Market___eq__)] : List (Str × Fun'))) (mVar 14) (mVar 10)))) (mTest (mOp gNe (mCold (mCall f_market_text [] (aCons (mVar 14) aNil))) (mVar 12)))) (sRet (mWarm (ret (.bl false)))) sNil)
  (sSeq (sAsg (mCall f__law_built [] (aCons (mIx (mCold (mLst (mCons (ret (.str "lap")) (mCons (ret (.str "join")) mNil)))) (mCold (mB1 gInt1 (mCold (mOp gEq (mVar 2) (ret (.str "lap"))))))) (aCons (mVar 5) (aCons (mCold (mB1 gList (mVar 6))) (aCons (mCold (mB1 gList (mVar 8))) aNil))))) (gSetM 15))
  (sSeq (sIf (mOr (mTest (mOp (gEqO ([("Join", f_Market___eq__), ("Lap", f_Market___eq__)] : List (Str × Fun'))) (mVar 14) (mVar 15))) (mTest (mOp gEq (mCold (mCall f_market_text [] (aCons (mVar 15) aNil))) (mVar 12)))) (sRet (mWarm (ret (.bl false)))) sNil)
  (sSeq (sAsg (mCall f__law_built [] (aCons (mVar 2) (aCons (mVar 5) (aCons (mCold (mOp gAdd (mCold (mB1 gList (mVar 6))) (mCold (mLst (mCons (mTup (mCons (ret (.int 0)) (mCons (mVar 5) mNil))) mNil))))) (aCons (mCold (mB1 gList (mVar 8))) aNil))))) (gSetM 16))
  (sSeq (sIf (mOr (mTest (mOp (gEqO ([("Join", f_Market___eq__), ("Lap", f_Market___eq__)] : List (Str × Fun'))) (mVar 14) (mVar 16))) (mOr (mTest (mOp (gEqO ([("Join", f_Market___eq__), ("Lap", f_Market___eq__)] : List (Str × Fun'))) (mCold (mCall f_market_from [] (aCons (mCold (mCall f_market_text [] (aCons (mVar 16) aNil))) aNil))) (mVar 14))) (mTest (mOp gNe (mCold (mB1 (gLenO ([("Join", f_Market___len__), ("Lap", f_Market___len__)] : List (Str × Fun'))) (mVar 16))) (mCold (mOp gAdd (mLenN 6) (ret (.int 1)))))))) (sRet (mWarm (ret (.bl false)))) sNil)
  (sSeq (sAsg (mCall f_market_from [] (aCons (mCold (mOp gAdd (mVar 2) (ret (.str " 30
")))) aNil)) (gSetM 17))
  (sSeq (sIf (mOr (mTest (mOp gNe (mFldN KS "size" 17) (ret (.int 30)))) (mOr (mTest (mOp gNe (mFldN KS "runs" 17) (mTup mNil))) (mOr (mTest (mOp gNe (mCon CN_KIND "KIND" (mVar 17)) (mVar 2))) (mTest (mOp (gEqO ([("Join", f_Market___eq__), ("Lap", f_Market___eq__)] : List (Str × Fun'))) (mVar 14) (mVar 17)))))) (sRet (mWarm (ret (.bl false)))) sNil)
  (sSeq (sIf (mTest (mOp (gEqO ([("Join", f_Market___eq__), ("Lap", f_Market___eq__)] : List (Str × Fun'))) (mVar 14) (mCold (mCall f__law_built [] (aCons (mVar 2) (aCons (mCold (mOp gAdd (mVar 5) (ret (.int 1)))) (aCons (mCold (mB1 gList (mVar 6))) (aCons (mCold (mB1 gList (mVar 8))) aNil)))))))) (sRet (mWarm (ret (.bl false)))) sNil)
  (sSeq (sIf (mAnd (mTest (mOp gGt (mLenN 8) (ret (.int 0)))) (mTest (mOp (gEqO ([("Join", f_Market___eq__), ("Lap", f_Market___eq__)] : List (Str × Fun'))) (mVar 14) (mCold (mCall f__law_built [] (aCons (mVar 2) (aCons (mVar 5) (aCons (mCold (mB1 gList (mVar 6))) (aCons (mCold (mSlL (mVar 8) (mPart (ret (.int 1))) mNoPart)) aNil))))))))) (sRet (mWarm (ret (.bl false)))) sNil)
  (sRet (mCall f__law_texts_refused [] (mIo 1 (aCons (mVar 11) (aCons (mVar 2) (aCons (mVar 5) aNil)))))))))))))))))))))))))))))
def f_law_v7 : Fun' := runDef 17 [true] m_law_v7
end L2.Fn
set_option maxRecDepth 100000
set_option maxHeartbeats 4000000
namespace L2.Fn.K01
open PySem PySem.Spec PyProof.Rows L2 L2.Fn
abbrev PW : Program := PySem.Challenge.pw_keptparts_k01_texts_and_back
def top (i : Nat) : Stmt := PW.main.body.getD i (.Pass ⟨0, 0, 0, 0⟩)
def meth (i j : Nat) : Stmt := match top i with
  | .ClassDef (body := b) .. => b.getD j (.Pass ⟨0, 0, 0, 0⟩)
  | _ => .Pass ⟨0, 0, 0, 0⟩
structure Zf (P : Program) (w : World) (K : PySem.W.Frag) (mg : Str → Option Value) : Prop where
  cn_KIND : ConOk K (cmOf K) CN_KIND "KIND"
  ec_BadText : ExcC K (He.ga K "BadText")
  exl_BadText : ExmOk K (cmOf K) (subOf ["BadText", "BadSet", "BadRun", "BadNumber"] "BadText") (.ref (He.ga K "BadText"))
  f_bool : mg "bool" = none
  f_enumerate : mg "enumerate" = none
  f_int : mg "int" = none
  f_isinstance : mg "isinstance" = none
  f_len : mg "len" = none
  f_list : mg "list" = none
  f_min : mg "min" = none
  f_range : mg "range" = none
  f_sorted : mg "sorted" = none
  f_str : mg "str" = none
  f_tuple : mg "tuple" = none
  fl_gone : FldOk K (cmOf K) KS "gone"
  fl_runs : FldOk K (cmOf K) KS "runs"
  fl_size : FldOk K (cmOf K) KS "size"
  g_BadRun : mg "BadRun" = some (.ref (He.ga K "BadRun"))
  g_BadText : mg "BadText" = some (.ref (He.ga K "BadText"))
  g_Market : mg "Market" = some (.ref (He.ga K "Market"))
  g_PartsError : mg "PartsError" = some (.ref (He.ga K "PartsError"))
  iso_Market : IsoOk K (cmOf K) (["Join", "Lap"] : List Str) "Market"
  kin_BadText_BadRun : PySem.W.kitOne K (.ref (He.ga K "BadText")) (.ref (He.ga K "BadRun")) = some false
  kit_BadText_PartsError : PySem.W.kitOne K (.ref (He.ga K "BadText")) (.ref (He.ga K "PartsError")) = some true
  no_BadText_line : PySem.W.findIn K (.ref (He.ga K "BadText")) "line" = some none
  xf_BadText : XfC K (He.ga K "BadText")
section
variable {P : Program} {w : World} {K : PySem.W.Frag} {mg : Str → Option Value} {base : Heap}
/-! is_int -/
theorem sc_is_int : FnScope ["value"] ["value"] (defScope (top 9)) := ⟨rfl, rfl, rfl, by decide +kernel, rfl, by decide +kernel, by decide +kernel⟩
theorem ok_is_int {f : Addr} {fd : FuncData} (Z : Zf P w K mg) (Fd : FunD K "is_int" "is_int" (defArgs (top 9)) (defBody (top 9)) (defScope (top 9)) [] [] f fd) : FnOk P w K mg base (L2.CX P w) 1 f fd ["value"] (spOf K (cmOf K) 1 f_is_int) := by
  have ND : (["value"] : List Str).Nodup := sc_is_int.nd
  refine fn_ok (t := tNext) (n := 0) (l := [true]) (m := m_is_int) Fd sc_is_int rfl rfl fun cdv A outer s H E hr => ?_
  exact ⟨_, (sse_one (se_ret (oe_val (de_and (de_cold (k_isT K isT_int Z.f_isinstance Z.f_int (by decide +kernel) (de_v 0))) (de_one (oe_val (de_not (de_cold (k_isT K isT_bool Z.f_isinstance Z.f_bool (by decide +kernel) (de_v 0))))))))))⟩
/-! check_number -/
theorem sc_check_number : FnScope ["value", "name", "least", "most"] ["value", "name", "least", "most"] (defScope (top 10)) := ⟨rfl, rfl, rfl, by decide +kernel, rfl, by decide +kernel, by decide +kernel⟩
theorem ok_check_number {f : Addr} {fd : FuncData} (Z : Zf P w K mg) (C_is_int : Cal P w K mg base (cmOf K) "is_int" 1 1 f_is_int) (E_BadNumber : ErrP P w K mg base (cmOf K) "BadNumber" "name") (Fd : FunD K "check_number" "check_number" (defArgs (top 10)) (defBody (top 10)) (defScope (top 10)) [] [] f fd) : FnOk P w K mg base (L2.CX P w) 3 f fd ["value", "name", "least", "most"] (spOf K (cmOf K) 4 f_check_number) := by
  have ND : (["value", "name", "least", "most"] : List Str).Nodup := sc_check_number.nd
  refine fn_ok (t := tNext) (n := 0) (l := [true, true, true, true]) (m := m_check_number) Fd sc_check_number rfl rfl fun cdv A outer s H E hr => ?_
  exact ⟨_, (sse_cons (se_if (te_not (te_val (k_cal K C_is_int (hr.mono (by decide : 1 ≤ 2)) (takes_of rfl rfl rfl rfl) (ce_cons (de_v 0) ce_nil) (ln_cons ln_nil)))) (sse_one (se_rais E_BadNumber rfl (takes_of rfl rfl rfl rfl) (hr.mono (by decide : 2 ≤ 2)) rfl (de_v 1))) sse_nil)
  (sse_cons (se_if (te_cmp op_lt od_lt (de_v 0) (de_v 2) (by rfl)) (sse_one (se_rais E_BadNumber rfl (takes_of rfl rfl rfl rfl) (hr.mono (by decide : 2 ≤ 2)) rfl (de_v 1))) sse_nil)
  (sse_cons (se_if (te_w (we_and (te_cmp op_notN od_notN (de_v 3) de_non (by rfl)) (we_and1 (te_cmp op_gt od_gt (de_v 0) (de_v 3) (by rfl))))) (sse_one (se_rais E_BadNumber rfl (takes_of rfl rfl rfl rfl) (hr.mono (by decide : 2 ≤ 2)) rfl (de_v 1))) sse_nil)
  (sse_one (se_ret (oe_v 0))))))⟩
/-! set_of -/
theorem sc_set_of : FnScope ["many", "parts", "known", "place", "part"] ["many", "parts"] (defScope (top 12)) := ⟨rfl, rfl, rfl, by decide +kernel, rfl, by decide +kernel, by decide +kernel⟩
theorem ok_set_of {f : Addr} {fd : FuncData} (Z : Zf P w K mg) (C_check_number : Cal P w K mg base (cmOf K) "check_number" 3 4 f_check_number) (C_is_int : Cal P w K mg base (cmOf K) "is_int" 1 1 f_is_int) (E_BadSet : ErrP P w K mg base (cmOf K) "BadSet" "place") (Fd : FunD K "set_of" "set_of" (defArgs (top 12)) (defBody (top 12)) (defScope (top 12)) [] [] f fd) : FnOk P w K mg base (L2.CX P w) 4 f fd ["many", "parts"] (spOf K (cmOf K) 2 f_set_of) := by
  have ND : (["many", "parts", "known", "place", "part"] : List Str).Nodup := sc_set_of.nd
  refine fn_ok (t := tNext) (n := 3) (l := [true, true]) (m := m_set_of) Fd sc_set_of rfl rfl fun cdv A outer s H E hr => ?_
  exact ⟨_, (sse_cons (se_expr (k_cal K C_check_number (hr.mono (by decide : 3 ≤ 3)) (takes_of rfl rfl rfl rfl) (ce_cons (de_v 0) (ce_cons de_str (ce_cons de_int (ce_cons de_non ce_nil)))) (ln_cons (ln_cons (ln_cons (ln_cons ln_nil))))))
  (sse_cons (se_if (te_not (te_val (oe_isLT (by rfl) Z.f_isinstance (by rfl) Z.f_list (by rfl) Z.f_tuple (de_v 1)))) (sse_one (se_rais E_BadSet rfl (takes_of rfl rfl rfl rfl) (hr.mono (by decide : 2 ≤ 3)) rfl (de_un un_neg ud_neg de_int))) sse_nil)
  (sse_cons (se_asg oe_newK (ge_v 2 ND))
  (sse_cons (se_for (passes_of rfl) rfl (k_enum K Z.f_enumerate (de_v 1)) (k_tup K rfl (ges_cons (ge_v 3 ND) (ges_cons (ge_v 4 ND) ges_nil))) (sse_cons (se_if (te_w (we_or (te_not (te_val (k_cal K C_is_int (hr.mono (by decide : 1 ≤ 3)) (takes_of rfl rfl rfl rfl) (ce_cons (de_v 4) ce_nil) (ln_cons ln_nil)))) (we_or (te_cmp op_lt od_lt (de_v 4) de_int (by rfl)) (we_or (te_cmp op_ge od_ge (de_v 4) (de_v 0) (by rfl)) (we_or1 (te_cs (cs_din (i := 2) (u1 hr) (de_v 4) rfl (by first | exact Or.inl rfl | exact Or.inr (Or.inl rfl) | exact Or.inr (Or.inr rfl))))))))) (sse_one (se_rais E_BadSet rfl (takes_of rfl rfl rfl rfl) (hr.mono (by decide : 2 ≤ 3)) rfl (de_v 3))) sse_nil)
  (sse_one (se_putN (i := 2) (u1 hr) rfl (by first | exact Or.inl rfl | exact Or.inr (Or.inl rfl) | exact Or.inr (Or.inr rfl)) (de_v 4) de_bl))))
  (sse_one (se_ret (oe_t1 (k_tuple K) cd_tuple (by rfl) Z.f_tuple (by decide +kernel) (de_cold (oe_b1 (k_sorted K) cd_sorted (by rfl) Z.f_sorted (by decide +kernel) (de_cold (oe_listKN (i := 2) rfl (by rfl) Z.f_list rfl (by first | exact Or.inl rfl | exact Or.inr (Or.inl rfl) | exact Or.inr (Or.inr rfl)))))))))))))⟩
/-! pair_of -/
theorem sc_pair_of : FnScope ["size", "run", "begin", "end"] ["size", "run"] (defScope (top 16)) := ⟨rfl, rfl, rfl, by decide +kernel, rfl, by decide +kernel, by decide +kernel⟩
theorem ok_pair_of {f : Addr} {fd : FuncData} (Z : Zf P w K mg) (C_is_int : Cal P w K mg base (cmOf K) "is_int" 1 1 f_is_int) (Fd : FunD K "pair_of" "pair_of" (defArgs (top 16)) (defBody (top 16)) (defScope (top 16)) [] [] f fd) : FnOk P w K mg base (L2.CX P w) 2 f fd ["size", "run"] (spOf K (cmOf K) 2 f_pair_of) := by
  have ND : (["size", "run", "begin", "end"] : List Str).Nodup := sc_pair_of.nd
  refine fn_ok (t := tNext) (n := 2) (l := [true, true]) (m := m_pair_of) Fd sc_pair_of rfl rfl fun cdv A outer s H E hr => ?_
  exact ⟨_, (sse_cons (se_if (te_w (we_or (te_not (te_val (oe_isLT (by rfl) Z.f_isinstance (by rfl) Z.f_list (by rfl) Z.f_tuple (de_v 1)))) (we_or1 (te_cmp (k_ne K hr.units) od_ne (k_lenv K 1 Z.f_len) de_int (by rfl))))) (sse_one (se_ret (oe_val de_non))) sse_nil)
  (sse_cons (se_asg (oe_val (de_v 1)) (k_tup K rfl (ges_cons (ge_v 2 ND) (ges_cons (ge_v 3 ND) ges_nil))))
  (sse_cons (se_if (te_w (we_or (te_not (te_val (k_cal K C_is_int (hr.mono (by decide : 1 ≤ 1)) (takes_of rfl rfl rfl rfl) (ce_cons (de_v 2) ce_nil) (ln_cons ln_nil)))) (we_or1 (te_not (te_val (k_cal K C_is_int (hr.mono (by decide : 1 ≤ 1)) (takes_of rfl rfl rfl rfl) (ce_cons (de_v 3) ce_nil) (ln_cons ln_nil))))))) (sse_one (se_ret (oe_val de_non))) sse_nil)
  (sse_cons (se_if (te_w (we_or (te_cmp op_lt od_lt (de_v 2) de_int (by rfl)) (we_or (te_cmp op_ge od_ge (de_v 2) (de_v 3) (by rfl)) (we_or1 (te_cmp op_gt od_gt (de_v 3) (de_v 0) (by rfl)))))) (sse_one (se_ret (oe_val de_non))) sse_nil)
  (sse_one (se_ret (oe_val (de_tup (ae_cons (de_v 2) (ae_cons (de_v 3) ae_nil))))))))))⟩
/-! _runs_of -/
theorem sc__runs_of : FnScope ["size", "runs", "result", "place", "run", "pair"] ["size", "runs"] (defScope (top 17)) := ⟨rfl, rfl, rfl, by decide +kernel, rfl, by decide +kernel, by decide +kernel⟩
theorem ok__runs_of {f : Addr} {fd : FuncData} (Z : Zf P w K mg) (C_pair_of : Cal P w K mg base (cmOf K) "pair_of" 2 2 f_pair_of) (E_BadRun : ErrP P w K mg base (cmOf K) "BadRun" "place") (Fd : FunD K "_runs_of" "_runs_of" (defArgs (top 17)) (defBody (top 17)) (defScope (top 17)) [] [] f fd) : FnOk P w K mg base (L2.CX P w) 3 f fd ["size", "runs"] (spOf K (cmOf K) 2 f__runs_of) := by
  have ND : (["size", "runs", "result", "place", "run", "pair"] : List Str).Nodup := sc__runs_of.nd
  refine fn_ok (t := tNext) (n := 4) (l := [true, true]) (m := m__runs_of) Fd sc__runs_of rfl rfl fun cdv A outer s H E hr => ?_
  exact ⟨_, (sse_cons (se_if (te_not (te_val (oe_isLT (by rfl) Z.f_isinstance (by rfl) Z.f_list (by rfl) Z.f_tuple (de_v 1)))) (sse_one (se_rais E_BadRun rfl (takes_of rfl rfl rfl rfl) (hr.mono (by decide : 2 ≤ 2)) rfl (de_un un_neg ud_neg de_int))) sse_nil)
  (sse_cons (se_asg (oe_lst ae_nil) (ge_v 2 ND))
  (sse_cons (se_for (passes_of rfl) rfl (k_enum K Z.f_enumerate (de_v 1)) (k_tup K rfl (ges_cons (ge_v 3 ND) (ges_cons (ge_v 4 ND) ges_nil))) (sse_cons (se_asg (k_cal K C_pair_of (hr.mono (by decide : 2 ≤ 2)) (takes_of rfl rfl rfl rfl) (ce_cons (de_v 0) (ce_cons (de_v 4) ce_nil)) (ln_cons (ln_cons ln_nil))) (ge_v 5 ND))
  (sse_cons (se_if (te_cmp op_isN od_isN (de_v 5) de_non (by rfl)) (sse_one (se_rais E_BadRun rfl (takes_of rfl rfl rfl rfl) (hr.mono (by decide : 2 ≤ 2)) rfl (de_v 3))) sse_nil)
  (sse_one (se_expr (oe_appN (i := 2) rfl (by first | exact Or.inl rfl | exact Or.inr (Or.inl rfl) | exact Or.inr (Or.inr rfl)) (de_v 5)))))))
  (sse_one (se_ret (oe_t1 (k_tuple K) cd_tuple (by rfl) Z.f_tuple (by decide +kernel) (de_v 2)))))))⟩
/-! Market.__init__ -/
theorem sc_Market___init__ : FnScope ["self", "size", "runs", "gone"] ["self", "size", "runs", "gone"] (defScope (meth 19 1)) := ⟨rfl, rfl, rfl, by decide +kernel, rfl, by decide +kernel, by decide +kernel⟩
theorem ok_Market___init__ {f : Addr} {fd : FuncData} (Z : Zf P w K mg) (C_check_number : Cal P w K mg base (cmOf K) "check_number" 3 4 f_check_number) (C__runs_of : Cal P w K mg base (cmOf K) "_runs_of" 3 2 f__runs_of) (C_set_of : Cal P w K mg base (cmOf K) "set_of" 4 2 f_set_of) (Fd : FunD K "__init__" "Market.__init__" (defArgs (meth 19 1)) (defBody (meth 19 1)) (defScope (meth 19 1)) [] [] f fd) : FnOk P w K mg base (L2.CX P w) 5 f fd ["self", "size", "runs", "gone"] (spOf K (cmOf K) 4 f_Market___init__) := by
  have ND : (["self", "size", "runs", "gone"] : List Str).Nodup := sc_Market___init__.nd
  refine fn_ok (t := tNext) (n := 0) (l := [true, true, true, true]) (m := m_Market___init__) Fd sc_Market___init__ rfl rfl fun cdv A outer s H E hr => ?_
  exact ⟨_, (sse_cons (se_fldN (i := 0) Z.fl_size rfl (by first | exact Or.inl rfl | exact Or.inr (Or.inl rfl) | exact Or.inr (Or.inr rfl)) (de_cold (k_cal K C_check_number (hr.mono (by decide : 3 ≤ 4)) (takes_of rfl rfl rfl rfl) (ce_cons (de_v 1) (ce_cons de_str (ce_cons de_int (ce_cons de_int ce_nil)))) (ln_cons (ln_cons (ln_cons (ln_cons ln_nil)))))))
  (sse_cons (se_fldN (i := 0) Z.fl_runs rfl (by first | exact Or.inl rfl | exact Or.inr (Or.inl rfl) | exact Or.inr (Or.inr rfl)) (de_cold (k_cal K C__runs_of (hr.mono (by decide : 3 ≤ 4)) (takes_of rfl rfl rfl rfl) (ce_cons (de_v 1) (ce_cons (de_v 2) ce_nil)) (ln_cons (ln_cons ln_nil)))))
  (sse_one (se_fldN (i := 0) Z.fl_gone rfl (by first | exact Or.inl rfl | exact Or.inr (Or.inl rfl) | exact Or.inr (Or.inr rfl)) (de_cold (k_cal K C_set_of (hr.mono (by decide : 4 ≤ 4)) (takes_of rfl rfl rfl rfl) (ce_cons (k_len K Z.f_len (k_fv K 0 Z.fl_runs)) (ce_cons (de_v 3) ce_nil)) (ln_cons (ln_cons ln_nil))))))))⟩
/-! Market.__len__ -/
theorem sc_Market___len__ : FnScope ["self"] ["self"] (defScope (meth 19 6)) := ⟨rfl, rfl, rfl, by decide +kernel, rfl, by decide +kernel, by decide +kernel⟩
theorem ok_Market___len__ {f : Addr} {fd : FuncData} (Z : Zf P w K mg) (Fd : FunD K "__len__" "Market.__len__" (defArgs (meth 19 6)) (defBody (meth 19 6)) (defScope (meth 19 6)) [] [] f fd) : FnOk P w K mg base (L2.CX P w) 1 f fd ["self"] (spOf K (cmOf K) 1 f_Market___len__) := by
  have ND : (["self"] : List Str).Nodup := sc_Market___len__.nd
  refine fn_ok (t := tNext) (n := 0) (l := [true]) (m := m_Market___len__) Fd sc_Market___len__ rfl rfl fun cdv A outer s H E hr => ?_
  exact ⟨_, (sse_one (se_ret (oe_val (k_len K Z.f_len (k_fv K 0 Z.fl_runs)))))⟩
/-! Market.__eq__ -/
theorem sc_Market___eq__ : FnScope ["self", "other", "one"] ["self", "other"] (defScope (meth 19 9)) := ⟨rfl, rfl, rfl, by decide +kernel, rfl, by decide +kernel, by decide +kernel⟩
theorem ok_Market___eq__ {f : Addr} {fd : FuncData} (Z : Zf P w K mg) (Fd : FunD K "__eq__" "Market.__eq__" (defArgs (meth 19 9)) (defBody (meth 19 9)) (defScope (meth 19 9)) [] [] f fd) : FnOk P w K mg base (L2.CX P w) 1 f fd ["self", "other"] (spOf K (cmOf K) 2 f_Market___eq__) := by
  have ND : (["self", "other", "one"] : List Str).Nodup := sc_Market___eq__.nd
  refine fn_ok (t := tNext) (n := 1) (l := [true, true]) (m := m_Market___eq__) Fd sc_Market___eq__ rfl rfl fun cdv A outer s H E hr => ?_
  exact ⟨_, (sse_cons (se_if (te_not (te_val (oe_isO (Cs := (["Join", "Lap"] : List Str)) K Z.iso_Market Z.f_isinstance Z.g_Market (de_v 1)))) (sse_one (se_ret (oe_val de_bl))) sse_nil)
  (sse_cons (se_asg (oe_val (de_tup (ae_cons (k_con K Z.cn_KIND (de_v 0)) (ae_cons (k_fv K 0 Z.fl_size) (ae_cons (k_fv K 0 Z.fl_runs) (ae_cons (k_fv K 0 Z.fl_gone) ae_nil)))))) (ge_v 2 ND))
  (sse_one (se_ret (oe_cmp (k_eq K hr.units) od_eq (de_v 2) (de_tup (ae_cons (k_con K Z.cn_KIND (de_v 1)) (ae_cons (k_fv K 1 Z.fl_size) (ae_cons (k_fv K 1 Z.fl_runs) (ae_cons (k_fv K 1 Z.fl_gone) ae_nil))))) (by rfl))))))⟩
/-! market_text -/
theorem sc_market_text : FnScope ["market", "lines", "part", "begin", "end", "mark"] ["market"] (defScope (top 31)) := ⟨rfl, rfl, rfl, by decide +kernel, rfl, by decide +kernel, by decide +kernel⟩
theorem ok_market_text {f : Addr} {fd : FuncData} (Z : Zf P w K mg) (Fd : FunD K "market_text" "market_text" (defArgs (top 31)) (defBody (top 31)) (defScope (top 31)) [] [] f fd) : FnOk P w K mg base (L2.CX P w) 1 f fd ["market"] (spOf K (cmOf K) 1 f_market_text) := by
  have ND : (["market", "lines", "part", "begin", "end", "mark"] : List Str).Nodup := sc_market_text.nd
  refine fn_ok (t := tNext) (n := 5) (l := [true]) (m := m_market_text) Fd sc_market_text rfl rfl fun cdv A outer s H E hr => ?_
  exact ⟨_, (sse_cons (se_asg (oe_lst (ae_cons (de_joined (JE.cons (de_fmt (k_con K Z.cn_KIND (de_v 0))) (JE.cons de_str (JE.cons (de_fmt (k_fv K 0 Z.fl_size)) (JE.cons de_str JE.nil))))) ae_nil)) (ge_v 1 ND))
  (sse_cons (se_for (passes_of rfl) rfl (k_enum K Z.f_enumerate (de_cold (oe_t1 (k_list K) cd_list (by rfl) Z.f_list (by decide +kernel) (k_fv K 0 Z.fl_runs)))) (k_tup K rfl (ges_cons (ge_v 2 ND) (ges_cons (k_tup K rfl (ges_cons (ge_v 3 ND) (ges_cons (ge_v 4 ND) ges_nil))) ges_nil))) (sse_cons (se_asg (oe_ifExp (te_cmp (k_in K) (od_in false) (de_v 2) (k_fv K 0 Z.fl_gone) (by rfl)) (oe_val de_str) (oe_val de_str)) (ge_v 5 ND))
  (sse_one (se_expr (oe_appN (i := 1) rfl (by first | exact Or.inl rfl | exact Or.inr (Or.inl rfl) | exact Or.inr (Or.inr rfl)) (de_joined (JE.cons (de_fmt (de_v 3)) (JE.cons de_str (JE.cons (de_fmt (de_v 4)) (JE.cons (de_fmt (de_v 5)) (JE.cons de_str JE.nil)))))))))))
  (sse_one (se_ret (oe_val (de_join K de_str (de_v 1)))))))⟩
/-! _number -/
theorem sc__number : FnScope ["word", "sign"] ["word"] (defScope (top 32)) := ⟨rfl, rfl, rfl, by decide +kernel, rfl, by decide +kernel, by decide +kernel⟩
theorem ok__number {f : Addr} {fd : FuncData} (Z : Zf P w K mg) (Fd : FunD K "_number" "_number" (defArgs (top 32)) (defBody (top 32)) (defScope (top 32)) [] [] f fd) : FnOk P w K mg base (L2.CX P w) 1 f fd ["word"] (spOf K (cmOf K) 1 f__number) := by
  have ND : (["word", "sign"] : List Str).Nodup := sc__number.nd
  refine fn_ok (t := tNext) (n := 1) (l := [true]) (m := m__number) Fd sc__number rfl rfl fun cdv A outer s H E hr => ?_
  exact ⟨_, (sse_cons (se_if (te_w (we_or (te_cmp (k_eq K hr.units) od_eq (k_lenv K 0 Z.f_len) de_int (by rfl)) (we_or1 (te_cmp op_gt od_gt (k_lenv K 0 Z.f_len) de_int (by rfl))))) (sse_one (se_ret (oe_val de_non))) sse_nil)
  (sse_cons (se_if (te_cmp op_gt od_gt (k_len K Z.f_len (de_cold (oe_lc rfl ND (ie_str (de_v 0)) (blk_ok (own := ([("sign", 1)] : List (Str × Nat))) (by kernel_rfl)) (fun _ _ _ _ _ => (ge_v 1 ND)) (fun _ _ _ _ _ => (ifs_one (te_cmp op_notIn_sign od_notInS (de_v 1) de_str (by rfl)))) (fun _ _ _ _ _ => (de_v 1))))) de_int (by rfl)) (sse_one (se_ret (oe_val de_non))) sse_nil)
  (sse_cons (se_if (te_w (we_and (te_cmp (k_eq K hr.units) od_eq (k_ixv K 0 de_int) de_str (by rfl)) (we_and1 (te_cmp op_gt od_gt (k_lenv K 0 Z.f_len) de_int (by rfl))))) (sse_one (se_ret (oe_val de_non))) sse_nil)
  (sse_one (se_ret (oe_t1 call_intT cd_intT (by rfl) Z.f_int (by decide +kernel) (de_v 0)))))))⟩
/-! _head -/
theorem sc__head : FnScope ["line", "kind", "word", "size"] ["line"] (defScope (top 33)) := ⟨rfl, rfl, rfl, by decide +kernel, rfl, by decide +kernel, by decide +kernel⟩
theorem ok__head {f : Addr} {fd : FuncData} (Z : Zf P w K mg) (C__number : Cal P w K mg base (cmOf K) "_number" 1 1 f__number) (E_BadText : ErrP P w K mg base (cmOf K) "BadText" "line") (E_BadNumber : ErrP P w K mg base (cmOf K) "BadNumber" "name") (Fd : FunD K "_head" "_head" (defArgs (top 33)) (defBody (top 33)) (defScope (top 33)) [] [] f fd) : FnOk P w K mg base (L2.CX P w) 3 f fd ["line"] (spOf K (cmOf K) 1 f__head) := by
  have ND : (["line", "kind", "word", "size"] : List Str).Nodup := sc__head.nd
  refine fn_ok (t := tNext) (n := 3) (l := [true]) (m := m__head) Fd sc__head rfl rfl fun cdv A outer s H E hr => ?_
  exact ⟨_, (sse_one (se_match2 (i := 1) (j := 2) rfl (de_cold (oe_split (de_v 0) de_str)) ND rfl rfl (by first | exact Or.inl rfl | exact Or.inr rfl) (by first | exact Or.inl rfl | exact Or.inr rfl) (by first | exact Or.inl rfl | exact Or.inr rfl) (by first | exact Or.inl rfl | exact Or.inr rfl) (te_cmp (k_in K) (od_in false) (de_v 1) (de_tup (ae_cons de_str (ae_cons de_str ae_nil))) (by rfl))
  (sse_cons (se_asg (k_cal K C__number (hr.mono (by decide : 1 ≤ 2)) (takes_of rfl rfl rfl rfl) (ce_cons (de_v 2) ce_nil) (ln_cons ln_nil)) (ge_v 3 ND))
  (sse_cons (se_if (te_cmp op_isN od_isN (de_v 3) de_non (by rfl)) (sse_one (se_raiseN E_BadText rfl (takes_of rfl rfl rfl rfl) (hr.mono (by decide : 2 ≤ 2)) rfl de_int)) sse_nil)
  (sse_cons (se_if (te_w (we_or (te_cmp op_lt od_lt (de_v 3) de_int (by rfl)) (we_or1 (te_cmp op_gt od_gt (de_v 3) de_int (by rfl))))) (sse_one (se_raiseF E_BadText E_BadNumber rfl (takes_of rfl rfl rfl rfl) (hr.mono (by decide : 2 ≤ 2)) rfl rfl de_int de_str)) sse_nil)
  (sse_one (se_ret (oe_val (de_tup (ae_cons (de_v 1) (ae_cons (de_v 3) ae_nil)))))))))
  (sse_one (se_raiseN E_BadText rfl (takes_of rfl rfl rfl rfl) (hr.mono (by decide : 2 ≤ 2)) rfl de_int)) rfl rfl))⟩
/-! _words -/
theorem sc__words : FnScope ["line", "number", "words", "is_gone", "begin", "end"] ["line", "number"] (defScope (top 34)) := ⟨rfl, rfl, rfl, by decide +kernel, rfl, by decide +kernel, by decide +kernel⟩
theorem ok__words {f : Addr} {fd : FuncData} (Z : Zf P w K mg) (C__number : Cal P w K mg base (cmOf K) "_number" 1 1 f__number) (E_BadText : ErrP P w K mg base (cmOf K) "BadText" "line") (Fd : FunD K "_words" "_words" (defArgs (top 34)) (defBody (top 34)) (defScope (top 34)) [] [] f fd) : FnOk P w K mg base (L2.CX P w) 3 f fd ["line", "number"] (spOf K (cmOf K) 2 f__words) := by
  have ND : (["line", "number", "words", "is_gone", "begin", "end"] : List Str).Nodup := sc__words.nd
  refine fn_ok (t := tNext) (n := 4) (l := [true, true]) (m := m__words) Fd sc__words rfl rfl fun cdv A outer s H E hr => ?_
  exact ⟨_, (sse_cons (se_asg (oe_split (de_v 0) de_str) (ge_v 2 ND))
  (sse_cons (se_asg (oe_val (de_and (de_cold (oe_cmp (k_eq K hr.units) od_eq (k_lenv K 2 Z.f_len) de_int (by rfl))) (de_one (oe_cmp (k_eq K hr.units) od_eq (k_ixv K 2 de_int) de_str (by rfl))))) (ge_v 3 ND))
  (sse_cons (se_if (te_w (we_and (te_cmp (k_ne K hr.units) od_ne (k_lenv K 2 Z.f_len) de_int (by rfl)) (we_and1 (te_not (te_val (oe_val (de_v 3))))))) (sse_one (se_raiseN E_BadText rfl (takes_of rfl rfl rfl rfl) (hr.mono (by decide : 2 ≤ 2)) rfl (de_v 1))) sse_nil)
  (sse_cons (se_asg (k_cal K C__number (hr.mono (by decide : 1 ≤ 2)) (takes_of rfl rfl rfl rfl) (ce_cons (k_ixv K 2 de_int) ce_nil) (ln_cons ln_nil)) (ge_v 4 ND))
  (sse_cons (se_asg (k_cal K C__number (hr.mono (by decide : 1 ≤ 2)) (takes_of rfl rfl rfl rfl) (ce_cons (k_ixv K 2 de_int) ce_nil) (ln_cons ln_nil)) (ge_v 5 ND))
  (sse_cons (se_if (te_w (we_or (te_cmp op_isN od_isN (de_v 4) de_non (by rfl)) (we_or1 (te_cmp op_isN od_isN (de_v 5) de_non (by rfl))))) (sse_one (se_raiseN E_BadText rfl (takes_of rfl rfl rfl rfl) (hr.mono (by decide : 2 ≤ 2)) rfl (de_v 1))) sse_nil)
  (sse_one (se_ret (oe_val (de_tup (ae_cons (de_v 4) (ae_cons (de_v 5) (ae_cons (de_v 3) ae_nil)))))))))))))⟩
/-! market_from -/
theorem sc_market_from : FnScope ["text", "lines", "kind", "size", "runs", "gone", "at", "begin", "end", "is_gone"] ["text"] (defScope (top 35)) := ⟨rfl, rfl, rfl, by decide +kernel, rfl, by decide +kernel, by decide +kernel⟩
theorem ok_market_from {f : Addr} {fd : FuncData} (Z : Zf P w K mg) (C__head : Cal P w K mg base (cmOf K) "_head" 3 1 f__head) (C__words : Cal P w K mg base (cmOf K) "_words" 3 2 f__words) (C_pair_of : Cal P w K mg base (cmOf K) "pair_of" 2 2 f_pair_of) (M_Join : Mak P w K mg base (cmOf K) "Join" 6 2 ["gone"] f_Join___init__) (M_Lap : Mak P w K mg base (cmOf K) "Lap" 6 2 ["gone"] f_Lap___init__) (E_BadText : ErrP P w K mg base (cmOf K) "BadText" "line") (E_BadRun : ErrP P w K mg base (cmOf K) "BadRun" "place") (Fd : FunD K "market_from" "market_from" (defArgs (top 35)) (defBody (top 35)) (defScope (top 35)) [] [] f fd) : FnOk P w K mg base (L2.CX P w) 8 f fd ["text"] (spOf K (cmOf K) 1 f_market_from) := by
  have ND : (["text", "lines", "kind", "size", "runs", "gone", "at", "begin", "end", "is_gone"] : List Str).Nodup := sc_market_from.nd
  refine fn_ok (t := tNext) (n := 9) (l := [true]) (m := m_market_from) Fd sc_market_from rfl rfl fun cdv A outer s H E hr => ?_
  exact ⟨_, (sse_cons (se_if (te_not (te_val (k_isT K isT_str Z.f_isinstance Z.f_str (by decide +kernel) (de_v 0)))) (sse_one (se_rais E_BadText rfl (takes_of rfl rfl rfl rfl) (hr.mono (by decide : 2 ≤ 7)) rfl de_int)) sse_nil)
  (sse_cons (se_asg (oe_split (de_v 0) de_str) (ge_v 1 ND))
  (sse_cons (se_if (te_cmp (k_eq K hr.units) od_eq (k_lenv K 1 Z.f_len) de_int (by rfl)) (sse_one (se_rais E_BadText rfl (takes_of rfl rfl rfl rfl) (hr.mono (by decide : 2 ≤ 7)) rfl de_int)) sse_nil)
  (sse_cons (se_asg (k_cal K C__head (hr.mono (by decide : 3 ≤ 7)) (takes_of rfl rfl rfl rfl) (ce_cons (k_ixv K 1 de_int) ce_nil) (ln_cons ln_nil)) (k_tup K rfl (ges_cons (ge_v 2 ND) (ges_cons (ge_v 3 ND) ges_nil))))
  (sse_cons (se_asg (oe_lst ae_nil) (ge_v 4 ND))
  (sse_cons (se_asg (oe_lst ae_nil) (ge_v 5 ND))
  (sse_cons (se_for (passes_of rfl) rfl (ie_range2 (by rfl) Z.f_range de_int (de_cold (oe_op op_sub od_sub (k_lenv K 1 Z.f_len) de_int))) (ge_v 6 ND) (sse_cons (se_asg (k_cal K C__words (hr.mono (by decide : 3 ≤ 7)) (takes_of rfl rfl rfl rfl) (ce_cons (k_ixv K 1 (de_v 6)) (ce_cons (de_cold (oe_op op_addX od_add (de_v 6) de_int)) ce_nil)) (ln_cons (ln_cons ln_nil))) (k_tup K rfl (ges_cons (ge_v 7 ND) (ges_cons (ge_v 8 ND) (ges_cons (ge_v 9 ND) ges_nil)))))
  (sse_cons (se_if (te_cmp op_isN od_isN (de_cold (k_cal K C_pair_of (hr.mono (by decide : 2 ≤ 7)) (takes_of rfl rfl rfl rfl) (ce_cons (de_v 3) (ce_cons (de_tup (ae_cons (de_v 7) (ae_cons (de_v 8) ae_nil))) ce_nil)) (ln_cons (ln_cons ln_nil)))) de_non (by rfl)) (sse_one (se_raiseF E_BadText E_BadRun rfl (takes_of rfl rfl rfl rfl) (hr.mono (by decide : 2 ≤ 7)) rfl rfl (de_cold (oe_op op_addX od_add (de_v 6) de_int)) (de_cold (oe_op op_sub od_sub (de_v 6) de_int)))) sse_nil)
  (sse_cons (se_if (te_val (oe_val (de_v 9))) (sse_one (se_expr (oe_appN (i := 5) rfl (by first | exact Or.inl rfl | exact Or.inr (Or.inl rfl) | exact Or.inr (Or.inr rfl)) (de_cold (oe_op op_sub od_sub (de_v 6) de_int))))) sse_nil)
  (sse_one (se_expr (oe_appN (i := 4) rfl (by first | exact Or.inl rfl | exact Or.inr (Or.inl rfl) | exact Or.inr (Or.inr rfl)) (de_tup (ae_cons (de_v 7) (ae_cons (de_v 8) ae_nil))))))))))
  (sse_cons (se_if (te_cmp (k_ne K hr.units) od_ne (k_ixv K 1 (de_un un_neg ud_neg de_int)) de_str (by rfl)) (sse_one (se_rais E_BadText rfl (takes_of rfl rfl rfl rfl) (hr.mono (by decide : 2 ≤ 7)) rfl (k_lenv K 1 Z.f_len))) sse_nil)
  (sse_cons (se_if (te_cmp (k_eq K hr.units) od_eq (de_v 2) de_str (by rfl)) (sse_one (se_ret (oe_mak M_Join (hr.mono (by decide : 7 ≤ 7)) (by rfl) (takes_of rfl rfl rfl rfl) (ae_cons (de_v 3) (ae_cons (de_v 4) ae_nil)) (ke_cons (de_v 5) ke_nil)))) sse_nil)
  (sse_one (se_ret (oe_mak M_Lap (hr.mono (by decide : 7 ≤ 7)) (by rfl) (takes_of rfl rfl rfl rfl) (ae_cons (de_v 3) (ae_cons (de_v 4) ae_nil)) (ke_cons (de_v 5) ke_nil)))))))))))))⟩
/-! _law_draws -/
theorem sc__law_draws : FnScope ["_law_script", "_law_draws_here", "_law_at", "_law_cell", "_law_k", "_law_number"] ["_law_script"] (defScope (top 37)) := ⟨rfl, rfl, rfl, by decide +kernel, rfl, by decide +kernel, by decide +kernel⟩
theorem ok__law_draws {f : Addr} {fd : FuncData} (Z : Zf P w K mg) (Fd : FunD K "_law_draws" "_law_draws" (defArgs (top 37)) (defBody (top 37)) (defScope (top 37)) [] [] f fd) : FnOk P w K mg base (L2.CX P w) 1 f fd ["_law_script"] (spOf K (cmOf K) 1 f__law_draws) := by
  have ND : (["_law_script", "_law_draws_here", "_law_at", "_law_cell", "_law_k", "_law_number"] : List Str).Nodup := sc__law_draws.nd
  refine fn_ok (t := tNext) (n := 5) (l := [true]) (m := m__law_draws) Fd sc__law_draws rfl rfl fun cdv A outer s H E hr => ?_
  exact ⟨_, (sse_cons (se_asg (oe_lst ae_nil) (ge_v 1 ND))
  (sse_cons (se_for (passes_of rfl) rfl (ie_range1 (by rfl) Z.f_range (de_cold (oe_b2 (call_min2 rfl) cd_min2 (by rfl) Z.f_min (by decide +kernel) (k_lenv K 0 Z.f_len) de_int))) (ge_v 2 ND) (sse_cons (se_asg (oe_t1 call_int1 cd_int (by rfl) Z.f_int (by decide +kernel) (k_ixv K 0 (de_v 2))) (ge_v 3 ND))
  (sse_cons (se_if (te_cmp op_lt od_lt (de_v 3) de_int (by rfl)) (sse_one (se_asg (oe_op op_sub od_sub de_int (de_v 3)) (ge_v 3 ND))) sse_nil)
  (sse_one (se_if (te_cmp op_ge od_ge (de_v 3) (de_cold (oe_op op_pow od_pow de_int de_int)) (by rfl)) (sse_one (se_for (passes_of rfl) rfl (ie_range1 (by rfl) Z.f_range de_int) (ge_v 4 ND) (sse_one (se_if (te_cmp op_gt od_gt (de_v 3) de_int (by rfl)) (sse_cons (se_expr (oe_appN (i := 1) rfl (by first | exact Or.inl rfl | exact Or.inr (Or.inl rfl) | exact Or.inr (Or.inr rfl)) (de_cold (oe_op op_mod od_mod (de_cold (oe_t1 call_int1 cd_int (by rfl) Z.f_int (by decide +kernel) (de_v 3))) de_int))))
  (sse_one (se_asg (oe_op op_fdiv od_div (de_v 3) de_int) (ge_v 3 ND)))) sse_nil)))) (sse_cons (se_asg (oe_op op_mod od_mod (de_cold (oe_t1 call_int1 cd_int (by rfl) Z.f_int (by decide +kernel) (de_cold (oe_op op_addX od_add (de_cold (oe_op op_addX od_add (de_cold (oe_op op_mul od_mul (de_v 3) de_int)) (de_cold (oe_op op_mul od_mul (de_v 2) de_int)))) de_int)))) de_int) (ge_v 5 ND))
  (sse_one (se_for (passes_of rfl) rfl (ie_range1 (by rfl) Z.f_range de_int) (ge_v 4 ND) (sse_cons (se_asg (oe_op op_mod od_mod (de_cold (oe_t1 call_int1 cd_int (by rfl) Z.f_int (by decide +kernel) (de_cold (oe_op op_addX od_add (de_cold (oe_op op_addX od_add (de_cold (oe_op op_addX od_add (de_cold (oe_op op_mul od_mul (de_v 5) (de_v 5))) (de_cold (oe_op op_mul od_mul (de_v 4) de_int)))) (de_v 2))) de_int)))) de_int) (ge_v 5 ND))
  (sse_one (se_expr (oe_appN (i := 1) rfl (by first | exact Or.inl rfl | exact Or.inr (Or.inl rfl) | exact Or.inr (Or.inr rfl)) (de_v 5)))))))))))))
  (sse_cons (se_expr (oe_revN (i := 1) rfl (by first | exact Or.inl rfl | exact Or.inr (Or.inl rfl) | exact Or.inr (Or.inr rfl))))
  (sse_one (se_ret (oe_v 1))))))⟩
/-! _law_take -/
theorem sc__law_take : FnScope ["_law_draws_here", "_law_many"] ["_law_draws_here", "_law_many"] (defScope (top 38)) := ⟨rfl, rfl, rfl, by decide +kernel, rfl, by decide +kernel, by decide +kernel⟩
theorem ok__law_take {f : Addr} {fd : FuncData} (Z : Zf P w K mg) (Fd : FunD K "_law_take" "_law_take" (defArgs (top 38)) (defBody (top 38)) (defScope (top 38)) [] [] f fd) : FnOk P w K mg base (L2.CX P w) 1 f fd ["_law_draws_here", "_law_many"] (spOf K (cmOf K) 2 f__law_take) := by
  have ND : (["_law_draws_here", "_law_many"] : List Str).Nodup := sc__law_take.nd
  refine fn_ok (t := tNext) (n := 0) (l := [true, true]) (m := m__law_take) Fd sc__law_take rfl rfl fun cdv A outer s H E hr => ?_
  exact ⟨_, (sse_cons (se_if (te_cmp (k_eq K hr.units) od_eq (k_lenv K 0 Z.f_len) de_int (by rfl)) (sse_one (se_ret (oe_val de_int))) sse_nil)
  (sse_one (se_ret (oe_op op_mod od_mod (de_cold (oe_t1 call_int1 cd_int (by rfl) Z.f_int (by decide +kernel) (de_cold (oe_popN (i := 0) rfl (by first | exact Or.inl rfl | exact Or.inr (Or.inl rfl) | exact Or.inr (Or.inr rfl)))))) (de_v 1)))))⟩
/-! _law_chains -/
theorem sc__law_chains : FnScope ["_law_draws_here", "_law_size", "_law_runs", "_law_copy", "_law_start", "_law_k", "_law_stop"] ["_law_draws_here", "_law_size"] (defScope (top 39)) := ⟨rfl, rfl, rfl, by decide +kernel, rfl, by decide +kernel, by decide +kernel⟩
theorem ok__law_chains {f : Addr} {fd : FuncData} (Z : Zf P w K mg) (C__law_take : Cal P w K mg base (cmOf K) "_law_take" 1 2 f__law_take) (Fd : FunD K "_law_chains" "_law_chains" (defArgs (top 39)) (defBody (top 39)) (defScope (top 39)) [] [] f fd) : FnOk P w K mg base (L2.CX P w) 2 f fd ["_law_draws_here", "_law_size"] (spOf K (cmOf K) 2 f__law_chains) := by
  have ND : (["_law_draws_here", "_law_size", "_law_runs", "_law_copy", "_law_start", "_law_k", "_law_stop"] : List Str).Nodup := sc__law_chains.nd
  refine fn_ok (t := tNext) (n := 5) (l := [true, true]) (m := m__law_chains) Fd sc__law_chains rfl rfl fun cdv A outer s H E hr => ?_
  exact ⟨_, (sse_cons (se_asg (oe_lst ae_nil) (ge_v 2 ND))
  (sse_cons (se_for (passes_of rfl) rfl (ie_range1 (by rfl) Z.f_range (de_cold (oe_op op_addX od_add de_int (de_cold (k_cal K C__law_take (hr.mono (by decide : 1 ≤ 1)) (takes_of rfl rfl rfl rfl) (ce_v 0 (ce_cons de_int ce_nil)) (ln_io (ln_cons ln_nil))))))) (ge_v 3 ND) (sse_cons (se_asg (oe_val de_int) (ge_v 4 ND))
  (sse_one (se_for (passes_of rfl) rfl (ie_range1 (by rfl) Z.f_range (de_v 1)) (ge_v 5 ND) (sse_one (se_if (te_cmp op_lt od_lt (de_v 4) (de_v 1) (by rfl)) (sse_cons (se_asg (oe_b2 (call_min2 rfl) cd_min2 (by rfl) Z.f_min (by decide +kernel) (de_v 1) (de_cold (oe_op op_addX od_add (de_cold (oe_op op_addX od_add (de_v 4) de_int)) (de_cold (k_cal K C__law_take (hr.mono (by decide : 1 ≤ 1)) (takes_of rfl rfl rfl rfl) (ce_v 0 (ce_cons (de_v 1) ce_nil)) (ln_io (ln_cons ln_nil))))))) (ge_v 6 ND))
  (sse_cons (se_expr (oe_appN (i := 2) rfl (by first | exact Or.inl rfl | exact Or.inr (Or.inl rfl) | exact Or.inr (Or.inr rfl)) (de_tup (ae_cons (de_v 4) (ae_cons (de_v 6) ae_nil)))))
  (sse_one (se_asg (oe_val (de_v 6)) (ge_v 4 ND))))) sse_nil))))))
  (sse_cons (se_for (passes_of rfl) rfl (ie_range1 (by rfl) Z.f_range (de_cold (k_cal K C__law_take (hr.mono (by decide : 1 ≤ 1)) (takes_of rfl rfl rfl rfl) (ce_v 0 (ce_cons de_int ce_nil)) (ln_io (ln_cons ln_nil))))) (ge_v 5 ND) (sse_cons (se_asg (k_cal K C__law_take (hr.mono (by decide : 1 ≤ 1)) (takes_of rfl rfl rfl rfl) (ce_v 0 (ce_cons (de_v 1) ce_nil)) (ln_io (ln_cons ln_nil))) (ge_v 4 ND))
  (sse_one (se_expr (oe_appN (i := 2) rfl (by first | exact Or.inl rfl | exact Or.inr (Or.inl rfl) | exact Or.inr (Or.inr rfl)) (de_tup (ae_cons (de_v 4) (ae_cons (de_cold (oe_op op_addX od_add (de_cold (oe_op op_addX od_add (de_v 4) de_int)) (de_cold (k_cal K C__law_take (hr.mono (by decide : 1 ≤ 1)) (takes_of rfl rfl rfl rfl) (ce_v 0 (ce_cons (de_cold (oe_op op_sub od_sub (de_v 1) (de_v 4))) ce_nil)) (ln_io (ln_cons ln_nil)))))) ae_nil))))))))
  (sse_one (se_ret (oe_v 2))))))⟩
/-! _law_special -/
theorem sc__law_special : FnScope ["_law_draws_here", "_law_word", "_law_size", "_law_menu", "_law_runs", "_law_run"] ["_law_draws_here"] (defScope (top 40)) := ⟨rfl, rfl, rfl, by decide +kernel, rfl, by decide +kernel, by decide +kernel⟩
theorem ok__law_special {f : Addr} {fd : FuncData} (Z : Zf P w K mg) (C__law_take : Cal P w K mg base (cmOf K) "_law_take" 1 2 f__law_take) (Fd : FunD K "_law_special" "_law_special" (defArgs (top 40)) (defBody (top 40)) (defScope (top 40)) [] [] f fd) : FnOk P w K mg base (L2.CX P w) 2 f fd ["_law_draws_here"] (spOf K (cmOf K) 1 f__law_special_v2) := by
  have ND : (["_law_draws_here", "_law_word", "_law_size", "_law_menu", "_law_runs", "_law_run"] : List Str).Nodup := sc__law_special.nd
  refine fn_ok (t := tNext) (n := 5) (l := [true]) (m := m__law_special_v2) Fd sc__law_special rfl rfl fun cdv A outer s H E hr => ?_
  exact ⟨_, (sse_cons (se_asg (k_cal K C__law_take (hr.mono (by decide : 1 ≤ 1)) (takes_of rfl rfl rfl rfl) (ce_v 0 (ce_cons de_int ce_nil)) (ln_io (ln_cons ln_nil))) (ge_v 1 ND))
  (sse_cons (se_if (te_cmp (k_eq K hr.units) od_eq (de_v 1) de_int (by rfl)) (sse_cons (se_asg (oe_val de_int) (ge_v 2 ND))
  (sse_one (se_asg (oe_lst (ae_cons (de_tup (ae_cons de_int (ae_cons de_int ae_nil))) (ae_cons (de_tup (ae_cons de_int (ae_cons de_int ae_nil))) (ae_cons (de_tup (ae_cons de_int (ae_cons de_int ae_nil))) (ae_cons (de_tup (ae_cons de_int (ae_cons de_int ae_nil))) (ae_cons (de_tup (ae_cons de_int (ae_cons de_int ae_nil))) (ae_cons (de_tup (ae_cons de_int (ae_cons de_int ae_nil))) (ae_cons (de_tup (ae_cons de_int (ae_cons de_int ae_nil))) ae_nil)))))))) (ge_v 3 ND)))) (sse_one (se_if (te_cmp (k_eq K hr.units) od_eq (de_v 1) de_int (by rfl)) (sse_cons (se_asg (oe_val de_int) (ge_v 2 ND))
  (sse_one (se_asg (oe_lst (ae_cons (de_tup (ae_cons de_int (ae_cons de_int ae_nil))) (ae_cons (de_tup (ae_cons de_int (ae_cons de_int ae_nil))) (ae_cons (de_tup (ae_cons de_int (ae_cons de_int ae_nil))) (ae_cons (de_tup (ae_cons de_int (ae_cons de_int ae_nil))) (ae_cons (de_tup (ae_cons de_int (ae_cons de_int ae_nil))) (ae_cons (de_tup (ae_cons de_int (ae_cons de_int ae_nil))) (ae_cons (de_tup (ae_cons de_int (ae_cons de_int ae_nil))) (ae_cons (de_tup (ae_cons de_int (ae_cons de_int ae_nil))) (ae_cons (de_tup (ae_cons de_int (ae_cons de_int ae_nil))) ae_nil)))))))))) (ge_v 3 ND)))) (sse_cons (se_asg (oe_val de_int) (ge_v 2 ND))
  (sse_one (se_asg (oe_lst (ae_cons (de_tup (ae_cons de_int (ae_cons de_int ae_nil))) (ae_cons (de_tup (ae_cons de_int (ae_cons de_int ae_nil))) (ae_cons (de_tup (ae_cons de_int (ae_cons de_int ae_nil))) (ae_cons (de_tup (ae_cons de_int (ae_cons de_int ae_nil))) (ae_cons (de_tup (ae_cons de_int (ae_cons de_int ae_nil))) (ae_cons (de_tup (ae_cons de_int (ae_cons de_int ae_nil))) (ae_cons (de_tup (ae_cons de_int (ae_cons de_int ae_nil))) (ae_cons (de_tup (ae_cons de_int (ae_cons de_int ae_nil))) (ae_cons (de_tup (ae_cons de_int (ae_cons de_int ae_nil))) ae_nil)))))))))) (ge_v 3 ND)))))))
  (sse_cons (se_setLc (i := 4) rfl ND rfl rfl (by rfl) (k_seq K (de_v 3)) (blk_ok (own := ([("_law_run", 5)] : List (Str × Nat))) (by kernel_rfl)) (fun _ _ _ _ _ => (ge_v 5 ND)) (fun _ _ _ _ _ => (ifs_one (te_cmp op_lt od_lt (de_cold (k_cal K C__law_take (hr.mono (by decide : 1 ≤ 1)) takes_WF (ce_v 0 (ce_cons de_int ce_nil)) (ln_io (ln_cons ln_nil)))) de_int (by rfl)))) (fun _ _ _ _ _ => (de_v 5)))
  (sse_one (se_ret (oe_lst (ae_cons (de_v 2) (ae_cons (de_v 4) ae_nil))))))))⟩
/-! _law_market -/
theorem sc__law_market : FnScope ["_law_draws_here", "_law_most", "_law_word", "_law_drawn", "_law_size", "_law_runs", "_law_turn", "_law_absent"] ["_law_draws_here", "_law_most"] (defScope (top 41)) := ⟨rfl, rfl, rfl, by decide +kernel, rfl, by decide +kernel, by decide +kernel⟩
theorem ok__law_market {f : Addr} {fd : FuncData} (Z : Zf P w K mg) (C__law_take : Cal P w K mg base (cmOf K) "_law_take" 1 2 f__law_take) (C__law_special : Cal P w K mg base (cmOf K) "_law_special" 2 1 f__law_special_v2) (C__law_chains : Cal P w K mg base (cmOf K) "_law_chains" 2 2 f__law_chains) (Fd : FunD K "_law_market" "_law_market" (defArgs (top 41)) (defBody (top 41)) (defScope (top 41)) [] [] f fd) : FnOk P w K mg base (L2.CX P w) 3 f fd ["_law_draws_here", "_law_most"] (spOf K (cmOf K) 2 f__law_market_v2) := by
  have ND : (["_law_draws_here", "_law_most", "_law_word", "_law_drawn", "_law_size", "_law_runs", "_law_turn", "_law_absent"] : List Str).Nodup := sc__law_market.nd
  refine fn_ok (t := tNext) (n := 6) (l := [true, true]) (m := m__law_market_v2) Fd sc__law_market rfl rfl fun cdv A outer s H E hr => ?_
  exact ⟨_, (sse_cons (se_asg (k_cal K C__law_take (hr.mono (by decide : 1 ≤ 2)) (takes_of rfl rfl rfl rfl) (ce_v 0 (ce_cons de_int ce_nil)) (ln_io (ln_cons ln_nil))) (ge_v 2 ND))
  (sse_cons (se_if (te_cmp op_ge od_ge (de_v 2) de_int (by rfl)) (sse_cons (se_asg (k_cal K C__law_special (hr.mono (by decide : 2 ≤ 2)) (takes_of rfl rfl rfl rfl) (ce_v 0 ce_nil) (ln_io ln_nil)) (ge_v 3 ND))
  (sse_cons (se_asg (oe_val (k_ixv K 3 de_int)) (ge_v 4 ND))
  (sse_one (se_asg (oe_val (k_ixv K 3 de_int)) (ge_v 5 ND))))) (sse_cons (se_asg (oe_val (k_ix K (de_cold (oe_lst (ae_cons de_int (ae_cons de_int (ae_cons de_int (ae_cons de_int (ae_cons de_int (ae_cons de_int (ae_cons de_int (ae_cons de_int (ae_cons de_int (ae_cons de_int ae_nil)))))))))))) (de_cold (k_cal K C__law_take (hr.mono (by decide : 1 ≤ 2)) (takes_of rfl rfl rfl rfl) (ce_v 0 (ce_cons de_int ce_nil)) (ln_io (ln_cons ln_nil)))))) (ge_v 4 ND))
  (sse_cons (se_if (te_cmp (k_eq K hr.units) od_eq (de_cold (k_cal K C__law_take (hr.mono (by decide : 1 ≤ 2)) (takes_of rfl rfl rfl rfl) (ce_v 0 (ce_cons de_int ce_nil)) (ln_io (ln_cons ln_nil)))) de_int (by rfl)) (sse_one (se_asg (oe_val de_int) (ge_v 4 ND))) sse_nil)
  (sse_one (se_asg (k_cal K C__law_chains (hr.mono (by decide : 2 ≤ 2)) (takes_of rfl rfl rfl rfl) (ce_v 0 (ce_cons (de_v 4) ce_nil)) (ln_io (ln_cons ln_nil))) (ge_v 5 ND))))))
  (sse_cons (se_asg (k_cal K C__law_take (hr.mono (by decide : 1 ≤ 2)) (takes_of rfl rfl rfl rfl) (ce_v 0 (ce_cons de_int ce_nil)) (ln_io (ln_cons ln_nil))) (ge_v 6 ND))
  (sse_cons (se_if (te_cmp op_lt od_lt (de_v 6) (k_lenv K 5 Z.f_len) (by rfl)) (sse_one (se_asg (oe_op op_addX od_add (de_cold (k_sl K (de_v 5) (op_some (de_v 6)) op_none)) (de_cold (k_sl K (de_v 5) op_none (op_some (de_v 6))))) (ge_v 5 ND))) sse_nil)
  (sse_cons (se_asg (k_sl K (de_v 5) op_none (op_some (de_v 1))) (ge_v 5 ND))
  (sse_cons (se_asg (oe_lst ae_nil) (ge_v 7 ND))
  (sse_cons (se_if (te_w (we_and (te_cmp (k_eq K hr.units) od_eq (de_cold (k_cal K C__law_take (hr.mono (by decide : 1 ≤ 2)) (takes_of rfl rfl rfl rfl) (ce_v 0 (ce_cons de_int ce_nil)) (ln_io (ln_cons ln_nil)))) de_int (by rfl)) (we_and1 (te_cmp op_gt od_gt (k_lenv K 5 Z.f_len) de_int (by rfl))))) (sse_one (se_asg (oe_lst (ae_cons (de_cold (k_cal K C__law_take (hr.mono (by decide : 1 ≤ 2)) (takes_of rfl rfl rfl rfl) (ce_v 0 (ce_cons (k_lenv K 5 Z.f_len) ce_nil)) (ln_io (ln_cons ln_nil)))) ae_nil)) (ge_v 7 ND))) sse_nil)
  (sse_one (se_ret (oe_lst (ae_cons (de_v 4) (ae_cons (de_v 5) (ae_cons (de_v 7) ae_nil)))))))))))))⟩
/-! _law_built -/
theorem sc__law_built : FnScope ["_law_kind_here", "_law_size", "_law_runs", "_law_absent"] ["_law_kind_here", "_law_size", "_law_runs", "_law_absent"] (defScope (top 42)) := ⟨rfl, rfl, rfl, by decide +kernel, rfl, by decide +kernel, by decide +kernel⟩
theorem ok__law_built {f : Addr} {fd : FuncData} (Z : Zf P w K mg) (M_Join : Mak P w K mg base (cmOf K) "Join" 6 2 ["gone"] f_Join___init__) (M_Lap : Mak P w K mg base (cmOf K) "Lap" 6 2 ["gone"] f_Lap___init__) (Fd : FunD K "_law_built" "_law_built" (defArgs (top 42)) (defBody (top 42)) (defScope (top 42)) [] [] f fd) : FnOk P w K mg base (L2.CX P w) 8 f fd ["_law_kind_here", "_law_size", "_law_runs", "_law_absent"] (spOf K (cmOf K) 4 f__law_built) := by
  have ND : (["_law_kind_here", "_law_size", "_law_runs", "_law_absent"] : List Str).Nodup := sc__law_built.nd
  refine fn_ok (t := tNext) (n := 0) (l := [true, true, true, true]) (m := m__law_built) Fd sc__law_built rfl rfl fun cdv A outer s H E hr => ?_
  exact ⟨_, (sse_cons (se_if (te_cmp (k_eq K hr.units) od_eq (de_v 0) de_str (by rfl)) (sse_one (se_ret (oe_mak M_Join (hr.mono (by decide : 7 ≤ 7)) (by rfl) (takes_of rfl rfl rfl rfl) (ae_cons (de_v 1) (ae_cons (de_v 2) ae_nil)) (ke_cons (de_v 3) ke_nil)))) sse_nil)
  (sse_one (se_ret (oe_mak M_Lap (hr.mono (by decide : 7 ≤ 7)) (by rfl) (takes_of rfl rfl rfl rfl) (ae_cons (de_v 1) (ae_cons (de_v 2) ae_nil)) (ke_cons (de_v 3) ke_nil)))))⟩
/-! _law_kind -/
theorem sc__law_kind : FnScope ["_law_draws_here"] ["_law_draws_here"] (defScope (top 43)) := ⟨rfl, rfl, rfl, by decide +kernel, rfl, by decide +kernel, by decide +kernel⟩
theorem ok__law_kind {f : Addr} {fd : FuncData} (Z : Zf P w K mg) (C__law_take : Cal P w K mg base (cmOf K) "_law_take" 1 2 f__law_take) (Fd : FunD K "_law_kind" "_law_kind" (defArgs (top 43)) (defBody (top 43)) (defScope (top 43)) [] [] f fd) : FnOk P w K mg base (L2.CX P w) 2 f fd ["_law_draws_here"] (spOf K (cmOf K) 1 f__law_kind) := by
  have ND : (["_law_draws_here"] : List Str).Nodup := sc__law_kind.nd
  refine fn_ok (t := tNext) (n := 0) (l := [true]) (m := m__law_kind) Fd sc__law_kind rfl rfl fun cdv A outer s H E hr => ?_
  exact ⟨_, (sse_cons (se_if (te_cmp (k_eq K hr.units) od_eq (de_cold (k_cal K C__law_take (hr.mono (by decide : 1 ≤ 1)) (takes_of rfl rfl rfl rfl) (ce_v 0 (ce_cons de_int ce_nil)) (ln_io (ln_cons ln_nil)))) de_int (by rfl)) (sse_one (se_ret (oe_val de_str))) sse_nil)
  (sse_one (se_ret (oe_val de_str))))⟩
/-! _law_lines -/
theorem sc__law_lines : FnScope ["_law_kind_here", "_law_size", "_law_runs", "_law_absent", "_law_lines_here", "_law_part", "_law_line"] ["_law_kind_here", "_law_size", "_law_runs", "_law_absent"] (defScope (top 44)) := ⟨rfl, rfl, rfl, by decide +kernel, rfl, by decide +kernel, by decide +kernel⟩
theorem ok__law_lines {f : Addr} {fd : FuncData} (Z : Zf P w K mg) (Fd : FunD K "_law_lines" "_law_lines" (defArgs (top 44)) (defBody (top 44)) (defScope (top 44)) [] [] f fd) : FnOk P w K mg base (L2.CX P w) 1 f fd ["_law_kind_here", "_law_size", "_law_runs", "_law_absent"] (spOf K (cmOf K) 4 f__law_lines) := by
  have ND : (["_law_kind_here", "_law_size", "_law_runs", "_law_absent", "_law_lines_here", "_law_part", "_law_line"] : List Str).Nodup := sc__law_lines.nd
  refine fn_ok (t := tNext) (n := 3) (l := [true, true, true, true]) (m := m__law_lines) Fd sc__law_lines rfl rfl fun cdv A outer s H E hr => ?_
  exact ⟨_, (sse_cons (se_asg (oe_lst (ae_cons (de_cold (oe_op op_addX od_add (de_cold (oe_op op_addX od_add (de_v 0) de_str)) (de_cold (oe_t1 call_str_int cd_str (by rfl) Z.f_str (by decide +kernel) (de_v 1))))) ae_nil)) (ge_v 4 ND))
  (sse_cons (se_for (passes_of rfl) rfl (ie_range1 (by rfl) Z.f_range (k_lenv K 2 Z.f_len)) (ge_v 5 ND) (sse_cons (se_asg (oe_op op_addX od_add (de_cold (oe_op op_addX od_add (de_cold (oe_t1 call_str_int cd_str (by rfl) Z.f_str (by decide +kernel) (k_ix K (k_ixv K 2 (de_v 5)) de_int))) de_str)) (de_cold (oe_t1 call_str_int cd_str (by rfl) Z.f_str (by decide +kernel) (k_ix K (k_ixv K 2 (de_v 5)) de_int)))) (ge_v 6 ND))
  (sse_cons (se_if (k_tinv K false 3 (k_in K) (de_v 5)) (sse_one (se_asg (oe_op op_addX od_add (de_v 6) de_str) (ge_v 6 ND))) sse_nil)
  (sse_one (se_expr (oe_appN (i := 4) rfl (by first | exact Or.inl rfl | exact Or.inr (Or.inl rfl) | exact Or.inr (Or.inr rfl)) (de_v 6)))))))
  (sse_one (se_ret (oe_v 4)))))⟩
/-! _law_joined -/
theorem sc__law_joined : FnScope ["_law_lines_here", "_law_line"] ["_law_lines_here"] (defScope (top 45)) := ⟨rfl, rfl, rfl, by decide +kernel, rfl, by decide +kernel, by decide +kernel⟩
theorem ok__law_joined {f : Addr} {fd : FuncData} (Z : Zf P w K mg) (Fd : FunD K "_law_joined" "_law_joined" (defArgs (top 45)) (defBody (top 45)) (defScope (top 45)) [] [] f fd) : FnOk P w K mg base (L2.CX P w) 1 f fd ["_law_lines_here"] (spOf K (cmOf K) 1 f__law_joined) := by
  have ND : (["_law_lines_here", "_law_line"] : List Str).Nodup := sc__law_joined.nd
  refine fn_ok (t := tNext) (n := 1) (l := [true]) (m := m__law_joined) Fd sc__law_joined rfl rfl fun cdv A outer s H E hr => ?_
  exact ⟨_, (sse_one (se_ret (oe_val (de_join K de_str (de_cold (oe_lc rfl ND (k_seq K (de_v 0)) (blk_ok (own := ([("_law_line", 1)] : List (Str × Nat))) (by kernel_rfl)) (fun _ _ _ _ _ => (ge_v 1 ND)) (fun _ _ _ _ _ => ifs_nil) (fun _ _ _ _ _ => (de_cold (oe_op op_addX od_add (de_v 1) de_str)))))))))⟩
/-! _law_refused -/
theorem sc__law_refused : FnScope ["_law_text", "_law_told", "error"] ["_law_text"] (defScope (top 46)) := ⟨rfl, rfl, rfl, by decide +kernel, rfl, by decide +kernel, by decide +kernel⟩
theorem ok__law_refused {f : Addr} {fd : FuncData} (Z : Zf P w K mg) (C_market_from : Cal P w K mg base (cmOf K) "market_from" 8 1 f_market_from) (Fd : FunD K "_law_refused" "_law_refused" (defArgs (top 46)) (defBody (top 46)) (defScope (top 46)) [] [] f fd) : FnOk P w K mg base (L2.CX P w) 9 f fd ["_law_text"] (spOf K (cmOf K) 1 f__law_refused_v6) := by
  have ND : (["_law_text", "_law_told", "error"] : List Str).Nodup := sc__law_refused.nd
  refine fn_ok (t := tNext) (n := 2) (l := [true]) (m := m__law_refused_v6) Fd sc__law_refused rfl rfl fun cdv A outer s H E hr => ?_
  exact ⟨_, (sse_cons (se_asg (oe_lst (ae_cons (de_un un_neg ud_neg de_int) (ae_cons de_bl (ae_cons de_bl ae_nil)))) (ge_v 1 ND))
  (sse_cons (se_tryL rfl rfl ND (i := 2) rfl rfl (takes_of rfl rfl rfl rfl) (fun _ _ _ tkT psT => (sse_one (se_expr (k_cal K C_market_from (hr.mono (by decide : 8 ≤ 8)) tkT (ce_cons (de_v 0) ce_nil) (ln_cons ln_nil))))) (HzOk.cons (sub := subOf ["BadText", "BadSet", "BadRun", "BadNumber"] "BadText") ⟨rfl, by decide, .inl Z.g_BadText⟩ Z.exl_BadText (fun _ _ _ _ _ hz hf => (sse_one (se_asg (oe_lst (ae_cons (de_err (C := "BadText") (i := 2) Z.xf_BadText Z.no_BadText_line hz hf rfl (by first | exact Or.inl rfl | exact Or.inr (Or.inl rfl) | exact Or.inr (Or.inr rfl))) (ae_cons (de_cold (oe_isErr (C0 := "BadText") (C1 := "PartsError") (i := 2) (k := true) Z.ec_BadText hz hf (by rfl) Z.f_isinstance rfl Z.g_PartsError Z.kit_BadText_PartsError rfl (by first | exact Or.inl rfl | exact Or.inr (Or.inl rfl) | exact Or.inr (Or.inr rfl)))) (ae_cons (de_cold (oe_isErr (C0 := "BadText") (C1 := "BadRun") (i := 2) (k := false) Z.ec_BadText hz hf (by rfl) Z.f_isinstance rfl Z.g_BadRun Z.kin_BadText_BadRun rfl (by first | exact Or.inl rfl | exact Or.inr (Or.inl rfl) | exact Or.inr (Or.inr rfl)))) ae_nil)))) (ge_v 1 ND)))) HzOk.nil))
  (sse_one (se_ret (oe_v 1)))))⟩
/-! _law_wrong_head -/
theorem sc__law_wrong_head : FnScope ["_law_draws_here", "_law_kind_here", "_law_size", "_law_word", "_law_menu"] ["_law_draws_here", "_law_kind_here", "_law_size"] (defScope (top 47)) := ⟨rfl, rfl, rfl, by decide +kernel, rfl, by decide +kernel, by decide +kernel⟩
theorem ok__law_wrong_head {f : Addr} {fd : FuncData} (Z : Zf P w K mg) (C__law_take : Cal P w K mg base (cmOf K) "_law_take" 1 2 f__law_take) (Fd : FunD K "_law_wrong_head" "_law_wrong_head" (defArgs (top 47)) (defBody (top 47)) (defScope (top 47)) [] [] f fd) : FnOk P w K mg base (L2.CX P w) 2 f fd ["_law_draws_here", "_law_kind_here", "_law_size"] (spOf K (cmOf K) 3 f__law_wrong_head) := by
  have ND : (["_law_draws_here", "_law_kind_here", "_law_size", "_law_word", "_law_menu"] : List Str).Nodup := sc__law_wrong_head.nd
  refine fn_ok (t := tNext) (n := 2) (l := [true, true, true]) (m := m__law_wrong_head) Fd sc__law_wrong_head rfl rfl fun cdv A outer s H E hr => ?_
  exact ⟨_, (sse_cons (se_asg (oe_t1 call_str_int cd_str (by rfl) Z.f_str (by decide +kernel) (de_v 2)) (ge_v 3 ND))
  (sse_cons (se_asg (oe_lst (ae_cons (de_cold (oe_op op_addX od_add (de_cold (oe_op op_addX od_add (de_v 1) de_str)) (de_v 3))) (ae_cons (de_cold (oe_op op_addX od_add (de_cold (oe_op op_addX od_add (de_v 1) de_str)) (de_v 3))) (ae_cons (de_cold (oe_op op_addX od_add (de_cold (oe_op op_addX od_add (de_v 1) de_str)) (de_v 3))) (ae_cons (de_cold (oe_op op_addX od_add (de_v 1) de_str)) (ae_cons (de_cold (oe_op op_addX od_add (de_v 1) de_str)) ae_nil)))))) (ge_v 4 ND))
  (sse_cons (se_asg (oe_op op_addX od_add (de_v 4) (de_cold (oe_lst (ae_cons (de_v 1) (ae_cons (de_cold (oe_op op_addX od_add (de_cold (oe_op op_addX od_add (de_cold (oe_op op_addX od_add de_str (de_v 1))) de_str)) (de_v 3))) (ae_cons (de_cold (oe_op op_addX od_add (de_cold (oe_op op_addX od_add (de_cold (oe_op op_addX od_add (de_v 1) de_str)) (de_v 3))) de_str)) (ae_cons (de_cold (oe_op op_addX od_add (de_cold (oe_op op_addX od_add (de_v 1) de_str)) (de_v 3))) (ae_cons de_str ae_nil)))))))) (ge_v 4 ND))
  (sse_cons (se_asg (oe_op op_addX od_add (de_v 4) (de_cold (oe_lst (ae_cons (de_cold (oe_op op_addX od_add de_str (de_v 3))) (ae_cons (de_cold (oe_op op_addX od_add (de_cold (oe_op op_addX od_add (de_cold (oe_op op_addX od_add (de_v 1) de_str)) (de_v 3))) de_str)) (ae_cons (de_cold (oe_op op_addX od_add (de_cold (oe_op op_addX od_add (de_v 1) de_str)) (de_v 3))) ae_nil)))))) (ge_v 4 ND))
  (sse_one (se_ret (oe_val (k_ixv K 4 (de_cold (k_cal K C__law_take (hr.mono (by decide : 1 ≤ 1)) (takes_of rfl rfl rfl rfl) (ce_v 0 (ce_cons de_int ce_nil)) (ln_io (ln_cons ln_nil))))))))))))⟩
/-! _law_wrong_part -/
theorem sc__law_wrong_part : FnScope ["_law_draws_here", "_law_size", "_law_menu"] ["_law_draws_here", "_law_size"] (defScope (top 48)) := ⟨rfl, rfl, rfl, by decide +kernel, rfl, by decide +kernel, by decide +kernel⟩
theorem ok__law_wrong_part {f : Addr} {fd : FuncData} (Z : Zf P w K mg) (C__law_take : Cal P w K mg base (cmOf K) "_law_take" 1 2 f__law_take) (Fd : FunD K "_law_wrong_part" "_law_wrong_part" (defArgs (top 48)) (defBody (top 48)) (defScope (top 48)) [] [] f fd) : FnOk P w K mg base (L2.CX P w) 2 f fd ["_law_draws_here", "_law_size"] (spOf K (cmOf K) 2 f__law_wrong_part) := by
  have ND : (["_law_draws_here", "_law_size", "_law_menu"] : List Str).Nodup := sc__law_wrong_part.nd
  refine fn_ok (t := tNext) (n := 1) (l := [true, true]) (m := m__law_wrong_part) Fd sc__law_wrong_part rfl rfl fun cdv A outer s H E hr => ?_
  exact ⟨_, (sse_cons (se_asg (oe_lst (ae_cons (de_cold (oe_op op_addX od_add de_str (de_cold (oe_t1 call_str_int cd_str (by rfl) Z.f_str (by decide +kernel) (de_cold (oe_op op_addX od_add (de_v 1) de_int)))))) (ae_cons de_str (ae_cons de_str (ae_cons de_str (ae_cons de_str (ae_cons de_str (ae_cons de_str (ae_cons de_str (ae_cons de_str (ae_cons de_str ae_nil))))))))))) (ge_v 2 ND))
  (sse_cons (se_asg (oe_op op_addX od_add (de_v 2) (de_cold (oe_lst (ae_cons de_str (ae_cons de_str (ae_cons de_str (ae_cons de_str (ae_cons de_str (ae_cons de_str (ae_cons de_str ae_nil)))))))))) (ge_v 2 ND))
  (sse_one (se_ret (oe_val (k_ixv K 2 (de_cold (k_cal K C__law_take (hr.mono (by decide : 1 ≤ 1)) (takes_of rfl rfl rfl rfl) (ce_v 0 (ce_cons de_int ce_nil)) (ln_io (ln_cons ln_nil))))))))))⟩
/-! _law_texts_refused -/
theorem sc__law_texts_refused : FnScope ["_law_draws_here", "_law_lines_here", "_law_kind_here", "_law_size", "_law_whole", "_law_at", "_law_wrong", "_law_spoilt", "_law_due", "_law_nothing"] ["_law_draws_here", "_law_lines_here", "_law_kind_here", "_law_size"] (defScope (top 49)) := ⟨rfl, rfl, rfl, by decide +kernel, rfl, by decide +kernel, by decide +kernel⟩
theorem ok__law_texts_refused {f : Addr} {fd : FuncData} (Z : Zf P w K mg) (C__law_joined : Cal P w K mg base (cmOf K) "_law_joined" 1 1 f__law_joined) (C__law_take : Cal P w K mg base (cmOf K) "_law_take" 1 2 f__law_take) (C__law_wrong_part : Cal P w K mg base (cmOf K) "_law_wrong_part" 2 2 f__law_wrong_part) (C__law_wrong_head : Cal P w K mg base (cmOf K) "_law_wrong_head" 2 3 f__law_wrong_head) (C__law_refused : Cal P w K mg base (cmOf K) "_law_refused" 9 1 f__law_refused_v6) (Fd : FunD K "_law_texts_refused" "_law_texts_refused" (defArgs (top 49)) (defBody (top 49)) (defScope (top 49)) [] [] f fd) : FnOk P w K mg base (L2.CX P w) 10 f fd ["_law_draws_here", "_law_lines_here", "_law_kind_here", "_law_size"] (spOf K (cmOf K) 4 f__law_texts_refused) := by
  have ND : (["_law_draws_here", "_law_lines_here", "_law_kind_here", "_law_size", "_law_whole", "_law_at", "_law_wrong", "_law_spoilt", "_law_due", "_law_nothing"] : List Str).Nodup := sc__law_texts_refused.nd
  refine fn_ok (t := tNext) (n := 6) (l := [true, true, true, true]) (m := m__law_texts_refused) Fd sc__law_texts_refused rfl rfl fun cdv A outer s H E hr => ?_
  exact ⟨_, (sse_cons (se_asg (k_cal K C__law_joined (hr.mono (by decide : 1 ≤ 9)) (takes_of rfl rfl rfl rfl) (ce_cons (de_v 1) ce_nil) (ln_cons ln_nil)) (ge_v 4 ND))
  (sse_cons (se_asg (k_cal K C__law_take (hr.mono (by decide : 1 ≤ 9)) (takes_of rfl rfl rfl rfl) (ce_v 0 (ce_cons (de_cold (oe_op op_addX od_add (k_lenv K 1 Z.f_len) de_int)) ce_nil)) (ln_io (ln_cons ln_nil))) (ge_v 5 ND))
  (sse_cons (se_asg (k_cal K C__law_wrong_part (hr.mono (by decide : 2 ≤ 9)) (takes_of rfl rfl rfl rfl) (ce_v 0 (ce_cons (de_v 3) ce_nil)) (ln_io (ln_cons ln_nil))) (ge_v 6 ND))
  (sse_cons (se_if (te_cmp (k_eq K hr.units) od_eq (de_v 5) de_int (by rfl)) (sse_one (se_asg (k_cal K C__law_wrong_head (hr.mono (by decide : 2 ≤ 9)) (takes_of rfl rfl rfl rfl) (ce_v 0 (ce_cons (de_v 2) (ce_cons (de_v 3) ce_nil))) (ln_io (ln_cons (ln_cons ln_nil)))) (ge_v 6 ND))) sse_nil)
  (sse_cons (se_if (te_cmp op_lt od_lt (de_v 5) (k_lenv K 1 Z.f_len) (by rfl)) (sse_one (se_asg (oe_op op_addX od_add (de_cold (oe_op op_addX od_add (de_cold (k_sl K (de_v 1) op_none (op_some (de_v 5)))) (de_cold (oe_lst (ae_cons (de_v 6) ae_nil))))) (de_cold (k_sl K (de_v 1) (op_some (de_cold (oe_op op_addX od_add (de_v 5) de_int))) op_none))) (ge_v 7 ND))) (sse_one (se_asg (oe_op op_addX od_add (de_v 1) (de_cold (oe_lst (ae_cons (de_v 6) ae_nil)))) (ge_v 7 ND))))
  (sse_cons (se_asg (oe_lst (ae_cons (de_cold (oe_op op_addX od_add (de_v 5) de_int)) (ae_cons de_bl (ae_cons de_bl ae_nil)))) (ge_v 8 ND))
  (sse_cons (se_if (te_cmp (k_ne K hr.units) od_ne (de_cold (k_cal K C__law_refused (hr.mono (by decide : 9 ≤ 9)) (takes_of rfl rfl rfl rfl) (ce_cons (de_cold (k_cal K C__law_joined (hr.mono (by decide : 1 ≤ 9)) (takes_of rfl rfl rfl rfl) (ce_cons (de_v 7) ce_nil) (ln_cons ln_nil))) ce_nil) (ln_cons ln_nil))) (de_v 8) (by rfl)) (sse_one (se_ret (oe_val de_bl))) sse_nil)
  (sse_cons (se_if (te_cmp (k_ne K hr.units) od_ne (de_cold (k_cal K C__law_refused (hr.mono (by decide : 9 ≤ 9)) (takes_of rfl rfl rfl rfl) (ce_cons (de_cold (k_cal K C__law_joined (hr.mono (by decide : 1 ≤ 9)) (takes_of rfl rfl rfl rfl) (ce_cons (de_cold (oe_op op_addX od_add (de_v 7) (de_cold (oe_lst (ae_cons (de_cold (k_cal K C__law_wrong_part (hr.mono (by decide : 2 ≤ 9)) (takes_of rfl rfl rfl rfl) (ce_v 0 (ce_cons (de_v 3) ce_nil)) (ln_io (ln_cons ln_nil)))) ae_nil))))) ce_nil) (ln_cons ln_nil))) ce_nil) (ln_cons ln_nil))) (de_v 8) (by rfl)) (sse_one (se_ret (oe_val de_bl))) sse_nil)
  (sse_cons (se_if (te_cmp (k_ne K hr.units) od_ne (de_cold (k_cal K C__law_refused (hr.mono (by decide : 9 ≤ 9)) (takes_of rfl rfl rfl rfl) (ce_cons (de_cold (oe_slS (de_cold (k_cal K C__law_joined (hr.mono (by decide : 1 ≤ 9)) (takes_of rfl rfl rfl rfl) (ce_cons (de_v 7) ce_nil) (ln_cons ln_nil))) op_none (op_some (de_un un_neg ud_neg de_int)))) ce_nil) (ln_cons ln_nil))) (de_v 8) (by rfl)) (sse_one (se_ret (oe_val de_bl))) sse_nil)
  (sse_cons (se_if (te_cmp (k_ne K hr.units) od_ne (de_cold (k_cal K C__law_refused (hr.mono (by decide : 9 ≤ 9)) (takes_of rfl rfl rfl rfl) (ce_cons (de_cold (oe_slS (de_v 4) op_none (op_some (de_un un_neg ud_neg de_int)))) ce_nil) (ln_cons ln_nil))) (de_cold (oe_lst (ae_cons (k_lenv K 1 Z.f_len) (ae_cons de_bl (ae_cons de_bl ae_nil))))) (by rfl)) (sse_one (se_ret (oe_val de_bl))) sse_nil)
  (sse_cons (se_if (te_cmp (k_ne K hr.units) od_ne (de_cold (k_cal K C__law_refused (hr.mono (by decide : 9 ≤ 9)) (takes_of rfl rfl rfl rfl) (ce_cons (de_cold (oe_op op_addX od_add (de_v 4) de_str)) ce_nil) (ln_cons ln_nil))) (de_cold (oe_lst (ae_cons (de_cold (oe_op op_addX od_add (k_lenv K 1 Z.f_len) de_int)) (ae_cons de_bl (ae_cons de_bl ae_nil))))) (by rfl)) (sse_one (se_ret (oe_val de_bl))) sse_nil)
  (sse_cons (se_if (te_cmp (k_ne K hr.units) od_ne (de_cold (k_cal K C__law_refused (hr.mono (by decide : 9 ≤ 9)) (takes_of rfl rfl rfl rfl) (ce_cons (de_cold (oe_op op_addX od_add (de_v 4) de_str)) ce_nil) (ln_cons ln_nil))) (de_cold (oe_lst (ae_cons (de_cold (oe_op op_addX od_add (k_lenv K 1 Z.f_len) de_int)) (ae_cons de_bl (ae_cons de_bl ae_nil))))) (by rfl)) (sse_one (se_ret (oe_val de_bl))) sse_nil)
  (sse_cons (se_asg (oe_val (k_ix K (de_cold (oe_lst (ae_cons de_non (ae_cons de_int (ae_cons (de_cold (oe_lst (ae_cons (de_v 4) ae_nil))) ae_nil))))) (de_cold (k_cal K C__law_take (hr.mono (by decide : 1 ≤ 9)) (takes_of rfl rfl rfl rfl) (ce_v 0 (ce_cons de_int ce_nil)) (ln_io (ln_cons ln_nil)))))) (ge_v 9 ND))
  (sse_one (se_ret (oe_val (de_and (de_cold (oe_cmp (k_eq K hr.units) od_eq (de_cold (k_cal K C__law_refused (hr.mono (by decide : 9 ≤ 9)) (takes_of rfl rfl rfl rfl) (ce_cons de_str ce_nil) (ln_cons ln_nil))) (de_cold (oe_lst (ae_cons de_int (ae_cons de_bl (ae_cons de_bl ae_nil))))) (by rfl))) (de_one (oe_cmp (k_eq K hr.units) od_eq (de_cold (k_cal K C__law_refused (hr.mono (by decide : 9 ≤ 9)) (takes_of rfl rfl rfl rfl) (ce_cons (de_v 9) ce_nil) (ln_cons ln_nil))) (de_cold (oe_lst (ae_cons de_int (ae_cons de_bl (ae_cons de_bl ae_nil))))) (by rfl))))))))))))))))))))⟩
/-! law -/
theorem sc_law : FnScope ["_law_script", "_law_draws_here", "_law_kind_here", "_law_drawn", "_law_times", "_law_size", "_law_runs", "_law_run", "_law_absent", "_law_part", "_law_market_here", "_law_lines_here", "_law_whole", "_law_text", "_law_back", "_law_other", "_law_longer", "_law_widest"] ["_law_script"] (defScope (top 50)) := ⟨rfl, rfl, rfl, by decide +kernel, rfl, by decide +kernel, by decide +kernel⟩
theorem ok_law {f : Addr} {fd : FuncData} (Z : Zf P w K mg) (C__law_draws : Cal P w K mg base (cmOf K) "_law_draws" 1 1 f__law_draws) (C__law_kind : Cal P w K mg base (cmOf K) "_law_kind" 2 1 f__law_kind) (C__law_market : Cal P w K mg base (cmOf K) "_law_market" 3 2 f__law_market_v2) (C__law_take : Cal P w K mg base (cmOf K) "_law_take" 1 2 f__law_take) (C__law_built : Cal P w K mg base (cmOf K) "_law_built" 8 4 f__law_built) (C__law_lines : Cal P w K mg base (cmOf K) "_law_lines" 1 4 f__law_lines) (C__law_joined : Cal P w K mg base (cmOf K) "_law_joined" 1 1 f__law_joined) (C_market_text : Cal P w K mg base (cmOf K) "market_text" 1 1 f_market_text) (C_market_from : Cal P w K mg base (cmOf K) "market_from" 8 1 f_market_from) (C__law_texts_refused : Cal P w K mg base (cmOf K) "_law_texts_refused" 10 4 f__law_texts_refused) (N___eq__ : ∀ C f, List.lookup C ([("Join", f_Market___eq__), ("Lap", f_Market___eq__)] : List (Str × Fun')) = some f → MetE P w K mg base (cmOf K) ([("Join", f_Market___eq__), ("Lap", f_Market___eq__)] : List (Str × Fun')) C "__eq__" 1 2 f) (N___len__ : ∀ C f, List.lookup C ([("Join", f_Market___len__), ("Lap", f_Market___len__)] : List (Str × Fun')) = some f → Met P w K mg base (cmOf K) C "__len__" 1 1 f) (Fd : FunD K "law" "law" (defArgs (top 50)) (defBody (top 50)) (defScope (top 50)) [] [] f fd) : FnOk P w K mg base (L2.CX P w) 11 f fd ["_law_script"] (spOf K (cmOf K) 1 f_law_v7) := by
  have ND : (["_law_script", "_law_draws_here", "_law_kind_here", "_law_drawn", "_law_times", "_law_size", "_law_runs", "_law_run", "_law_absent", "_law_part", "_law_market_here", "_law_lines_here", "_law_whole", "_law_text", "_law_back", "_law_other", "_law_longer", "_law_widest"] : List Str).Nodup := sc_law.nd
  refine fn_ok (t := tNext) (n := 17) (l := [true]) (m := m_law_v7) Fd sc_law rfl rfl fun cdv A outer s H E hr => ?_
  exact ⟨_, (sse_cons (se_asg (k_cal K C__law_draws (hr.mono (by decide : 1 ≤ 10)) (takes_of rfl rfl rfl rfl) (ce_cons (de_v 0) ce_nil) (ln_cons ln_nil)) (ge_v 1 ND))
  (sse_cons (se_asg (k_cal K C__law_kind (hr.mono (by decide : 2 ≤ 10)) (takes_of rfl rfl rfl rfl) (ce_v 1 ce_nil) (ln_io ln_nil)) (ge_v 2 ND))
  (sse_cons (se_asg (k_cal K C__law_market (hr.mono (by decide : 3 ≤ 10)) (takes_of rfl rfl rfl rfl) (ce_v 1 (ce_cons de_int ce_nil)) (ln_io (ln_cons ln_nil))) (ge_v 3 ND))
  (sse_cons (se_asg (oe_val (k_ix K (de_cold (oe_lst (ae_cons de_int (ae_cons de_int ae_nil)))) (de_cold (k_cal K C__law_take (hr.mono (by decide : 1 ≤ 10)) (takes_of rfl rfl rfl rfl) (ce_v 1 (ce_cons de_int ce_nil)) (ln_io (ln_cons ln_nil)))))) (ge_v 4 ND))
  (sse_cons (se_asg (oe_op op_mul od_mul (k_ixv K 3 de_int) (de_v 4)) (ge_v 5 ND))
  (sse_cons (se_setLc (i := 6) rfl ND rfl rfl (by rfl) (k_seq K (k_ixv K 3 de_int)) (blk_ok (own := ([("_law_run", 7)] : List (Str × Nat))) (by kernel_rfl)) (fun _ _ _ _ _ => (ge_v 7 ND)) (fun _ _ _ _ _ => ifs_nil) (fun _ _ _ _ _ => (de_tup (ae_cons (de_cold (oe_op op_mul od_mul (k_ixv K 7 de_int) (de_v 4))) (ae_cons (de_cold (oe_op op_mul od_mul (k_ixv K 7 de_int) (de_v 4))) ae_nil)))))
  (sse_cons (se_setLc (i := 8) rfl ND rfl rfl (by rfl) (ie_range1 (by rfl) Z.f_range (k_lenv K 6 Z.f_len)) (blk_ok (own := ([("_law_part", 9)] : List (Str × Nat))) (by kernel_rfl)) (fun _ _ _ _ _ => (ge_v 9 ND)) (fun _ _ _ _ _ => (ifs_one (te_cmp (k_eq K hr.units) od_eq (de_cold (k_cal K C__law_take (hr.mono (by decide : 1 ≤ 10)) takes_WF (ce_v 1 (ce_cons de_int ce_nil)) (ln_io (ln_cons ln_nil)))) de_int (by rfl)))) (fun _ _ _ _ _ => (de_v 9)))
  (sse_cons (se_asg (k_cal K C__law_built (hr.mono (by decide : 8 ≤ 10)) (takes_of rfl rfl rfl rfl) (ce_cons (de_v 2) (ce_cons (de_v 5) (ce_cons (de_cold (oe_t1 (k_list K) cd_list (by rfl) Z.f_list (by decide +kernel) (de_v 6))) (ce_cons (de_cold (oe_t1 (k_list K) cd_list (by rfl) Z.f_list (by decide +kernel) (de_v 8))) ce_nil)))) (ln_cons (ln_cons (ln_cons (ln_cons ln_nil))))) (ge_v 10 ND))
  (sse_cons (se_asg (k_cal K C__law_lines (hr.mono (by decide : 1 ≤ 10)) (takes_of rfl rfl rfl rfl) (ce_cons (de_v 2) (ce_cons (de_v 5) (ce_cons (de_v 6) (ce_cons (de_v 8) ce_nil)))) (ln_cons (ln_cons (ln_cons (ln_cons ln_nil))))) (ge_v 11 ND))
  (sse_cons (se_asg (k_cal K C__law_joined (hr.mono (by decide : 1 ≤ 10)) (takes_of rfl rfl rfl rfl) (ce_cons (de_v 11) ce_nil) (ln_cons ln_nil)) (ge_v 12 ND))
  (sse_cons (se_asg (k_cal K C_market_text (hr.mono (by decide : 1 ≤ 10)) (takes_of rfl rfl rfl rfl) (ce_cons (de_v 10) ce_nil) (ln_cons ln_nil)) (ge_v 13 ND))
  (sse_cons (se_if (te_w (we_or (te_not (te_val (k_isT K isT_str Z.f_isinstance Z.f_str (by decide +kernel) (de_v 13)))) (we_or1 (te_cmp (k_ne K hr.units) od_ne (de_v 13) (de_v 12) (by rfl))))) (sse_one (se_ret (oe_val de_bl))) sse_nil)
  (sse_cons (se_asg (k_cal K C_market_from (hr.mono (by decide : 8 ≤ 10)) (takes_of rfl rfl rfl rfl) (ce_cons (de_v 12) ce_nil) (ln_cons ln_nil)) (ge_v 14 ND))
  (sse_cons (se_if (te_w (we_or (te_cmp (k_ne K hr.units) od_ne (k_con K Z.cn_KIND (de_v 14)) (de_v 2) (by rfl)) (we_or (te_cmp (k_ne K hr.units) od_ne (k_fv K 14 Z.fl_size) (de_v 5) (by rfl)) (we_or (te_cmp (k_ne K hr.units) od_ne (k_fv K 14 Z.fl_runs) (de_cold (oe_t1 (k_tuple K) cd_tuple (by rfl) Z.f_tuple (by decide +kernel) (de_v 6))) (by rfl)) (we_or1 (te_cmp (k_ne K hr.units) od_ne (k_fv K 14 Z.fl_gone) (de_cold (oe_t1 (k_tuple K) cd_tuple (by rfl) Z.f_tuple (by decide +kernel) (de_v 8))) (by rfl))))))) (sse_one (se_ret (oe_val de_bl))) sse_nil)
  (sse_cons (se_if (te_w (we_or (te_not (te_cmp (k_eqO K N___eq__ (hr.mono (by decide : 1 ≤ 10))) od_eqO (de_v 14) (de_v 10) (by rfl))) (we_or1 (te_cmp (k_ne K hr.units) od_ne (de_cold (k_cal K C_market_text (hr.mono (by decide : 1 ≤ 10)) (takes_of rfl rfl rfl rfl) (ce_cons (de_v 14) ce_nil) (ln_cons ln_nil))) (de_v 12) (by rfl))))) (sse_one (se_ret (oe_val de_bl))) sse_nil)
  (sse_cons (se_asg (k_cal K C__law_built (hr.mono (by decide : 8 ≤ 10)) (takes_of rfl rfl rfl rfl) (ce_cons (k_ix K (de_cold (oe_lst (ae_cons de_str (ae_cons de_str ae_nil)))) (de_cold (oe_t1 call_int1 cd_int (by rfl) Z.f_int (by decide +kernel) (de_cold (oe_cmp (k_eq K hr.units) od_eq (de_v 2) de_str (by rfl)))))) (ce_cons (de_v 5) (ce_cons (de_cold (oe_t1 (k_list K) cd_list (by rfl) Z.f_list (by decide +kernel) (de_v 6))) (ce_cons (de_cold (oe_t1 (k_list K) cd_list (by rfl) Z.f_list (by decide +kernel) (de_v 8))) ce_nil)))) (ln_cons (ln_cons (ln_cons (ln_cons ln_nil))))) (ge_v 15 ND))
  (sse_cons (se_if (te_w (we_or (te_cmp (k_eqO K N___eq__ (hr.mono (by decide : 1 ≤ 10))) od_eqO (de_v 14) (de_v 15) (by rfl)) (we_or1 (te_cmp (k_eq K hr.units) od_eq (de_cold (k_cal K C_market_text (hr.mono (by decide : 1 ≤ 10)) (takes_of rfl rfl rfl rfl) (ce_cons (de_v 15) ce_nil) (ln_cons ln_nil))) (de_v 12) (by rfl))))) (sse_one (se_ret (oe_val de_bl))) sse_nil)
  (sse_cons (se_asg (k_cal K C__law_built (hr.mono (by decide : 8 ≤ 10)) (takes_of rfl rfl rfl rfl) (ce_cons (de_v 2) (ce_cons (de_v 5) (ce_cons (de_cold (oe_op op_addX od_add (de_cold (oe_t1 (k_list K) cd_list (by rfl) Z.f_list (by decide +kernel) (de_v 6))) (de_cold (oe_lst (ae_cons (de_tup (ae_cons de_int (ae_cons (de_v 5) ae_nil))) ae_nil))))) (ce_cons (de_cold (oe_t1 (k_list K) cd_list (by rfl) Z.f_list (by decide +kernel) (de_v 8))) ce_nil)))) (ln_cons (ln_cons (ln_cons (ln_cons ln_nil))))) (ge_v 16 ND))
  (sse_cons (se_if (te_w (we_or (te_cmp (k_eqO K N___eq__ (hr.mono (by decide : 1 ≤ 10))) od_eqO (de_v 14) (de_v 16) (by rfl)) (we_or (te_cmp (k_eqO K N___eq__ (hr.mono (by decide : 1 ≤ 10))) od_eqO (de_cold (k_cal K C_market_from (hr.mono (by decide : 8 ≤ 10)) (takes_of rfl rfl rfl rfl) (ce_cons (de_cold (k_cal K C_market_text (hr.mono (by decide : 1 ≤ 10)) (takes_of rfl rfl rfl rfl) (ce_cons (de_v 16) ce_nil) (ln_cons ln_nil))) ce_nil) (ln_cons ln_nil))) (de_v 14) (by rfl)) (we_or1 (te_cmp (k_ne K hr.units) od_ne (de_cold (oe_b1 (call_lenO K N___len__ (hr.mono (by decide : 2 ≤ 10))) cd_lenO (by rfl) Z.f_len (by decide +kernel) (de_v 16))) (de_cold (oe_op op_addX od_add (k_lenv K 6 Z.f_len) de_int)) (by rfl)))))) (sse_one (se_ret (oe_val de_bl))) sse_nil)
  (sse_cons (se_asg (k_cal K C_market_from (hr.mono (by decide : 8 ≤ 10)) (takes_of rfl rfl rfl rfl) (ce_cons (de_cold (oe_op op_addX od_add (de_v 2) de_str)) ce_nil) (ln_cons ln_nil)) (ge_v 17 ND))
  (sse_cons (se_if (te_w (we_or (te_cmp (k_ne K hr.units) od_ne (k_fv K 17 Z.fl_size) de_int (by rfl)) (we_or (te_cmp (k_ne K hr.units) od_ne (k_fv K 17 Z.fl_runs) (de_tup ae_nil) (by rfl)) (we_or (te_cmp (k_ne K hr.units) od_ne (k_con K Z.cn_KIND (de_v 17)) (de_v 2) (by rfl)) (we_or1 (te_cmp (k_eqO K N___eq__ (hr.mono (by decide : 1 ≤ 10))) od_eqO (de_v 14) (de_v 17) (by rfl))))))) (sse_one (se_ret (oe_val de_bl))) sse_nil)
  (sse_cons (se_if (te_cmp (k_eqO K N___eq__ (hr.mono (by decide : 1 ≤ 10))) od_eqO (de_v 14) (de_cold (k_cal K C__law_built (hr.mono (by decide : 8 ≤ 10)) (takes_of rfl rfl rfl rfl) (ce_cons (de_v 2) (ce_cons (de_cold (oe_op op_addX od_add (de_v 5) de_int)) (ce_cons (de_cold (oe_t1 (k_list K) cd_list (by rfl) Z.f_list (by decide +kernel) (de_v 6))) (ce_cons (de_cold (oe_t1 (k_list K) cd_list (by rfl) Z.f_list (by decide +kernel) (de_v 8))) ce_nil)))) (ln_cons (ln_cons (ln_cons (ln_cons ln_nil)))))) (by rfl)) (sse_one (se_ret (oe_val de_bl))) sse_nil)
  (sse_cons (se_if (te_w (we_and (te_cmp op_gt od_gt (k_lenv K 8 Z.f_len) de_int (by rfl)) (we_and1 (te_cmp (k_eqO K N___eq__ (hr.mono (by decide : 1 ≤ 10))) od_eqO (de_v 14) (de_cold (k_cal K C__law_built (hr.mono (by decide : 8 ≤ 10)) (takes_of rfl rfl rfl rfl) (ce_cons (de_v 2) (ce_cons (de_v 5) (ce_cons (de_cold (oe_t1 (k_list K) cd_list (by rfl) Z.f_list (by decide +kernel) (de_v 6))) (ce_cons (de_cold (k_sl K (de_v 8) (op_some de_int) op_none)) ce_nil)))) (ln_cons (ln_cons (ln_cons (ln_cons ln_nil)))))) (by rfl))))) (sse_one (se_ret (oe_val de_bl))) sse_nil)
  (sse_one (se_ret (k_cal K C__law_texts_refused (hr.mono (by decide : 10 ≤ 10)) (takes_of rfl rfl rfl rfl) (ce_v 1 (ce_cons (de_v 11) (ce_cons (de_v 2) (ce_cons (de_v 5) ce_nil)))) (ln_io (ln_cons (ln_cons (ln_cons ln_nil))))))))))))))))))))))))))))))⟩
end
end L2.Fn.K01
set_option maxRecDepth 100000
set_option maxHeartbeats 0
namespace L2.Fn.K01
open PySem PySem.Spec PyProof.Rows L2 L2.Fn

def d_is_int : He.DefD := ⟨("is_int", none), "is_int", "is_int", defArgs (top 9), defBody (top 9), defScope (top 9), [], []⟩
def d_check_number : He.DefD := ⟨("check_number", none), "check_number", "check_number", defArgs (top 10), defBody (top 10), defScope (top 10), [], []⟩
def d_set_of : He.DefD := ⟨("set_of", none), "set_of", "set_of", defArgs (top 12), defBody (top 12), defScope (top 12), [], []⟩
def d_pair_of : He.DefD := ⟨("pair_of", none), "pair_of", "pair_of", defArgs (top 16), defBody (top 16), defScope (top 16), [], []⟩
def d__runs_of : He.DefD := ⟨("_runs_of", none), "_runs_of", "_runs_of", defArgs (top 17), defBody (top 17), defScope (top 17), [], []⟩
def d_Market___init__ : He.DefD := ⟨("Market", some "__init__"), "__init__", "Market.__init__", defArgs (meth 19 1), defBody (meth 19 1), defScope (meth 19 1), [], []⟩
def d_Join_as___len__ : He.DefD := ⟨("Join", some "__len__"), "__len__", "Market.__len__", defArgs (meth 19 6), defBody (meth 19 6), defScope (meth 19 6), [], []⟩
def d_Lap_as___len__ : He.DefD := ⟨("Lap", some "__len__"), "__len__", "Market.__len__", defArgs (meth 19 6), defBody (meth 19 6), defScope (meth 19 6), [], []⟩
def d_Join_as___eq__ : He.DefD := ⟨("Join", some "__eq__"), "__eq__", "Market.__eq__", defArgs (meth 19 9), defBody (meth 19 9), defScope (meth 19 9), [], []⟩
def d_Lap_as___eq__ : He.DefD := ⟨("Lap", some "__eq__"), "__eq__", "Market.__eq__", defArgs (meth 19 9), defBody (meth 19 9), defScope (meth 19 9), [], []⟩
def d_market_text : He.DefD := ⟨("market_text", none), "market_text", "market_text", defArgs (top 31), defBody (top 31), defScope (top 31), [], []⟩
def d__number : He.DefD := ⟨("_number", none), "_number", "_number", defArgs (top 32), defBody (top 32), defScope (top 32), [], []⟩
def d__head : He.DefD := ⟨("_head", none), "_head", "_head", defArgs (top 33), defBody (top 33), defScope (top 33), [], []⟩
def d__words : He.DefD := ⟨("_words", none), "_words", "_words", defArgs (top 34), defBody (top 34), defScope (top 34), [], []⟩
def d_market_from : He.DefD := ⟨("market_from", none), "market_from", "market_from", defArgs (top 35), defBody (top 35), defScope (top 35), [], []⟩
def d__law_draws : He.DefD := ⟨("_law_draws", none), "_law_draws", "_law_draws", defArgs (top 37), defBody (top 37), defScope (top 37), [], []⟩
def d__law_take : He.DefD := ⟨("_law_take", none), "_law_take", "_law_take", defArgs (top 38), defBody (top 38), defScope (top 38), [], []⟩
def d__law_chains : He.DefD := ⟨("_law_chains", none), "_law_chains", "_law_chains", defArgs (top 39), defBody (top 39), defScope (top 39), [], []⟩
def d__law_special : He.DefD := ⟨("_law_special", none), "_law_special", "_law_special", defArgs (top 40), defBody (top 40), defScope (top 40), [], []⟩
def d__law_market : He.DefD := ⟨("_law_market", none), "_law_market", "_law_market", defArgs (top 41), defBody (top 41), defScope (top 41), [], []⟩
def d__law_built : He.DefD := ⟨("_law_built", none), "_law_built", "_law_built", defArgs (top 42), defBody (top 42), defScope (top 42), [], []⟩
def d__law_kind : He.DefD := ⟨("_law_kind", none), "_law_kind", "_law_kind", defArgs (top 43), defBody (top 43), defScope (top 43), [], []⟩
def d__law_lines : He.DefD := ⟨("_law_lines", none), "_law_lines", "_law_lines", defArgs (top 44), defBody (top 44), defScope (top 44), [], []⟩
def d__law_joined : He.DefD := ⟨("_law_joined", none), "_law_joined", "_law_joined", defArgs (top 45), defBody (top 45), defScope (top 45), [], []⟩
def d__law_refused : He.DefD := ⟨("_law_refused", none), "_law_refused", "_law_refused", defArgs (top 46), defBody (top 46), defScope (top 46), [], []⟩
def d__law_wrong_head : He.DefD := ⟨("_law_wrong_head", none), "_law_wrong_head", "_law_wrong_head", defArgs (top 47), defBody (top 47), defScope (top 47), [], []⟩
def d__law_wrong_part : He.DefD := ⟨("_law_wrong_part", none), "_law_wrong_part", "_law_wrong_part", defArgs (top 48), defBody (top 48), defScope (top 48), [], []⟩
def d__law_texts_refused : He.DefD := ⟨("_law_texts_refused", none), "_law_texts_refused", "_law_texts_refused", defArgs (top 49), defBody (top 49), defScope (top 49), [], []⟩
def d_law : He.DefD := ⟨("law", none), "law", "law", defArgs (top 50), defBody (top 50), defScope (top 50), [], []⟩
def d_BadNumber___init__ : He.DefD := ⟨("BadNumber", some "__init__"), "__init__", "BadNumber.__init__", defArgs (meth 3 0), defBody (meth 3 0), defScope (meth 3 0), [], []⟩
def d_BadSet___init__ : He.DefD := ⟨("BadSet", some "__init__"), "__init__", "BadSet.__init__", defArgs (meth 5 0), defBody (meth 5 0), defScope (meth 5 0), [], []⟩
def d_BadRun___init__ : He.DefD := ⟨("BadRun", some "__init__"), "__init__", "BadRun.__init__", defArgs (meth 4 0), defBody (meth 4 0), defScope (meth 4 0), [], []⟩
def d_BadText___init__ : He.DefD := ⟨("BadText", some "__init__"), "__init__", "BadText.__init__", defArgs (meth 7 0), defBody (meth 7 0), defScope (meth 7 0), [], []⟩
def fnl : List He.DefD := [d_is_int, d_check_number, d_set_of, d_pair_of, d__runs_of, d_Market___init__, d_Join_as___len__, d_Lap_as___len__, d_Join_as___eq__, d_Lap_as___eq__, d_market_text, d__number, d__head, d__words, d_market_from, d__law_draws, d__law_take, d__law_chains, d__law_special, d__law_market, d__law_built, d__law_kind, d__law_lines, d__law_joined, d__law_refused, d__law_wrong_head, d__law_wrong_part, d__law_texts_refused, d_law, d_BadNumber___init__, d_BadSet___init__, d_BadRun___init__, d_BadText___init__]
def fal : List He.Fa := [.glo "is_int", .glo "check_number", .glo "set_of", .glo "pair_of", .glo "_runs_of", .glo "market_text", .glo "_number", .glo "_head", .glo "_words", .glo "market_from", .glo "_law_draws", .glo "_law_take", .glo "_law_chains", .glo "_law_special", .glo "_law_market", .glo "_law_built", .glo "_law_kind", .glo "_law_lines", .glo "_law_joined", .glo "_law_refused", .glo "_law_wrong_head", .glo "_law_wrong_part", .glo "_law_texts_refused", .glo "law", .glo "BadNumber", .glo "BadSet", .glo "BadRun", .glo "BadText", .glo "PartsError", .glo "Join", .glo "Lap", .glo "Market", .free "bool", .free "enumerate", .free "int", .free "isinstance", .free "len", .free "list", .free "min", .free "range", .free "sorted", .free "str", .free "tuple", .free "super", .meth "Join" "__eq__", .meth "Lap" "__eq__", .meth "Join" "__len__", .meth "Lap" "__len__", .cls "Join", .mkr "Join", .noat "Join" "size", .noat "Join" "runs", .noat "Join" "gone", .cls "Lap", .mkr "Lap", .noat "Lap" "size", .noat "Lap" "runs", .noat "Lap" "gone", .noat "BadText" "line", .noat "BadNumber" "name", .noat "BadSet" "place", .noat "BadRun" "place", .exm "BadSet" "BadSet" true, .exm "BadText" "BadText" true, .exm "BadText" "BadSet" false, .exm "BadText" "BadRun" false, .exm "BadText" "BadNumber" false, .exm "BadSet" "BadText" false, .exm "BadSet" "BadRun" false, .exm "BadSet" "BadNumber" false, .exm "BadRun" "BadText" false, .exm "BadRun" "BadSet" false, .exm "BadRun" "BadRun" true, .exm "BadRun" "BadNumber" false, .exm "BadNumber" "BadText" false, .exm "BadNumber" "BadSet" false, .exm "BadNumber" "BadRun" false, .exm "BadNumber" "BadNumber" true]
def exl (K : PySem.W.Frag) : List Bool := [oexB K (He.ga K "BadNumber"), initB K (He.ga K "BadNumber"), oexB K (He.ga K "BadSet"), initB K (He.ga K "BadSet"), oexB K (He.ga K "BadRun"), initB K (He.ga K "BadRun"), oexB K (He.ga K "BadText"), initB K (He.ga K "BadText"), excCB K (He.ga K "BadText"), isoB K (He.ga K "Join") (He.ga K "Market"), isoB K (He.ga K "Lap") (He.ga K "Market"), kinB K (He.ga K "BadText") (He.ga K "BadRun"), kitB K (He.ga K "BadText") (He.ga K "PartsError"), xfB K (He.ga K "BadText"), nfB K (He.ga K "Join") (He.ga K "Join"), nfB K (He.ga K "Join") (He.ga K "Lap"), nfB K (He.ga K "Lap") (He.ga K "Join"), nfB K (He.ga K "Lap") (He.ga K "Lap"), He.conB K "Join" "KIND" (.str "join"), He.conB K "Lap" "KIND" (.str "lap"), supB PW K "Join" "__init__" "Join.__init__" (He.ma K (He.ga K "Market") "__init__"), supB PW K "Lap" "__init__" "Lap.__init__" (He.ma K (He.ga K "Market") "__init__")]
def exb (K : PySem.W.Frag) : Bool := (exl K).all id
theorem ex_at {K : PySem.W.Frag} (h : exb K = true) (i : Nat) {b : Bool} (e : (exl K)[i]? = some b) : b = true := List.all_eq_true.mp h b (List.mem_of_getElem? e)
def swl (K : PySem.W.Frag) : List SupV := [supW K "Join" "__init__", supW K "Lap" "__init__"]
def svl : List SupV := [some ("__init__", "Join.__init__", defArgs (meth 28 1), .stmts (defBody (meth 28 1)), defScope (meth 28 1), mainGlobals, builtinsNs), some ("__init__", "Lap.__init__", defArgs (meth 29 1), .stmts (defBody (meth 29 1)), defScope (meth 29 1), mainGlobals, builtinsNs)]
end L2.Fn.K01
set_option maxRecDepth 100000
set_option maxHeartbeats 0
namespace L2.Fn.K01
open PySem PySem.Spec PyProof.Rows L2 L2.Fn
/-! ### the head -/
abbrev R : PySem.W.OpenRow := PySem.W.OpenLaw.row PySem.Challenge.rw_keptparts_k01_texts_and_back
def adrs : List Addr := [2, 3, 6, 4, 21, 31, 51, 70, 89, 101, 120, 129, 136, 143, 150, 155, 162, 169, 176, 250, 259, 264, 271, 276, 283, 290, 295, 302, 379, 458, 467, 472, 477, 484, 491, 498, 505, 512, 517, 524, 531, 538, 545, 550, 557, 564, 571, 578, 583, 0, 20, 30, 50, 69, 88, 100, 119, 128, 135, 142, 149, 154, 161, 168, 175, 249, 258, 263, 270, 275, 282, 289, 294, 301, 378, 457, 466, 471, 476, 483, 490, 497, 504, 511, 516, 523, 530, 537, 544, 549, 556, 563, 570, 577, 582, 15, 16, 17, 18, 19, 29, 32, 48, 49, 67, 68, 86, 87, 99, 117, 118, 123, 124, 125, 126, 127, 130, 131, 132, 133, 134, 137, 138, 139, 140, 141, 144, 145, 146, 147, 148, 151, 152, 153, 156, 157, 158, 159, 160, 163, 164, 165, 166, 167, 170, 171, 172, 173, 174, 192, 200, 207, 214, 219, 226, 233, 240, 247, 248, 251, 252, 255, 256, 257, 260, 261, 262, 265, 266, 267, 268, 269, 272, 273, 274, 277, 278, 279, 280, 281, 284, 285, 286, 287, 288, 291, 292, 293, 296, 297, 298, 299, 300, 320, 327, 334, 341, 348, 355, 362, 369, 376, 377, 399, 406, 413, 420, 427, 434, 441, 448, 455, 456, 461, 462, 463, 464, 465, 468, 469, 470, 473, 474, 475, 478, 479, 480, 481, 482, 485, 486, 487, 488, 489, 492, 493, 494, 495, 496, 499, 500, 501, 502, 503, 506, 507, 508, 509, 510, 513, 514, 515, 518, 519, 520, 521, 522, 525, 526, 527, 528, 529, 532, 533, 534, 535, 536, 539, 540, 541, 542, 543, 546, 547, 548, 551, 552, 553, 554, 555, 558, 559, 560, 561, 562, 565, 566, 567, 568, 569, 572, 573, 574, 575, 576, 579, 580, 581, 47, 66, 85, 116, 191, 185, 199, 206, 213, 218, 225, 232, 239, 246, 319, 312, 306, 326, 333, 340, 347, 354, 361, 368, 375, 398, 391, 385, 405, 412, 419, 426, 433, 440, 447, 454, 42, 43, 44, 45, 46, 61, 62, 63, 64, 65, 80, 81, 82, 83, 84, 111, 112, 113, 114, 115, 186, 187, 188, 189, 190, 184, 198, 201, 202, 203, 204, 205, 208, 209, 210, 211, 212, 215, 216, 217, 220, 221, 222, 223, 224, 227, 228, 229, 230, 231, 234, 235, 236, 237, 238, 241, 242, 243, 244, 245, 314, 315, 316, 317, 318, 311, 321, 322, 323, 324, 325, 328, 329, 330, 331, 332, 335, 336, 337, 338, 339, 342, 343, 344, 345, 346, 349, 350, 351, 352, 353, 356, 357, 358, 359, 360, 363, 364, 365, 366, 367, 370, 371, 372, 373, 374, 393, 394, 395, 396, 397, 390, 400, 401, 402, 403, 404, 407, 408, 409, 410, 411, 414, 415, 416, 417, 418, 421, 422, 423, 424, 425, 428, 429, 430, 431, 432, 435, 436, 437, 438, 439, 442, 443, 444, 445, 446, 449, 450, 451, 452, 453]
abbrev hk : PySem.W.Hook := hookL adrs fal fnl exb swl svl
def ob (s : PySem.W.SharedT) : AlF := obsL adrs fal fnl exb swl (HandSHeadRun.getT s)
theorem ob_eq (s : PySem.W.SharedT) : ob s = hk.obs s.abs := obsL_eq (HandSHeadRun.getT_eq s)
def names : List Str := (["_wall", "PartsError", "BadNumber", "BadRun", "BadSet", "NotJoin", "BadText", "is_int", "check_number", "set_of", "both", "minus", "pair_of", "_runs_of", "check_run", "Market", "_moved", "_all_gone", "_row_behind", "_turned", "_point_beside", "_row_beside", "_gone_often", "_check_kind", "Join", "Lap", "market_text", "_number", "_head", "_words"] : List Str) ++ (["market_from", "_law_draws", "_law_take", "_law_chains", "_law_special", "_law_market", "_law_built", "_law_kind", "_law_lines", "_law_joined", "_law_refused", "_law_wrong_head", "_law_wrong_part", "_law_texts_refused"] : List Str)
theorem run (w : World) : HandSHeadRun.RunEq R (PySem.W.view R.prog [50]) hk ob 20000 names w := by
  intro os
  kernel_rfl
end L2.Fn.K01
set_option maxRecDepth 100000
set_option maxHeartbeats 0
namespace L2.Fn.K01
open PySem PySem.Spec PyProof.Rows L2 L2.Fn
section
variable {w : World} {K : PySem.W.Frag} {mg : Str → Option Value} {base h : Heap}
theorem zf (X : K.In h) (G : h.Ns mainGlobals mg) (c : SaysF fal fnl exb swl svl K) : Zf PW w K mg where
  cn_KIND := fun C d e => by
    unfold CN_KIND at e
    rw [List.lookup_cons] at e
    split at e
    · rename_i q; cases e; rw [beq_iff_eq.mp q]
      obtain ⟨u, hu⟩ := He.conB_ok (ex_at c.ex 18 (b := He.conB K "Join" "KIND" (.str "join")) rfl)
      exact ⟨He.cls_ok (c.d.fact 48 (f := .cls "Join") rfl), _, u, hu, fun _ => .str⟩
    · rw [List.lookup_cons] at e
      split at e
      · rename_i q; cases e; rw [beq_iff_eq.mp q]
        obtain ⟨u, hu⟩ := He.conB_ok (ex_at c.ex 19 (b := He.conB K "Lap" "KIND" (.str "lap")) rfl)
        exact ⟨He.cls_ok (c.d.fact 53 (f := .cls "Lap") rfl), _, u, hu, fun _ => .str⟩
      · cases e
  ec_BadText := excCB_ok (ex_at c.ex 8 (b := excCB K (He.ga K "BadText")) rfl)
  exl_BadText := fun C b e => by
    unfold subOf at e
    split at e
    · rename_i q
      cases e
      rcases List.mem_cons.mp q with rfl | q
      · exact He.exm_ok (c.d.fact 63 (f := .exm "BadText" "BadText" true) rfl)
      rcases List.mem_cons.mp q with rfl | q
      · exact He.exm_ok (c.d.fact 67 (f := .exm "BadSet" "BadText" false) rfl)
      rcases List.mem_cons.mp q with rfl | q
      · exact He.exm_ok (c.d.fact 70 (f := .exm "BadRun" "BadText" false) rfl)
      rcases List.mem_cons.mp q with rfl | q
      · exact He.exm_ok (c.d.fact 74 (f := .exm "BadNumber" "BadText" false) rfl)
      cases q
    · cases e
  f_bool := He.free_ok X G (c.d.fact 32 (f := .free "bool") rfl)
  f_enumerate := He.free_ok X G (c.d.fact 33 (f := .free "enumerate") rfl)
  f_int := He.free_ok X G (c.d.fact 34 (f := .free "int") rfl)
  f_isinstance := He.free_ok X G (c.d.fact 35 (f := .free "isinstance") rfl)
  f_len := He.free_ok X G (c.d.fact 36 (f := .free "len") rfl)
  f_list := He.free_ok X G (c.d.fact 37 (f := .free "list") rfl)
  f_min := He.free_ok X G (c.d.fact 38 (f := .free "min") rfl)
  f_range := He.free_ok X G (c.d.fact 39 (f := .free "range") rfl)
  f_sorted := He.free_ok X G (c.d.fact 40 (f := .free "sorted") rfl)
  f_str := He.free_ok X G (c.d.fact 41 (f := .free "str") rfl)
  f_tuple := He.free_ok X G (c.d.fact 42 (f := .free "tuple") rfl)
  fl_gone := fun C hC => by
    rcases List.mem_cons.mp hC with rfl | hC
    · exact ⟨He.cls_ok (c.d.fact 48 (f := .cls "Join") rfl), He.noat_ok (c.d.fact 52 (f := .noat "Join" "gone") rfl)⟩
    · rcases List.mem_cons.mp hC with rfl | hC
      · exact ⟨He.cls_ok (c.d.fact 53 (f := .cls "Lap") rfl), He.noat_ok (c.d.fact 57 (f := .noat "Lap" "gone") rfl)⟩
      · cases hC
  fl_runs := fun C hC => by
    rcases List.mem_cons.mp hC with rfl | hC
    · exact ⟨He.cls_ok (c.d.fact 48 (f := .cls "Join") rfl), He.noat_ok (c.d.fact 51 (f := .noat "Join" "runs") rfl)⟩
    · rcases List.mem_cons.mp hC with rfl | hC
      · exact ⟨He.cls_ok (c.d.fact 53 (f := .cls "Lap") rfl), He.noat_ok (c.d.fact 56 (f := .noat "Lap" "runs") rfl)⟩
      · cases hC
  fl_size := fun C hC => by
    rcases List.mem_cons.mp hC with rfl | hC
    · exact ⟨He.cls_ok (c.d.fact 48 (f := .cls "Join") rfl), He.noat_ok (c.d.fact 50 (f := .noat "Join" "size") rfl)⟩
    · rcases List.mem_cons.mp hC with rfl | hC
      · exact ⟨He.cls_ok (c.d.fact 53 (f := .cls "Lap") rfl), He.noat_ok (c.d.fact 55 (f := .noat "Lap" "size") rfl)⟩
      · cases hC
  g_BadRun := He.glo_ok X G (c.d.fact 26 (f := .glo "BadRun") rfl)
  g_BadText := He.glo_ok X G (c.d.fact 27 (f := .glo "BadText") rfl)
  g_Market := He.glo_ok X G (c.d.fact 31 (f := .glo "Market") rfl)
  g_PartsError := He.glo_ok X G (c.d.fact 28 (f := .glo "PartsError") rfl)
  iso_Market := fun C hC => by
    rcases List.mem_cons.mp hC with rfl | hC
    · exact isoB_ok (He.cls_ok (c.d.fact 48 (f := .cls "Join") rfl)) (ex_at c.ex 9 (b := isoB K (He.ga K "Join") (He.ga K "Market")) rfl)
    · rcases List.mem_cons.mp hC with rfl | hC
      · exact isoB_ok (He.cls_ok (c.d.fact 53 (f := .cls "Lap") rfl)) (ex_at c.ex 10 (b := isoB K (He.ga K "Lap") (He.ga K "Market")) rfl)
      · cases hC
  kin_BadText_BadRun := of_decide_eq_true (ex_at c.ex 11 (b := kinB K (He.ga K "BadText") (He.ga K "BadRun")) rfl)
  kit_BadText_PartsError := of_decide_eq_true (ex_at c.ex 12 (b := kitB K (He.ga K "BadText") (He.ga K "PartsError")) rfl)
  no_BadText_line := He.noat_ok (c.d.fact 58 (f := .noat "BadText" "line") rfl)
  xf_BadText := xfB_ok (ex_at c.ex 13 (b := xfB K (He.ga K "BadText")) rfl)
theorem sc_BadNumber : FnScope ["self", "name"] ["self", "name"] (defScope (meth 3 0)) := ⟨rfl, rfl, rfl, by decide +kernel, rfl, by decide +kernel, by decide +kernel⟩
theorem err_BadNumber (X : K.In h) (G : h.Ns mainGlobals mg) (c : SaysF fal fnl exb swl svl K) : ErrP PW w K mg base (cmOf K) "BadNumber" "name" := by
  obtain ⟨fd, F⟩ := c.d.def_ 29 (d := d_BadNumber___init__) rfl
  have hi := ex_at c.ex 1 (b := initB K (He.ga K "BadNumber")) rfl
  exact ⟨oexB_ok (ex_at c.ex 0 (b := oexB K (He.ga K "BadNumber")) rfl), of_decide_eq_true (Bool.and_eq_true_iff.mp hi).1, of_decide_eq_true (Bool.and_eq_true_iff.mp hi).2, ⟨fd, _, exc_init F sc_BadNumber rfl rfl (oexB_ok (ex_at c.ex 0 (b := oexB K (He.ga K "BadNumber")) rfl)) (He.noat_ok (c.d.fact 59 (f := .noat "BadNumber" "name") rfl)), FunD.bindsN F fun _ _ _ _ _ _ us hl => match us, hl with | [_, _], _ => rfl⟩, He.glo_ok X G (c.d.fact 24 (f := .glo "BadNumber") rfl)⟩
theorem sc_BadSet : FnScope ["self", "place"] ["self", "place"] (defScope (meth 5 0)) := ⟨rfl, rfl, rfl, by decide +kernel, rfl, by decide +kernel, by decide +kernel⟩
theorem err_BadSet (X : K.In h) (G : h.Ns mainGlobals mg) (c : SaysF fal fnl exb swl svl K) : ErrP PW w K mg base (cmOf K) "BadSet" "place" := by
  obtain ⟨fd, F⟩ := c.d.def_ 30 (d := d_BadSet___init__) rfl
  have hi := ex_at c.ex 3 (b := initB K (He.ga K "BadSet")) rfl
  exact ⟨oexB_ok (ex_at c.ex 2 (b := oexB K (He.ga K "BadSet")) rfl), of_decide_eq_true (Bool.and_eq_true_iff.mp hi).1, of_decide_eq_true (Bool.and_eq_true_iff.mp hi).2, ⟨fd, _, exc_init F sc_BadSet rfl rfl (oexB_ok (ex_at c.ex 2 (b := oexB K (He.ga K "BadSet")) rfl)) (He.noat_ok (c.d.fact 60 (f := .noat "BadSet" "place") rfl)), FunD.bindsN F fun _ _ _ _ _ _ us hl => match us, hl with | [_, _], _ => rfl⟩, He.glo_ok X G (c.d.fact 25 (f := .glo "BadSet") rfl)⟩
theorem sc_BadRun : FnScope ["self", "place"] ["self", "place"] (defScope (meth 4 0)) := ⟨rfl, rfl, rfl, by decide +kernel, rfl, by decide +kernel, by decide +kernel⟩
theorem err_BadRun (X : K.In h) (G : h.Ns mainGlobals mg) (c : SaysF fal fnl exb swl svl K) : ErrP PW w K mg base (cmOf K) "BadRun" "place" := by
  obtain ⟨fd, F⟩ := c.d.def_ 31 (d := d_BadRun___init__) rfl
  have hi := ex_at c.ex 5 (b := initB K (He.ga K "BadRun")) rfl
  exact ⟨oexB_ok (ex_at c.ex 4 (b := oexB K (He.ga K "BadRun")) rfl), of_decide_eq_true (Bool.and_eq_true_iff.mp hi).1, of_decide_eq_true (Bool.and_eq_true_iff.mp hi).2, ⟨fd, _, exc_init F sc_BadRun rfl rfl (oexB_ok (ex_at c.ex 4 (b := oexB K (He.ga K "BadRun")) rfl)) (He.noat_ok (c.d.fact 61 (f := .noat "BadRun" "place") rfl)), FunD.bindsN F fun _ _ _ _ _ _ us hl => match us, hl with | [_, _], _ => rfl⟩, He.glo_ok X G (c.d.fact 26 (f := .glo "BadRun") rfl)⟩
theorem sc_BadText : FnScope ["self", "line"] ["self", "line"] (defScope (meth 7 0)) := ⟨rfl, rfl, rfl, by decide +kernel, rfl, by decide +kernel, by decide +kernel⟩
theorem err_BadText (X : K.In h) (G : h.Ns mainGlobals mg) (c : SaysF fal fnl exb swl svl K) : ErrP PW w K mg base (cmOf K) "BadText" "line" := by
  obtain ⟨fd, F⟩ := c.d.def_ 32 (d := d_BadText___init__) rfl
  have hi := ex_at c.ex 7 (b := initB K (He.ga K "BadText")) rfl
  exact ⟨oexB_ok (ex_at c.ex 6 (b := oexB K (He.ga K "BadText")) rfl), of_decide_eq_true (Bool.and_eq_true_iff.mp hi).1, of_decide_eq_true (Bool.and_eq_true_iff.mp hi).2, ⟨fd, _, exc_init F sc_BadText rfl rfl (oexB_ok (ex_at c.ex 6 (b := oexB K (He.ga K "BadText")) rfl)) (He.noat_ok (c.d.fact 58 (f := .noat "BadText" "line") rfl)), FunD.bindsN F fun _ _ _ _ _ _ us hl => match us, hl with | [_, _], _ => rfl⟩, He.glo_ok X G (c.d.fact 27 (f := .glo "BadText") rfl)⟩
theorem sc_Join : SupScope ["self", "size", "runs", "gone"] ["self", "size", "runs", "gone"] (defScope (meth 28 1)) "self" := ⟨rfl, rfl, rfl, by decide +kernel, rfl, rfl, by decide +kernel, by decide +kernel, by decide +kernel, by decide +kernel, by decide +kernel⟩
theorem mak_Join (X : K.In h) (G : h.Ns mainGlobals mg) (c : SaysF fal fnl exb swl svl K) {fdM : FuncData} (FM : FnOk PW w K mg base (L2.CX PW w) 5 (He.ma K (He.ga K "Market") "__init__") fdM ["self", "size", "runs", "gone"] (spOf K (cmOf K) 4 f_Market___init__))
    (hb : KBn K fdM ["self", "size", "runs", "gone"] 3 ["gone"] (fun us ws => us ++ ws) (fun vs zs => vs ++ zs)) : Mak PW w K mg base (cmOf K) "Join" 6 2 ["gone"] f_Join___init__ := by
  have hw : supW K "Join" "__init__" = _ := Option.some.inj (congrArg (fun l : List SupV => l[0]?) c.sw)
  obtain ⟨⟨fd, Sd⟩, Sc⟩ := sup_ok (ex_at c.ex 20 (b := supB PW K "Join" "__init__" "Join.__init__" (He.ma K (He.ga K "Market") "__init__")) rfl) hw
  refine ⟨⟨fd, _, _, fn_sup4 (cm := cmOf K) (C := "Join") Sd sc_Join Sc rfl FM hb (He.free_ok X G (c.d.fact 43 (f := .free "super") rfl)) (by decide +kernel) (by decide) (by decide +kernel) (fun _ _ => rfl) (fun _ _ => rfl) (fun _ => ⟨_, rfl⟩) (fun _ => rfl) (fun _ => rfl) (fun _ => rfl) (fun _ => rfl) (fun _ => rfl) (by decide +kernel), Sd.kall fun _ _ _ _ _ _ _ us ws h1 h2 => match us, ws, h1, h2 with | [_, _, _], [_], _, _ => rfl⟩, He.mkr_ok (c.d.fact 49 (f := .mkr "Join") rfl), He.glo_ok X G (c.d.fact 29 (f := .glo "Join") rfl)⟩
theorem sc_Lap : SupScope ["self", "size", "runs", "gone"] ["self", "size", "runs", "gone"] (defScope (meth 29 1)) "self" := ⟨rfl, rfl, rfl, by decide +kernel, rfl, rfl, by decide +kernel, by decide +kernel, by decide +kernel, by decide +kernel, by decide +kernel⟩
theorem mak_Lap (X : K.In h) (G : h.Ns mainGlobals mg) (c : SaysF fal fnl exb swl svl K) {fdM : FuncData} (FM : FnOk PW w K mg base (L2.CX PW w) 5 (He.ma K (He.ga K "Market") "__init__") fdM ["self", "size", "runs", "gone"] (spOf K (cmOf K) 4 f_Market___init__))
    (hb : KBn K fdM ["self", "size", "runs", "gone"] 3 ["gone"] (fun us ws => us ++ ws) (fun vs zs => vs ++ zs)) : Mak PW w K mg base (cmOf K) "Lap" 6 2 ["gone"] f_Lap___init__ := by
  have hw : supW K "Lap" "__init__" = _ := Option.some.inj (congrArg (fun l : List SupV => l[1]?) c.sw)
  obtain ⟨⟨fd, Sd⟩, Sc⟩ := sup_ok (ex_at c.ex 21 (b := supB PW K "Lap" "__init__" "Lap.__init__" (He.ma K (He.ga K "Market") "__init__")) rfl) hw
  refine ⟨⟨fd, _, _, fn_sup4 (cm := cmOf K) (C := "Lap") Sd sc_Lap Sc rfl FM hb (He.free_ok X G (c.d.fact 43 (f := .free "super") rfl)) (by decide +kernel) (by decide) (by decide +kernel) (fun _ _ => rfl) (fun _ _ => rfl) (fun _ => ⟨_, rfl⟩) (fun _ => rfl) (fun _ => rfl) (fun _ => rfl) (fun _ => rfl) (fun _ => rfl) (by decide +kernel), Sd.kall fun _ _ _ _ _ _ _ us ws h1 h2 => match us, ws, h1, h2 with | [_, _, _], [_], _, _ => rfl⟩, He.mkr_ok (c.d.fact 54 (f := .mkr "Lap") rfl), He.glo_ok X G (c.d.fact 30 (f := .glo "Lap") rfl)⟩
theorem asm (X : K.In h) (G : h.Ns mainGlobals mg) (c : SaysF fal fnl exb swl svl K) : ∃ fd, (∀ (s : Shared) (u : Value), BindsTo s fd ⟨[u], []⟩ [("_law_script", u)]) ∧ ∀ base : Heap, K.In base → base.Ns mainGlobals mg → FnOk PW w K mg base (L2.CX PW w) 11 (He.ga K "law") fd ["_law_script"] (spOf K (cmOf K) 1 f_law_v7) := by
  have Z := zf (w := w) X G c
  obtain ⟨fd_is_int, F_is_int⟩ := c.d.def_ 0 (d := d_is_int) rfl
  obtain ⟨fd_check_number, F_check_number⟩ := c.d.def_ 1 (d := d_check_number) rfl
  obtain ⟨fd_set_of, F_set_of⟩ := c.d.def_ 2 (d := d_set_of) rfl
  obtain ⟨fd_pair_of, F_pair_of⟩ := c.d.def_ 3 (d := d_pair_of) rfl
  obtain ⟨fd__runs_of, F__runs_of⟩ := c.d.def_ 4 (d := d__runs_of) rfl
  obtain ⟨fd_Market___init__, F_Market___init__⟩ := c.d.def_ 5 (d := d_Market___init__) rfl
  obtain ⟨fd_Join_as___len__, F_Join_as___len__⟩ := c.d.def_ 6 (d := d_Join_as___len__) rfl
  obtain ⟨fd_Lap_as___len__, F_Lap_as___len__⟩ := c.d.def_ 7 (d := d_Lap_as___len__) rfl
  obtain ⟨fd_Join_as___eq__, F_Join_as___eq__⟩ := c.d.def_ 8 (d := d_Join_as___eq__) rfl
  obtain ⟨fd_Lap_as___eq__, F_Lap_as___eq__⟩ := c.d.def_ 9 (d := d_Lap_as___eq__) rfl
  obtain ⟨fd_market_text, F_market_text⟩ := c.d.def_ 10 (d := d_market_text) rfl
  obtain ⟨fd__number, F__number⟩ := c.d.def_ 11 (d := d__number) rfl
  obtain ⟨fd__head, F__head⟩ := c.d.def_ 12 (d := d__head) rfl
  obtain ⟨fd__words, F__words⟩ := c.d.def_ 13 (d := d__words) rfl
  obtain ⟨fd_market_from, F_market_from⟩ := c.d.def_ 14 (d := d_market_from) rfl
  obtain ⟨fd__law_draws, F__law_draws⟩ := c.d.def_ 15 (d := d__law_draws) rfl
  obtain ⟨fd__law_take, F__law_take⟩ := c.d.def_ 16 (d := d__law_take) rfl
  obtain ⟨fd__law_chains, F__law_chains⟩ := c.d.def_ 17 (d := d__law_chains) rfl
  obtain ⟨fd__law_special, F__law_special⟩ := c.d.def_ 18 (d := d__law_special) rfl
  obtain ⟨fd__law_market, F__law_market⟩ := c.d.def_ 19 (d := d__law_market) rfl
  obtain ⟨fd__law_built, F__law_built⟩ := c.d.def_ 20 (d := d__law_built) rfl
  obtain ⟨fd__law_kind, F__law_kind⟩ := c.d.def_ 21 (d := d__law_kind) rfl
  obtain ⟨fd__law_lines, F__law_lines⟩ := c.d.def_ 22 (d := d__law_lines) rfl
  obtain ⟨fd__law_joined, F__law_joined⟩ := c.d.def_ 23 (d := d__law_joined) rfl
  obtain ⟨fd__law_refused, F__law_refused⟩ := c.d.def_ 24 (d := d__law_refused) rfl
  obtain ⟨fd__law_wrong_head, F__law_wrong_head⟩ := c.d.def_ 25 (d := d__law_wrong_head) rfl
  obtain ⟨fd__law_wrong_part, F__law_wrong_part⟩ := c.d.def_ 26 (d := d__law_wrong_part) rfl
  obtain ⟨fd__law_texts_refused, F__law_texts_refused⟩ := c.d.def_ 27 (d := d__law_texts_refused) rfl
  obtain ⟨fd_law, F_law⟩ := c.d.def_ 28 (d := d_law) rfl
  refine ⟨fd_law, fun s u => FunD.bindsA (ps := ["_law_script"]) F_law (fun _ _ _ _ _ _ us hl => match us, hl with | [_], _ => rfl) s [u] rfl, fun base _ _ => ?_⟩
  have E_BadNumber := err_BadNumber (w := w) (base := base) X G c
  have E_BadSet := err_BadSet (w := w) (base := base) X G c
  have E_BadRun := err_BadRun (w := w) (base := base) X G c
  have E_BadText := err_BadText (w := w) (base := base) X G c
  have C_is_int : Cal PW w K mg base (cmOf K) "is_int" 1 1 f_is_int := ⟨⟨fd_is_int, ["value"], ok_is_int Z F_is_int, FunD.bindsN F_is_int fun _ _ _ _ _ _ us hl => match us, hl with | [_], _ => rfl⟩, He.glo_ok X G (c.d.fact 0 (f := .glo "is_int") rfl), F_is_int.kp⟩
  have C_check_number : Cal PW w K mg base (cmOf K) "check_number" 3 4 f_check_number := ⟨⟨fd_check_number, ["value", "name", "least", "most"], ok_check_number Z C_is_int E_BadNumber F_check_number, FunD.bindsN F_check_number fun _ _ _ _ _ _ us hl => match us, hl with | [_, _, _, _], _ => rfl⟩, He.glo_ok X G (c.d.fact 1 (f := .glo "check_number") rfl), F_check_number.kp⟩
  have C_set_of : Cal PW w K mg base (cmOf K) "set_of" 4 2 f_set_of := ⟨⟨fd_set_of, ["many", "parts"], ok_set_of Z C_check_number C_is_int E_BadSet F_set_of, FunD.bindsN F_set_of fun _ _ _ _ _ _ us hl => match us, hl with | [_, _], _ => rfl⟩, He.glo_ok X G (c.d.fact 2 (f := .glo "set_of") rfl), F_set_of.kp⟩
  have C_pair_of : Cal PW w K mg base (cmOf K) "pair_of" 2 2 f_pair_of := ⟨⟨fd_pair_of, ["size", "run"], ok_pair_of Z C_is_int F_pair_of, FunD.bindsN F_pair_of fun _ _ _ _ _ _ us hl => match us, hl with | [_, _], _ => rfl⟩, He.glo_ok X G (c.d.fact 3 (f := .glo "pair_of") rfl), F_pair_of.kp⟩
  have C__runs_of : Cal PW w K mg base (cmOf K) "_runs_of" 3 2 f__runs_of := ⟨⟨fd__runs_of, ["size", "runs"], ok__runs_of Z C_pair_of E_BadRun F__runs_of, FunD.bindsN F__runs_of fun _ _ _ _ _ _ us hl => match us, hl with | [_, _], _ => rfl⟩, He.glo_ok X G (c.d.fact 4 (f := .glo "_runs_of") rfl), F__runs_of.kp⟩
  have hb : KBn K fd_Market___init__ ["self", "size", "runs", "gone"] 3 ["gone"] (fun us ws => us ++ ws) (fun vs zs => vs ++ zs) := FunD.kall F_Market___init__ fun _ _ _ _ _ _ us ws h1 h2 => match us, ws, h1, h2 with | [_, _, _], [_], _, _ => rfl
  have FM := ok_Market___init__ (base := base) Z C_check_number C__runs_of C_set_of F_Market___init__
  have M_Join := mak_Join (w := w) X G c FM hb
  have M_Lap := mak_Lap (w := w) X G c FM hb
  have T_Join_as___len__ : Met PW w K mg base (cmOf K) "Join" "__len__" 1 1 f_Market___len__ := ⟨He.cls_ok (c.d.fact 48 (f := .cls "Join") rfl), 1, _, fd_Join_as___len__, ["self"], Nat.le_refl _, He.meth_ok (c.d.fact 46 (f := .meth "Join" "__len__") rfl), ok_Market___len__ Z F_Join_as___len__, FunD.bindsN F_Join_as___len__ fun _ _ _ _ _ _ us hl => match us, hl with | [_], _ => rfl⟩
  have T_Lap_as___len__ : Met PW w K mg base (cmOf K) "Lap" "__len__" 1 1 f_Market___len__ := ⟨He.cls_ok (c.d.fact 53 (f := .cls "Lap") rfl), 1, _, fd_Lap_as___len__, ["self"], Nat.le_refl _, He.meth_ok (c.d.fact 47 (f := .meth "Lap" "__len__") rfl), ok_Market___len__ Z F_Lap_as___len__, FunD.bindsN F_Lap_as___len__ fun _ _ _ _ _ _ us hl => match us, hl with | [_], _ => rfl⟩
  have N___len__ : ∀ C f, List.lookup C ([("Join", f_Market___len__), ("Lap", f_Market___len__)] : List (Str × Fun')) = some f → Met PW w K mg base (cmOf K) C "__len__" 1 1 f := met_all fun q hq => by
    rcases List.mem_cons.mp hq with rfl | hq
    · exact T_Join_as___len__
    rcases List.mem_cons.mp hq with rfl | hq
    · exact T_Lap_as___len__
    cases hq
  have T_Join_as___eq__ : Met PW w K mg base (cmOf K) "Join" "__eq__" 1 2 f_Market___eq__ := ⟨He.cls_ok (c.d.fact 48 (f := .cls "Join") rfl), 1, _, fd_Join_as___eq__, ["self", "other"], Nat.le_refl _, He.meth_ok (c.d.fact 44 (f := .meth "Join" "__eq__") rfl), ok_Market___eq__ Z F_Join_as___eq__, FunD.bindsN F_Join_as___eq__ fun _ _ _ _ _ _ us hl => match us, hl with | [_, _], _ => rfl⟩
  have T_Lap_as___eq__ : Met PW w K mg base (cmOf K) "Lap" "__eq__" 1 2 f_Market___eq__ := ⟨He.cls_ok (c.d.fact 53 (f := .cls "Lap") rfl), 1, _, fd_Lap_as___eq__, ["self", "other"], Nat.le_refl _, He.meth_ok (c.d.fact 45 (f := .meth "Lap" "__eq__") rfl), ok_Market___eq__ Z F_Lap_as___eq__, FunD.bindsN F_Lap_as___eq__ fun _ _ _ _ _ _ us hl => match us, hl with | [_, _], _ => rfl⟩
  have N___eq__ : ∀ C f, List.lookup C ([("Join", f_Market___eq__), ("Lap", f_Market___eq__)] : List (Str × Fun')) = some f → MetE PW w K mg base (cmOf K) ([("Join", f_Market___eq__), ("Lap", f_Market___eq__)] : List (Str × Fun')) C "__eq__" 1 2 f := metE_all _ fun q hq => by
    rcases List.mem_cons.mp hq with rfl | hq
    · exact ⟨T_Join_as___eq__, lk_all (P := fun C2 => PySem.W.notFirst K (cmOf K "Join") (.ref (cmOf K C2)) = true) _ fun q hq => by
        rcases List.mem_cons.mp hq with rfl | hq
        · exact ex_at c.ex 14 (b := nfB K (He.ga K "Join") (He.ga K "Join")) rfl
        rcases List.mem_cons.mp hq with rfl | hq
        · exact ex_at c.ex 15 (b := nfB K (He.ga K "Join") (He.ga K "Lap")) rfl
        cases hq⟩
    rcases List.mem_cons.mp hq with rfl | hq
    · exact ⟨T_Lap_as___eq__, lk_all (P := fun C2 => PySem.W.notFirst K (cmOf K "Lap") (.ref (cmOf K C2)) = true) _ fun q hq => by
        rcases List.mem_cons.mp hq with rfl | hq
        · exact ex_at c.ex 16 (b := nfB K (He.ga K "Lap") (He.ga K "Join")) rfl
        rcases List.mem_cons.mp hq with rfl | hq
        · exact ex_at c.ex 17 (b := nfB K (He.ga K "Lap") (He.ga K "Lap")) rfl
        cases hq⟩
    cases hq
  have C_market_text : Cal PW w K mg base (cmOf K) "market_text" 1 1 f_market_text := ⟨⟨fd_market_text, ["market"], ok_market_text Z F_market_text, FunD.bindsN F_market_text fun _ _ _ _ _ _ us hl => match us, hl with | [_], _ => rfl⟩, He.glo_ok X G (c.d.fact 5 (f := .glo "market_text") rfl), F_market_text.kp⟩
  have C__number : Cal PW w K mg base (cmOf K) "_number" 1 1 f__number := ⟨⟨fd__number, ["word"], ok__number Z F__number, FunD.bindsN F__number fun _ _ _ _ _ _ us hl => match us, hl with | [_], _ => rfl⟩, He.glo_ok X G (c.d.fact 6 (f := .glo "_number") rfl), F__number.kp⟩
  have C__head : Cal PW w K mg base (cmOf K) "_head" 3 1 f__head := ⟨⟨fd__head, ["line"], ok__head Z C__number E_BadText E_BadNumber F__head, FunD.bindsN F__head fun _ _ _ _ _ _ us hl => match us, hl with | [_], _ => rfl⟩, He.glo_ok X G (c.d.fact 7 (f := .glo "_head") rfl), F__head.kp⟩
  have C__words : Cal PW w K mg base (cmOf K) "_words" 3 2 f__words := ⟨⟨fd__words, ["line", "number"], ok__words Z C__number E_BadText F__words, FunD.bindsN F__words fun _ _ _ _ _ _ us hl => match us, hl with | [_, _], _ => rfl⟩, He.glo_ok X G (c.d.fact 8 (f := .glo "_words") rfl), F__words.kp⟩
  have C_market_from : Cal PW w K mg base (cmOf K) "market_from" 8 1 f_market_from := ⟨⟨fd_market_from, ["text"], ok_market_from Z C__head C__words C_pair_of M_Join M_Lap E_BadText E_BadRun F_market_from, FunD.bindsN F_market_from fun _ _ _ _ _ _ us hl => match us, hl with | [_], _ => rfl⟩, He.glo_ok X G (c.d.fact 9 (f := .glo "market_from") rfl), F_market_from.kp⟩
  have C__law_draws : Cal PW w K mg base (cmOf K) "_law_draws" 1 1 f__law_draws := ⟨⟨fd__law_draws, ["_law_script"], ok__law_draws Z F__law_draws, FunD.bindsN F__law_draws fun _ _ _ _ _ _ us hl => match us, hl with | [_], _ => rfl⟩, He.glo_ok X G (c.d.fact 10 (f := .glo "_law_draws") rfl), F__law_draws.kp⟩
  have C__law_take : Cal PW w K mg base (cmOf K) "_law_take" 1 2 f__law_take := ⟨⟨fd__law_take, ["_law_draws_here", "_law_many"], ok__law_take Z F__law_take, FunD.bindsN F__law_take fun _ _ _ _ _ _ us hl => match us, hl with | [_, _], _ => rfl⟩, He.glo_ok X G (c.d.fact 11 (f := .glo "_law_take") rfl), F__law_take.kp⟩
  have C__law_chains : Cal PW w K mg base (cmOf K) "_law_chains" 2 2 f__law_chains := ⟨⟨fd__law_chains, ["_law_draws_here", "_law_size"], ok__law_chains Z C__law_take F__law_chains, FunD.bindsN F__law_chains fun _ _ _ _ _ _ us hl => match us, hl with | [_, _], _ => rfl⟩, He.glo_ok X G (c.d.fact 12 (f := .glo "_law_chains") rfl), F__law_chains.kp⟩
  have C__law_special : Cal PW w K mg base (cmOf K) "_law_special" 2 1 f__law_special_v2 := ⟨⟨fd__law_special, ["_law_draws_here"], ok__law_special Z C__law_take F__law_special, FunD.bindsN F__law_special fun _ _ _ _ _ _ us hl => match us, hl with | [_], _ => rfl⟩, He.glo_ok X G (c.d.fact 13 (f := .glo "_law_special") rfl), F__law_special.kp⟩
  have C__law_market : Cal PW w K mg base (cmOf K) "_law_market" 3 2 f__law_market_v2 := ⟨⟨fd__law_market, ["_law_draws_here", "_law_most"], ok__law_market Z C__law_take C__law_special C__law_chains F__law_market, FunD.bindsN F__law_market fun _ _ _ _ _ _ us hl => match us, hl with | [_, _], _ => rfl⟩, He.glo_ok X G (c.d.fact 14 (f := .glo "_law_market") rfl), F__law_market.kp⟩
  have C__law_built : Cal PW w K mg base (cmOf K) "_law_built" 8 4 f__law_built := ⟨⟨fd__law_built, ["_law_kind_here", "_law_size", "_law_runs", "_law_absent"], ok__law_built Z M_Join M_Lap F__law_built, FunD.bindsN F__law_built fun _ _ _ _ _ _ us hl => match us, hl with | [_, _, _, _], _ => rfl⟩, He.glo_ok X G (c.d.fact 15 (f := .glo "_law_built") rfl), F__law_built.kp⟩
  have C__law_kind : Cal PW w K mg base (cmOf K) "_law_kind" 2 1 f__law_kind := ⟨⟨fd__law_kind, ["_law_draws_here"], ok__law_kind Z C__law_take F__law_kind, FunD.bindsN F__law_kind fun _ _ _ _ _ _ us hl => match us, hl with | [_], _ => rfl⟩, He.glo_ok X G (c.d.fact 16 (f := .glo "_law_kind") rfl), F__law_kind.kp⟩
  have C__law_lines : Cal PW w K mg base (cmOf K) "_law_lines" 1 4 f__law_lines := ⟨⟨fd__law_lines, ["_law_kind_here", "_law_size", "_law_runs", "_law_absent"], ok__law_lines Z F__law_lines, FunD.bindsN F__law_lines fun _ _ _ _ _ _ us hl => match us, hl with | [_, _, _, _], _ => rfl⟩, He.glo_ok X G (c.d.fact 17 (f := .glo "_law_lines") rfl), F__law_lines.kp⟩
  have C__law_joined : Cal PW w K mg base (cmOf K) "_law_joined" 1 1 f__law_joined := ⟨⟨fd__law_joined, ["_law_lines_here"], ok__law_joined Z F__law_joined, FunD.bindsN F__law_joined fun _ _ _ _ _ _ us hl => match us, hl with | [_], _ => rfl⟩, He.glo_ok X G (c.d.fact 18 (f := .glo "_law_joined") rfl), F__law_joined.kp⟩
  have C__law_refused : Cal PW w K mg base (cmOf K) "_law_refused" 9 1 f__law_refused_v6 := ⟨⟨fd__law_refused, ["_law_text"], ok__law_refused Z C_market_from F__law_refused, FunD.bindsN F__law_refused fun _ _ _ _ _ _ us hl => match us, hl with | [_], _ => rfl⟩, He.glo_ok X G (c.d.fact 19 (f := .glo "_law_refused") rfl), F__law_refused.kp⟩
  have C__law_wrong_head : Cal PW w K mg base (cmOf K) "_law_wrong_head" 2 3 f__law_wrong_head := ⟨⟨fd__law_wrong_head, ["_law_draws_here", "_law_kind_here", "_law_size"], ok__law_wrong_head Z C__law_take F__law_wrong_head, FunD.bindsN F__law_wrong_head fun _ _ _ _ _ _ us hl => match us, hl with | [_, _, _], _ => rfl⟩, He.glo_ok X G (c.d.fact 20 (f := .glo "_law_wrong_head") rfl), F__law_wrong_head.kp⟩
  have C__law_wrong_part : Cal PW w K mg base (cmOf K) "_law_wrong_part" 2 2 f__law_wrong_part := ⟨⟨fd__law_wrong_part, ["_law_draws_here", "_law_size"], ok__law_wrong_part Z C__law_take F__law_wrong_part, FunD.bindsN F__law_wrong_part fun _ _ _ _ _ _ us hl => match us, hl with | [_, _], _ => rfl⟩, He.glo_ok X G (c.d.fact 21 (f := .glo "_law_wrong_part") rfl), F__law_wrong_part.kp⟩
  have C__law_texts_refused : Cal PW w K mg base (cmOf K) "_law_texts_refused" 10 4 f__law_texts_refused := ⟨⟨fd__law_texts_refused, ["_law_draws_here", "_law_lines_here", "_law_kind_here", "_law_size"], ok__law_texts_refused Z C__law_joined C__law_take C__law_wrong_part C__law_wrong_head C__law_refused F__law_texts_refused, FunD.bindsN F__law_texts_refused fun _ _ _ _ _ _ us hl => match us, hl with | [_, _, _, _], _ => rfl⟩, He.glo_ok X G (c.d.fact 22 (f := .glo "_law_texts_refused") rfl), F__law_texts_refused.kp⟩
  exact ok_law Z C__law_draws C__law_kind C__law_market C__law_take C__law_built C__law_lines C__law_joined C_market_text C_market_from C__law_texts_refused N___eq__ N___len__ F_law
end
end L2.Fn.K01
set_option maxRecDepth 100000
set_option maxHeartbeats 4000000
/-! FnP: what the functions compute, run from the end. -/
namespace L2.Fn
open PySem PySem.Spec PyProof.Rows L2

def ev {α : Type} (m : ME α) (ρ : Slots) (Q : Ex α → Prop) : Prop := ∃ r, m ρ = some r ∧ Q r
def run (m : MS) (ρ : Slots) (Q : Out → Prop) : Prop := ∃ r, m ρ = some r ∧ Q r
def cal (f : Fun') (ss : List S) (Q : CR → Prop) : Prop := ∃ r, f ss = some r ∧ Q r
def gev (g : MG) (s : S) (ρ : Slots) (Q : Slots → Prop) : Prop := ∃ r, g s ρ = some r ∧ Q r
def gevs (g : MGs) (s : List D) (ρ : Slots) (Q : Slots → Prop) : Prop := ∃ r, g s ρ = some r ∧ Q r
/-- behind a value -/
def okx {α : Type} (k : α → Slots → Prop) (x : Str → List (Str × D) → Slots → Prop) : Ex α → Prop
  | .ok a ρ => k a ρ
  | .ex C fs ρ => x C fs ρ
/-- behind a statement -/
def nxt (k : Slots → Prop) (Q : Out → Prop) : Out → Prop
  | .nx ρ => k ρ
  | r => Q r
section
variable {α β : Type} {m : ME α} {k : α → ME β} {ρ : Slots} {Q : Ex α → Prop} {QB : Ex β → Prop} {R : Out → Prop} {a : α} {kk : α → Slots → Prop} {x : Str → List (Str × D) → Slots → Prop} {ks : α → MS}
@[simp] theorem okx_ok : okx kk x (.ok a ρ) = kk a ρ := rfl
@[simp] theorem okx_ex {C : Str} {fs : List (Str × D)} : okx kk x (.ex C fs ρ) = x C fs ρ := rfl
@[simp] theorem nxt_nx {k : Slots → Prop} : nxt k R (.nx ρ) = k ρ := rfl
@[simp] theorem nxt_rt {k : Slots → Prop} {s : S} : nxt k R (.rt s ρ) = R (.rt s ρ) := rfl
@[simp] theorem nxt_ex {k : Slots → Prop} {C : Str} {fs : List (Str × D)} : nxt k R (.ex C fs ρ) = R (.ex C fs ρ) := rfl
@[simp] theorem nxt_bk {k : Slots → Prop} : nxt k R (.bk ρ) = R (.bk ρ) := rfl
@[simp] theorem nxt_ct {k : Slots → Prop} : nxt k R (.ct ρ) = R (.ct ρ) := rfl
theorem ev_some {r : Ex α} (h : m ρ = some r) : ev m ρ Q ↔ Q r := ⟨fun ⟨r', h1, h2⟩ => by rw [h] at h1; cases h1; exact h2, fun q => ⟨r, h, q⟩⟩
theorem ev_none (h : m ρ = none) : ev m ρ Q ↔ False := ⟨fun ⟨r', h1, h2⟩ => (by rw [h] at h1; cases h1), False.elim⟩
@[simp] theorem ev_bnd : ev (m.bnd k) ρ QB ↔ ev m ρ (okx (fun a ρ' => ev (k a) ρ' QB) fun C fs ρ' => QB (.ex C fs ρ')) := by
  unfold ev ME.bnd
  cases q : m ρ with
  | none => simp
  | some r => cases r <;> simp
@[simp] theorem ev_ret : ev (ret a) ρ Q ↔ Q (.ok a ρ) := ev_some rfl
@[simp] theorem ev_opt_some : ev (opt (some a)) ρ Q ↔ Q (.ok a ρ) := ev_some rfl
@[simp] theorem ev_opt_none : ev (opt (none : Option α)) ρ Q ↔ False := ev_none rfl
@[simp] theorem ev_no : ev (fun _ => none : ME α) ρ Q ↔ False := ev_none rfl
@[simp] theorem ev_if {c : Prop} [Decidable c] {m1 m2 : ME α} : ev (if c then m1 else m2) ρ Q ↔ (if c then ev m1 ρ Q else ev m2 ρ Q) := by split <;> rfl
@[simp] theorem run_thn : run (m.thn ks) ρ R ↔ ev m ρ (okx (fun a ρ' => run (ks a) ρ' R) fun C fs ρ' => R (.ex C fs ρ')) := by
  unfold ev run ME.thn
  cases q : m ρ with
  | none => simp
  | some r => cases r <;> simp
theorem run_some {s : MS} {r : Out} (h : s ρ = some r) : run s ρ R ↔ R r := ⟨fun ⟨r', h1, h2⟩ => by rw [h] at h1; cases h1; exact h2, fun q => ⟨r, h, q⟩⟩
@[simp] theorem run_lam_some {r : Slots → Out} : run (fun ρ => some (r ρ)) ρ R ↔ R (r ρ) := run_some rfl
@[simp] theorem run_seq {s t : MS} : run (sSeq s t) ρ R ↔ run s ρ (nxt (fun ρ' => run t ρ' R) R) := by
  unfold run sSeq
  cases q : s ρ with
  | none => simp
  | some r => cases r <;> simp
@[simp] theorem run_nil : run sNil ρ R ↔ R (.nx ρ) := run_some rfl
@[simp] theorem run_break : run sBreak ρ R ↔ R (.bk ρ) := run_some rfl
@[simp] theorem run_cont : run sCont ρ R ↔ R (.ct ρ) := run_some rfl
@[simp] theorem run_retN : run sRetN ρ R ↔ R (.rt (.val .non) ρ) := run_some rfl
@[simp] theorem run_ret {mo : ME S} : run (sRet mo) ρ R ↔ ev mo ρ (okx (fun s ρ' => R (.rt s ρ')) fun C fs ρ' => R (.ex C fs ρ')) := by unfold sRet; rw [run_thn]; simp only [run_lam_some]
@[simp] theorem run_drop : run (sDrop m) ρ R ↔ ev m ρ (okx (fun _ ρ' => R (.nx ρ')) fun C fs ρ' => R (.ex C fs ρ')) := by unfold sDrop; rw [run_thn]; simp only [run_lam_some]
@[simp] theorem run_ite {c : Bool} {s t : MS} : run (if c = true then s else t) ρ R ↔ (if c = true then run s ρ R else run t ρ R) := by split <;> rfl
@[simp] theorem run_if {c : ME Bool} {s t : MS} : run (sIf c s t) ρ R ↔ ev c ρ (okx (fun b ρ' => if b = true then run s ρ' R else run t ρ' R) fun C fs ρ' => R (.ex C fs ρ')) := by unfold sIf; rw [run_thn]; simp only [run_ite]
@[simp] theorem run_asg {mo : ME S} {g : MG} : run (sAsg mo g) ρ R ↔ ev mo ρ (okx (fun s ρ' => gev g s ρ' fun ρ'' => R (.nx ρ'')) fun C fs ρ' => R (.ex C fs ρ')) := by
  unfold sAsg; rw [run_thn]
  have : ∀ s ρ', run (fun ρ => (g s ρ).map Out.nx) ρ' R ↔ gev g s ρ' fun ρ'' => R (.nx ρ'') := fun s ρ' => by
    unfold run gev
    cases q : g s ρ' <;> simp [q]
  simp only [this]
@[simp] theorem gev_set {i : Nat} {s : S} {q : Slots → Prop} : gev (gSetM i) s ρ q ↔ (i < ρ.length ∧ q (ρ.set i s)) := by
  unfold gev gSetM
  by_cases h : i < ρ.length <;> simp [h]
@[simp] theorem gev_tup {n : Nat} {ms : MGs} {xs : List D} {q : Slots → Prop} : gev (gTupM n ms) (.val (.tup xs)) ρ q ↔ (xs.length = n ∧ gevs ms xs ρ q) := by
  unfold gev gTupM gevs
  by_cases h : xs.length = n <;> simp [h]
@[simp] theorem gev_lst {n : Nat} {ms : MGs} {xs : List D} {q : Slots → Prop} : gev (gTupM n ms) (.val (.lst xs)) ρ q ↔ (xs.length = n ∧ gevs ms xs ρ q) := by
  unfold gev gTupM gevs
  by_cases h : xs.length = n <;> simp [h]
@[simp] theorem gevs_nil {q : Slots → Prop} : gevs gNilM [] ρ q ↔ q ρ := by unfold gevs gNilM; simp
@[simp] theorem gevs_cons {m : MG} {ms : MGs} {d : D} {r : List D} {q : Slots → Prop} : gevs (gConsM m ms) (d :: r) ρ q ↔ gev m (.val d) ρ fun ρ' => gevs ms r ρ' q := by
  unfold gevs gConsM gev
  cases h : m (.val d) ρ <;> simp [h]
/-! names -/
@[simp] theorem ev_var {i : Nat} {Q : Ex D → Prop} : ev (mVar i) ρ Q ↔ (match ρ[i]? with
    | some (.val d) => Q (.ok d ρ)
    | some s => (match s.cold with
      | some d => Q (.ok d (ρ.set i (.val d)))
      | none => False)
    | none => False) := by
  unfold ev mVar
  cases ρ[i]? with
  | none => simp
  | some s => cases s <;> simp [S.cold]
@[simp] theorem ev_move {i : Nat} {Q : Ex S → Prop} : ev (mMove i) ρ Q ↔ (match ρ[i]? with
    | some .no => False
    | some s => Q (.ok s (ρ.set i .no))
    | none => False) := by
  unfold ev mMove
  cases ρ[i]? with
  | none => simp
  | some s => cases s <;> simp
@[simp] theorem ev_fldN {L : List Str} {f : Str} {i : Nat} {Q : Ex D → Prop} : ev (mFldN L f i) ρ Q ↔ (match ρ[i]? with
    | some (.ins C fs) => if C ∈ L then ev (opt (fs.lookup f)) ρ Q else False
    | some (.val d) => ev (opt (gFld L f d)) ρ Q
    | _ => False) := by
  unfold mFldN
  cases h : ρ[i]? with
  | none => unfold ev; simp [h]
  | some s =>
    cases s with
    | ins C fs =>
      unfold ev
      simp only [h]
      by_cases q : C ∈ L <;> simp [q]
    | val d => unfold ev; simp only [h]
    | _ => unfold ev; simp [h]
@[simp] theorem ev_ixN {i : Nat} {mb : ME D} {Q : Ex D → Prop} : ev (mIxN i mb) ρ Q ↔ (match ρ[i]? with
    | none => False
    | some .no => False
    | some _ => ev mb ρ (okx (fun y ρ' => match ρ'[i]? with
      | some (.val x) => ev (opt (gIx x y)) ρ' Q
      | some (.lst xs) => ev (opt (gIx (.lst xs) y)) ρ' Q
      | _ => False) fun C fs ρ' => Q (.ex C fs ρ'))) := by
  have key : ev (mb.bnd fun y ρ => match ρ[i]? with
    | some (.val x) => opt (gIx x y) ρ
    | some (.lst xs) => opt (gIx (.lst xs) y) ρ
    | _ => none) ρ Q ↔ ev mb ρ (okx (fun y ρ' => match ρ'[i]? with
      | some (.val x) => ev (opt (gIx x y)) ρ' Q
      | some (.lst xs) => ev (opt (gIx (.lst xs) y)) ρ' Q
      | _ => False) fun C fs ρ' => Q (.ex C fs ρ')) := by
    rw [ev_bnd]
    have : ∀ y ρ', ev (fun ρ => match ρ[i]? with
      | some (.val x) => opt (gIx x y) ρ
      | some (.lst xs) => opt (gIx (.lst xs) y) ρ
      | _ => none : ME D) ρ' Q ↔ (match ρ'[i]? with
      | some (.val x) => ev (opt (gIx x y)) ρ' Q
      | some (.lst xs) => ev (opt (gIx (.lst xs) y)) ρ' Q
      | _ => False) := fun y ρ' => by
      unfold ev
      cases h : ρ'[i]? with
      | none => simp [h]
      | some s => cases s <;> simp [h]
    simp only [this]
  cases h : ρ[i]? with
  | none => exact ev_none (by unfold mIxN; rw [h])
  | some s =>
    cases s with
    | no => exact ev_none (by unfold mIxN; rw [h])
    | _ =>
      rw [← key]
      have e : mIxN i mb ρ = (mb.bnd fun y ρ => match ρ[i]? with
        | some (.val x) => opt (gIx x y) ρ
        | some (.lst xs) => opt (gIx (.lst xs) y) ρ
        | _ => none) ρ := by
        show (match ρ[i]? with
          | none => none
          | some .no => none
          | some _ => _) = _
        rw [h] <;> rfl
      unfold ev
      rw [e]
@[simp] theorem ev_lenN {i : Nat} {Q : Ex D → Prop} : ev (mLenN i) ρ Q ↔ (match ρ[i]? with
    | some (.val d) => ev (opt ((gLen d).map fun n => D.int n)) ρ Q
    | some (.lst xs) => Q (.ok (.int xs.length) ρ)
    | some (.dK kvs) => Q (.ok (.int kvs.length) ρ)
    | _ => False) := by
  unfold ev mLenN
  cases h : ρ[i]? with
  | none => simp
  | some s => cases s <;> simp
@[simp] theorem ev_onList {i : Nat} {k : List D → Option (D × List D)} {Q : Ex S → Prop} : ev (onList i k) ρ Q ↔ (match ρ[i]? with
    | some (.lst xs) => (match k xs with
      | some q => Q (.ok (.val q.1) (ρ.set i (.lst q.2)))
      | none => False)
    | _ => False) := by
  unfold ev onList
  cases h : ρ[i]? with
  | none => simp
  | some s =>
    cases s with
    | lst xs => cases q : k xs <;> simp [q]
    | _ => simp
@[simp] theorem ev_listAt {i : Nat} : ev (listAt i m) ρ Q ↔ (match ρ[i]? with
    | some (.lst _) => ev m ρ Q
    | _ => False) := by
  unfold ev listAt
  cases h : ρ[i]? with
  | none => simp
  | some s => cases s <;> simp
@[simp] theorem ev_onListL {i : Nat} {k : D → List D → Option (D × List D)} {d : D} {Q : Ex S → Prop} : ev ((fun d => onList i (k d)) d) ρ Q ↔ ev (onList i (k d)) ρ Q := Iff.rfl
@[simp] theorem ev_listKN {i : Nat} {Q : Ex S → Prop} : ev (mListKN i) ρ Q ↔ (match ρ[i]? with
    | some (.dK kvs) => Q (.ok (.lst (kvs.map fun kv => keyOut kv.1)) ρ)
    | some (.val (.dK kvs)) => Q (.ok (.lst (kvs.map fun kv => keyOut kv.1)) ρ)
    | _ => False) := by
  unfold ev mListKN
  cases h : ρ[i]? with
  | none => simp
  | some s =>
    cases s with
    | val d => cases d <;> simp
    | _ => simp
/-! calls -/
@[simp] theorem cal_def {n : Nat} {l : List Bool} {s : MS} {ss : List S} {C : CR → Prop} : cal (runDef n l s) ss C ↔ run s (ss ++ List.replicate n .no) (fun o => match o with
    | .nx ρ => C (.ret (.val .non) (maskL l ρ))
    | .rt s ρ => C (.ret s (maskL l ρ))
    | .ex E fs ρ => C (.exc E fs (maskL l ρ))
    | _ => False) := by
  unfold cal runDef run
  cases q : s (ss ++ List.replicate n .no) with
  | none => simp
  | some r => cases r <;> simp
@[simp] theorem ev_call {f : Fun'} {ms : ME (List Ar)} {Q : Ex S → Prop} : ev (mCall f [] ms) ρ Q ↔ ev ms ρ (okx (fun as ρ' => ioOk as = true ∧ cal f (as.map (Ar.s ρ')) fun c => Q (c.back as ρ')) fun C fs ρ' => Q (.ex C fs ρ')) := by
  unfold mCall
  rw [ev_bnd]
  have : ∀ as ρ', ev (fun ρ => if ioOk as = true then (f ((as ++ [].map Ar.val).map (Ar.s ρ))).map (CR.back (as ++ [].map Ar.val) ρ) else none : ME S) ρ' Q ↔ (ioOk as = true ∧ cal f (as.map (Ar.s ρ')) fun c => Q (c.back as ρ')) := fun as ρ' => by
    unfold ev cal
    by_cases h : ioOk as = true
    · simp only [h, if_true, List.map_nil, List.append_nil, true_and]
      cases q : f (as.map (Ar.s ρ')) <;> simp
    · simp [h]
  simp only [this]
@[simp] theorem ev_io {j : Nat} {ms : ME (List Ar)} {Q : Ex (List Ar) → Prop} : ev (mIo j ms) ρ Q ↔ (match ρ[j]? with
    | some .no => False
    | some _ => ev ms ρ (okx (fun as ρ' => Q (.ok (.io j :: as) ρ')) fun C fs ρ' => Q (.ex C fs ρ'))
    | none => False) := by
  unfold mIo
  have : ev (aIo j ms) ρ Q ↔ ev ms ρ (okx (fun as ρ' => Q (.ok (.io j :: as) ρ')) fun C fs ρ' => Q (.ex C fs ρ')) := by unfold aIo; rw [ev_bnd]; simp only [ev_ret]
  rw [← this]
  unfold ev
  cases h : ρ[j]? with
  | none => simp [h]
  | some s => cases s <;> simp [h]
/-! loops -/
@[simp] theorem run_for {it : ME (List D)} {g : MG} {b : MS} : run (sFor it g b) ρ R ↔ ev it ρ (okx (fun ds ρ' => run (sLoop g b ds) ρ' R) fun C fs ρ' => R (.ex C fs ρ')) := by unfold sFor; rw [run_thn]
/-- a for, its invariant by what is done -/
theorem run_loop {γ : Type} {f : γ → D} {g : MG} {b : MS} (xs : List γ) (I : List γ → Slots → Prop) (h0 : I [] ρ)
    (hs : ∀ done x rest ρ, xs = done ++ x :: rest → I done ρ → gev g (.val (f x)) ρ fun ρ1 => run b ρ1 fun o => match o with
      | .nx ρ' => I (done ++ [x]) ρ'
      | .ct ρ' => I (done ++ [x]) ρ'
      | .bk ρ' => R (.nx ρ')
      | r => R r)
    (he : ∀ ρ, I xs ρ → R (.nx ρ)) : run (sLoop g b (xs.map f)) ρ R := by
  suffices H : ∀ rest done ρ, xs = done ++ rest → I done ρ → run (sLoop g b (rest.map f)) ρ R from H xs [] ρ rfl h0
  intro rest
  induction rest with
  | nil => intro done ρ e i; rw [List.append_nil] at e; subst e; exact ⟨_, rfl, he ρ i⟩
  | cons x rest ih =>
    intro done ρ e i
    obtain ⟨ρ1, h1, r, h2, h3⟩ := hs done x rest ρ e i
    unfold run
    simp only [List.map_cons, sLoop, h1, h2]
    cases r with
    | nx ρ' => exact ih (done ++ [x]) ρ' (by simp [e]) h3
    | ct ρ' => exact ih (done ++ [x]) ρ' (by simp [e]) h3
    | bk ρ' => exact ⟨_, rfl, h3⟩
    | rt s ρ' => exact ⟨_, rfl, h3⟩
    | ex C fs ρ' => exact ⟨_, rfl, h3⟩
/-- a comprehension, its invariant by what is done and the items so far -/
theorem ev_lcI {γ : Type} {f : γ → D} {g : MG} {tt : ME Bool} {te : ME D} {vs : List Nat} (xs : List γ) (I : List γ → List D → Slots → Prop) (h0 : I [] [] ρ)
    (hs : ∀ done x rest acc ρ, xs = done ++ x :: rest → I done acc ρ → gev g (.val (f x)) (wipeE ρ vs) fun ρ1 => ev tt ρ1 (okx (fun b ρ2 => if b = true then ev te ρ2 (okx (fun y ρ3 => I (done ++ [x]) (acc ++ [y]) (wipeE ρ3 vs)) fun _ _ _ => False) else I (done ++ [x]) acc (wipeE ρ2 vs)) fun _ _ _ => False)) :
    ∃ acc ρ', lcL g tt te vs (xs.map f) [] ρ = some (acc, ρ') ∧ I xs acc ρ' := by
  suffices H : ∀ rest done acc ρ, xs = done ++ rest → I done acc ρ → ∃ acc' ρ', lcL g tt te vs (rest.map f) acc ρ = some (acc', ρ') ∧ I xs acc' ρ' from H xs [] [] ρ rfl h0
  intro rest
  induction rest with
  | nil => intro done acc ρ e i; rw [List.append_nil] at e; subst e; exact ⟨_, _, rfl, i⟩
  | cons x rest ih =>
    intro done acc ρ e i
    obtain ⟨ρ1, h1, r, h2, h3⟩ := hs done x rest acc ρ e i
    simp only [List.map_cons, lcL, h1, h2]
    cases r with
    | ex C fs ρ' => exact h3.elim
    | ok c ρ2 =>
      cases c with
      | false => exact ih (done ++ [x]) acc _ (by simp [e]) h3
      | true =>
        obtain ⟨r, h4, h5⟩ := h3
        simp only [h4]
        cases r with
        | ex C fs ρ' => exact h5.elim
        | ok y ρ3 => exact ih (done ++ [x]) (acc ++ [y]) _ (by simp [e]) h5
theorem ev_lc {it : ME (List D)} {g : MG} {tt : ME Bool} {te : ME D} {vs : List Nat} {Q : Ex S → Prop} (h : ev it ρ (okx (fun ds ρ' => ds.length ≤ sizeLine ∧ ∃ acc ρ'', lcL g tt te vs ds [] ρ' = some (acc, ρ'') ∧ Q (.ok (.lst acc) ρ'')) fun C fs ρ' => Q (.ex C fs ρ'))) : ev (mLc it g tt te vs) ρ Q := by
  obtain ⟨r, h1, h2⟩ := h
  unfold mLc ME.bnd ev
  dsimp only
  rw [h1]
  cases r with
  | ex C fs ρ' => exact ⟨_, rfl, h2⟩
  | ok ds ρ' =>
    obtain ⟨h3, acc, ρ'', h4, h5⟩ := h2
    exact ⟨_, by simp only [h3, if_true, h4], h5⟩
end
end L2.Fn
set_option maxRecDepth 100000
set_option maxHeartbeats 4000000
/-! FnQ: operators on known data. -/
namespace L2.Fn
open PySem PySem.Spec PyProof.Rows L2

/-! ### == of a piece of data and itself -/
mutual
theorem eqv_self : ∀ p : PyData, p.canLay0 = true → PyData.eqv p p = true
  | .none, _ => by simp [PyData.eqv]
  | .bool b, _ => by simp [PyData.eqv]
  | .int i, _ => by simp [PyData.eqv]
  | .str x, _ => by simp [PyData.eqv]
  | .list xs, h => by simp only [PyData.eqv]; exact eqvAll_self xs (by simpa [PyData.canLay0] using h)
  | .tuple xs, h => by simp only [PyData.eqv]; exact eqvAll_self xs (by simpa [PyData.canLay0] using h)
  | .dict _, h => by simp [PyData.canLay0] at h
theorem eqvAll_self : ∀ ps : List PyData, PyData.canLayAll0 ps = true → PyData.eqvAll ps ps = true
  | [], _ => by simp [PyData.eqvAll]
  | x :: xs, h => by
    have h' : x.canLay0 = true ∧ PyData.canLayAll0 xs = true := by simpa [PyData.canLayAll0] using h
    simp only [PyData.eqvAll, eqv_self x h'.1, eqvAll_self xs h'.2, Bool.and_self]
end
def Sh (k : Nat) (d : D) : Prop := ∃ p, d.py = some p ∧ p.canLay0 = true ∧ p.depth ≤ k
theorem sh_int {k : Nat} {i : Int} : Sh k (.int i) := ⟨.int i, rfl, by simp [PyData.canLay0], by simp [PyData.depth]⟩
theorem sh_bl {k : Nat} {b : Bool} : Sh k (.bl b) := ⟨.bool b, rfl, by simp [PyData.canLay0], by simp [PyData.depth]⟩
theorem sh_all {k : Nat} : ∀ {xs : List D}, (∀ x ∈ xs, Sh k x) → ∃ ps, D.pys xs = some ps ∧ PyData.canLayAll0 ps = true ∧ PyData.depthAll ps ≤ k
  | [], _ => ⟨[], rfl, by simp [PyData.canLayAll0], by simp [PyData.depthAll]⟩
  | x :: xs, h => by
    obtain ⟨p, e1, e2, e3⟩ := h x List.mem_cons_self
    obtain ⟨ps, f1, f2, f3⟩ := sh_all (xs := xs) fun y hy => h y (List.mem_cons_of_mem _ hy)
    exact ⟨p :: ps, by simp [D.pys, e1, f1], by simp [PyData.canLayAll0, e2, f2], by simp [PyData.depthAll]; omega⟩
theorem sh_lst {k : Nat} {xs : List D} (h : ∀ x ∈ xs, Sh k x) : Sh (k + 1) (.lst xs) := by
  obtain ⟨ps, e1, e2, e3⟩ := sh_all h
  exact ⟨.list ps, by simp [D.py, e1], by simp [PyData.canLay0, e2], by simp [PyData.depth]; omega⟩
theorem sh_tup {k : Nat} {xs : List D} (h : ∀ x ∈ xs, Sh k x) : Sh (k + 1) (.tup xs) := by
  obtain ⟨ps, e1, e2, e3⟩ := sh_all h
  exact ⟨.tuple ps, by simp [D.py, e1], by simp [PyData.canLay0, e2], by simp [PyData.depth]; omega⟩
theorem Sh.eq {k : Nat} {d : D} (h : Sh k d) (hk : k ≤ 64) : eqD d d = some true := by
  obtain ⟨p, e1, e2, e3⟩ := h
  have : SeqAt.shaped p = true := by
    unfold SeqAt.shaped
    rw [e2, Bool.true_and, decide_eq_true_eq]; omega
  unfold eqD
  simp [e1, this, eqv_self p e2]
/-! ### lists of ints -/
def Js (l : List Int) : List D := l.map D.int
@[simp] theorem Js_length (l : List Int) : (Js l).length = l.length := by simp [Js]
@[simp] theorem Js_nil : Js [] = [] := rfl
@[simp] theorem Js_cons (a : Int) (l : List Int) : Js (a :: l) = .int a :: Js l := rfl
@[simp] theorem Js_append (a b : List Int) : Js (a ++ b) = Js a ++ Js b := by simp [Js]
@[simp] theorem Js_dropLast (a : List Int) : (Js a).dropLast = Js a.dropLast := by simp [Js]
@[simp] theorem Js_reverse (a : List Int) : (Js a).reverse = Js a.reverse := by simp [Js]
theorem Js_get (a : List Int) (i : Nat) : (Js a)[i]? = (a[i]?).map D.int := by simp [Js]
theorem sh_Js {k : Nat} {l : List Int} : ∀ x ∈ Js l, Sh k x := fun x hx => by
  obtain ⟨i, _, rfl⟩ := List.mem_map.mp hx
  exact sh_int
theorem intsD_Js (l : List Int) : intsD (Js l) = some l := intsD_map l
theorem flatsD_Js : ∀ l : List Int, flatsD (Js l) = some (l.map V.int)
  | [] => rfl
  | a :: l => by simp [flatsD, flatD, flatsD_Js l]
theorem inV_int (i : Int) : ∀ l : List Int, inV (.int i) (l.map V.int) = decide (i ∈ l)
  | [] => by simp [inV]
  | a :: l => by
    have ih := inV_int i l
    unfold inV at ih ⊢
    rw [List.map_cons, List.any_cons, ih]
    by_cases h : a = i
    · subst h; simp [eqV]
    · have h2 : i ≠ a := fun e => h e.symm
      simp [eqV, h, h2]
/-! ### operators -/
section
variable {i j : Int}
@[simp] theorem eqD_int : eqD (.int i) (.int j) = some (decide (i = j)) := by
  have s : ∀ k : Int, SeqAt.shaped (.int k) = true := fun k => by simp [SeqAt.shaped, PyData.canLay0, PyData.depth]
  unfold eqD
  simp only [D.py, s, Bool.and_self, if_true, PyData.eqv, Option.some.injEq]
  by_cases h : i = j <;> simp [h]
@[simp] theorem gEq_int : gEq (.int i) (.int j) = some (.val (.bl (decide (i = j)))) := by simp [gEq]
@[simp] theorem gNe_int : gNe (.int i) (.int j) = some (.val (.bl (!decide (i = j)))) := by simp [gNe]
@[simp] theorem gAdd_int : gAdd (.int i) (.int j) = some (.val (.int (i + j))) := rfl
@[simp] theorem gSub_int : gSub (.int i) (.int j) = some (.val (.int (i - j))) := rfl
@[simp] theorem gLt_int : gLt (.int i) (.int j) = some (.val (.bl (decide (i < j)))) := rfl
@[simp] theorem gLe_int : gLe (.int i) (.int j) = some (.val (.bl (decide (i ≤ j)))) := rfl
@[simp] theorem gGt_int : gGt (.int i) (.int j) = some (.val (.bl (decide (j < i)))) := rfl
@[simp] theorem gGe_int : gGe (.int i) (.int j) = some (.val (.bl (decide (j ≤ i)))) := rfl
theorem gMod_int (h : 0 < j) : gMod (.int i) (.int j) = some (.val (.int (i % j))) := by show (if 0 < j then _ else none) = _; rw [if_pos h]
theorem gDiv_int (h : 0 < j) (h2 : j < 1073741824) : gDiv (.int i) (.int j) = some (.val (.int (i / j))) := by show (if CDiv i j then _ else none) = _; rw [if_pos ⟨h, h2⟩]
theorem gMul_int (h1 : -(2 ^ 64) < i) (h2 : i < 2 ^ 64) (h : CMul i j) : gMul (.int i) (.int j) = some (.val (.int (i * j))) := by show (if CMul i j then _ else none) = _; rw [if_pos h]
@[simp] theorem gNeg_int : gNeg (.int i) = some (.int (-i)) := rfl
@[simp] theorem gInt1_int : gInt1 (.int i) = some (.val (.int i)) := rfl
@[simp] theorem gInt1_bl {b : Bool} : gInt1 (.bl b) = some (.val (.int (if b then 1 else 0))) := rfl
@[simp] theorem gAbs_int : gAbs (.int i) = some (.val (.int (if i < 0 then -i else i))) := rfl
@[simp] theorem gMin_int : gMin2 (.int i) (.int j) = some (.val (.int (if j < i then j else i))) := rfl
@[simp] theorem gAddI_int : gAddI (.int i) (.int j) = some (.int (i + j)) := rfl
@[simp] theorem gSubI_int : gSubI (.int i) (.int j) = some (.int (i - j)) := rfl
@[simp] theorem cold_val {d : D} : (S.val d).cold = some d := rfl
@[simp] theorem cold_lst {d : List D} : (S.lst d).cold = some (.lst d) := rfl
@[simp] theorem cold_dK {d : List (Key × D)} : (S.dK d).cold = some (.dK d) := rfl
@[simp] theorem cold_dT {d : List (List Key × D)} : (S.dT d).cold = some (.dT d) := rfl
@[simp] theorem cold_ins {C : Str} {d : List (Str × D)} : (S.ins C d).cold = some (.obj C d) := rfl
@[simp] theorem mask_nil {ρ : Slots} : maskL [] ρ = [] := by cases ρ <;> rfl
@[simp] theorem mask_t {l : List Bool} {s : S} {ρ : Slots} : maskL (true :: l) (s :: ρ) = s :: maskL l ρ := rfl
@[simp] theorem mask_f {l : List Bool} {s : S} {ρ : Slots} : maskL (false :: l) (s :: ρ) = .no :: maskL l ρ := rfl
end
/-! what is unfolded at a run -/
end L2.Fn
set_option maxRecDepth 100000
set_option maxHeartbeats 4000000
/-! FnR: each expression's run, word by word. -/
namespace L2.Fn
open PySem PySem.Spec PyProof.Rows L2
/-- (by exists: its whnf must not run the operator) -/
def opx {α : Type} (o : Option α) (k : α → Prop) : Prop := ∃ a, o = some a ∧ k a
@[simp] theorem opx_some {α : Type} {a : α} {k : α → Prop} : opx (some a) k = k a := by
  apply propext
  constructor
  · intro h
    obtain ⟨b, h, q⟩ := h
    cases h
    exact q
  · intro q
    exact ⟨a, rfl, q⟩
@[simp] theorem opx_none {α : Type} {k : α → Prop} : opx none k = False := by
  apply propext
  constructor
  · intro h
    obtain ⟨b, h, q⟩ := h
    cases h
  · intro q
    exact q.elim
theorem opx_of {α : Type} {o : Option α} {a : α} {k : α → Prop} (h : o = some a) (q : k a) : opx o k := ⟨a, h, q⟩
section
variable {α β : Type} {m ma mb mc : ME D} {mo mo' : ME S} {ms : ME (List D)} {mA mB : ME Bool} {ρ : Slots} {QD : Ex D → Prop} {QS : Ex S → Prop} {QB : Ex Bool → Prop} {QL : Ex (List D) → Prop} {R : Out → Prop}
theorem ev_congr {γ : Type} {m : ME γ} {K K' : γ → Slots → Prop} {x : Str → List (Str × D) → Slots → Prop} (h : ∀ a ρ', K a ρ' ↔ K' a ρ') : ev m ρ (okx K x) ↔ ev m ρ (okx K' x) := by
  have : K = K' := by funext a ρ'; exact propext (h a ρ')
  rw [this]
@[simp] theorem ev_opt {o : Option α} {Q : Ex α → Prop} : ev (opt o) ρ Q ↔ (opx (o) fun a => Q (.ok a ρ)) := by cases o <;> simp
@[simp] theorem ev_cold : ev (mCold mo) ρ QD ↔ ev mo ρ (okx (fun s ρ' => opx (s.cold) fun d => QD (.ok d ρ')) fun C fs ρ' => QD (.ex C fs ρ')) := by simp only [mCold, ev_bnd, ev_opt]
@[simp] theorem ev_warm : ev (mWarm m) ρ QS ↔ ev m ρ (okx (fun d ρ' => QS (.ok (.val d) ρ')) fun C fs ρ' => QS (.ex C fs ρ')) := by simp only [mWarm, ev_bnd, ev_ret]
@[simp] theorem ev_op {g : D → D → Option S} : ev (mOp g ma mb) ρ QS ↔ ev ma ρ (okx (fun x ρ1 => ev mb ρ1 (okx (fun y ρ2 => opx (g x y) fun s => QS (.ok s ρ2)) fun C fs ρ' => QS (.ex C fs ρ'))) fun C fs ρ' => QS (.ex C fs ρ')) := by simp only [mOp, ev_bnd, ev_opt]
@[simp] theorem ev_un {g : D → Option D} : ev (mUn g ma) ρ QD ↔ ev ma ρ (okx (fun x ρ1 => opx (g x) fun s => QD (.ok s ρ1)) fun C fs ρ' => QD (.ex C fs ρ')) := by simp only [mUn, ev_bnd, ev_opt]
@[simp] theorem ev_b1 {g : D → Option S} : ev (mB1 g ma) ρ QS ↔ ev ma ρ (okx (fun x ρ1 => opx (g x) fun s => QS (.ok s ρ1)) fun C fs ρ' => QS (.ex C fs ρ')) := by simp only [mB1, ev_bnd, ev_opt]
@[simp] theorem ev_isT {f : String → Bool} : ev (mIsT f ma) ρ QS ↔ ev ma ρ (okx (fun x ρ1 => opx (gIsT f x) fun s => QS (.ok s ρ1)) fun C fs ρ' => QS (.ex C fs ρ')) := by simp only [mIsT, ev_bnd, ev_opt]
@[simp] theorem ev_test : ev (mTest mo) ρ QB ↔ ev mo ρ (okx (fun s ρ' => match s with
    | .val (.bl b) => QB (.ok b ρ')
    | _ => False) fun C fs ρ' => QB (.ex C fs ρ')) := by
  unfold mTest
  rw [ev_bnd]
  have : ∀ s ρ', ev (match s with
    | S.val (.bl b) => ret b
    | _ => fun _ => none) ρ' QB ↔ (match s with
    | S.val (.bl b) => QB (.ok b ρ')
    | _ => False) := fun s ρ' => by
    cases s with
    | val d => cases d <;> simp
    | _ => simp
  exact ev_congr this
@[simp] theorem ev_and : ev (mAnd mA mB) ρ QB ↔ ev mA ρ (okx (fun b ρ' => if b = true then ev mB ρ' QB else QB (.ok false ρ')) fun C fs ρ' => QB (.ex C fs ρ')) := by simp only [mAnd, ev_bnd, ev_if, ev_ret]
@[simp] theorem ev_or : ev (mOr mA mB) ρ QB ↔ ev mA ρ (okx (fun b ρ' => if b = true then QB (.ok true ρ') else ev mB ρ' QB) fun C fs ρ' => QB (.ex C fs ρ')) := by simp only [mOr, ev_bnd, ev_if, ev_ret]
@[simp] theorem ev_not : ev (mNot mA) ρ QB ↔ ev mA ρ (okx (fun b ρ' => QB (.ok (!b) ρ')) fun C fs ρ' => QB (.ex C fs ρ')) := by simp only [mNot, ev_bnd, ev_ret]
@[simp] theorem ev_ifx {c : ME Bool} {ma mb : ME α} {Q : Ex α → Prop} : ev (mIf c ma mb) ρ Q ↔ ev c ρ (okx (fun b ρ' => if b = true then ev ma ρ' Q else ev mb ρ' Q) fun C fs ρ' => Q (.ex C fs ρ')) := by simp only [mIf, ev_bnd, ev_if]
@[simp] theorem ev_andV : ev (mAndV ma mb) ρ QD ↔ ev ma ρ (okx (fun x ρ' => match x with
    | .bl c => if c = true then ev mb ρ' QD else QD (.ok (.bl false) ρ')
    | _ => False) fun C fs ρ' => QD (.ex C fs ρ')) := by
  unfold mAndV
  rw [ev_bnd]
  have : ∀ x ρ', ev (match x with
    | D.bl c => if c = true then mb else ret (.bl false)
    | _ => fun _ => none) ρ' QD ↔ (match x with
    | D.bl c => if c = true then ev mb ρ' QD else QD (.ok (.bl false) ρ')
    | _ => False) := fun x ρ' => by cases x <;> simp
  exact ev_congr this
@[simp] theorem ev_orV : ev (mOrV ma mb) ρ QD ↔ ev ma ρ (okx (fun x ρ' => match x with
    | .bl c => if c = true then QD (.ok (.bl true) ρ') else ev mb ρ' QD
    | _ => False) fun C fs ρ' => QD (.ex C fs ρ')) := by
  unfold mOrV
  rw [ev_bnd]
  have : ∀ x ρ', ev (match x with
    | D.bl c => if c = true then ret (.bl true) else mb
    | _ => fun _ => none) ρ' QD ↔ (match x with
    | D.bl c => if c = true then QD (.ok (.bl true) ρ') else ev mb ρ' QD
    | _ => False) := fun x ρ' => by cases x <;> simp
  exact ev_congr this
@[simp] theorem ev_notV : ev (mNotV ma) ρ QD ↔ ev ma ρ (okx (fun x ρ' => match x with
    | .bl c => QD (.ok (.bl (!c)) ρ')
    | _ => False) fun C fs ρ' => QD (.ex C fs ρ')) := by
  unfold mNotV
  rw [ev_bnd]
  have : ∀ x ρ', ev (match x with
    | D.bl c => ret (.bl (!c))
    | _ => fun _ => none) ρ' QD ↔ (match x with
    | D.bl c => QD (.ok (.bl (!c)) ρ')
    | _ => False) := fun x ρ' => by cases x <;> simp
  exact ev_congr this
@[simp] theorem ev_nilL : ev mNil ρ QL ↔ QL (.ok [] ρ) := ev_ret
@[simp] theorem ev_consL : ev (mCons m ms) ρ QL ↔ ev m ρ (okx (fun d ρ1 => ev ms ρ1 (okx (fun ds ρ2 => QL (.ok (d :: ds) ρ2)) fun C fs ρ' => QL (.ex C fs ρ'))) fun C fs ρ' => QL (.ex C fs ρ')) := by simp only [mCons, ev_bnd, ev_ret]
@[simp] theorem ev_nilA {Q : Ex (List Ar) → Prop} : ev aNil ρ Q ↔ Q (.ok [] ρ) := ev_ret
@[simp] theorem ev_consA {as : ME (List Ar)} {Q : Ex (List Ar) → Prop} : ev (aCons m as) ρ Q ↔ ev m ρ (okx (fun d ρ1 => ev as ρ1 (okx (fun ds ρ2 => Q (.ok (.val d :: ds) ρ2)) fun C fs ρ' => Q (.ex C fs ρ'))) fun C fs ρ' => Q (.ex C fs ρ')) := by simp only [aCons, ev_bnd, ev_ret]
@[simp] theorem ev_tup : ev (mTup ms) ρ QD ↔ ev ms ρ (okx (fun ds ρ1 => ds.length ≤ sizeLine ∧ QD (.ok (.tup ds) ρ1)) fun C fs ρ' => QD (.ex C fs ρ')) := by
  unfold mTup
  rw [ev_bnd]
  have : ∀ ds ρ', ev (if ds.length ≤ sizeLine then ret (D.tup ds) else fun _ => none) ρ' QD ↔ (ds.length ≤ sizeLine ∧ QD (.ok (.tup ds) ρ')) := fun ds ρ' => by
    by_cases h : ds.length ≤ sizeLine <;> simp [h]
  exact ev_congr this
@[simp] theorem ev_lst : ev (mLst ms) ρ QS ↔ ev ms ρ (okx (fun ds ρ1 => ds.length ≤ sizeLine ∧ QS (.ok (.lst ds) ρ1)) fun C fs ρ' => QS (.ex C fs ρ')) := by
  unfold mLst
  rw [ev_bnd]
  have : ∀ ds ρ', ev (if ds.length ≤ sizeLine then ret (S.lst ds) else fun _ => none) ρ' QS ↔ (ds.length ≤ sizeLine ∧ QS (.ok (.lst ds) ρ')) := fun ds ρ' => by
    by_cases h : ds.length ≤ sizeLine <;> simp [h]
  exact ev_congr this
@[simp] theorem ev_ix : ev (mIx ma mb) ρ QD ↔ ev ma ρ (okx (fun x ρ1 => ev mb ρ1 (okx (fun y ρ2 => opx (gIx x y) fun s => QD (.ok s ρ2)) fun C fs ρ' => QD (.ex C fs ρ'))) fun C fs ρ' => QD (.ex C fs ρ')) := by simp only [mIx, ev_bnd, ev_opt]
@[simp] theorem ev_len : ev (mLen ma) ρ QD ↔ ev ma ρ (okx (fun x ρ1 => opx (gLen x) fun n => QD (.ok (.int n) ρ1)) fun C fs ρ' => QD (.ex C fs ρ')) := by
  unfold mLen
  rw [ev_bnd]
  have : ∀ x ρ', ev (opt ((gLen x).map fun n => D.int n)) ρ' QD ↔ (opx (gLen x) fun n => QD (.ok (.int n) ρ')) := fun x ρ' => by cases gLen x <;> simp
  exact ev_congr this
@[simp] theorem ev_fld {L : List Str} {f : Str} : ev (mFld L f ma) ρ QD ↔ ev ma ρ (okx (fun x ρ1 => opx (gFld L f x) fun s => QD (.ok s ρ1)) fun C fs ρ' => QD (.ex C fs ρ')) := by simp only [mFld, ev_bnd, ev_opt]
@[simp] theorem ev_con {L : List (Str × D)} {f : Str} : ev (mCon L f ma) ρ QD ↔ ev ma ρ (okx (fun x ρ1 => opx (gCon L f x) fun s => QD (.ok s ρ1)) fun C fs ρ' => QD (.ex C fs ρ')) := by simp only [mCon, ev_bnd, ev_opt]
@[simp] theorem ev_items : ev (mItems ma) ρ QL ↔ ev ma ρ (okx (fun x ρ1 => opx (itemsD x) fun s => QL (.ok s ρ1)) fun C fs ρ' => QL (.ex C fs ρ')) := by simp only [mItems, ev_bnd, ev_opt]
@[simp] theorem ev_enum : ev (mEnum ma) ρ QL ↔ ev ma ρ (okx (fun x ρ1 => opx (itemsD x) fun s => QL (.ok (enumD s) ρ1)) fun C fs ρ' => QL (.ex C fs ρ')) := by
  unfold mEnum
  rw [ev_bnd]
  have : ∀ x ρ', ev (opt ((itemsD x).map enumD)) ρ' QL ↔ (opx (itemsD x) fun n => QL (.ok (enumD n) ρ')) := fun x ρ' => by cases itemsD x <;> simp
  exact ev_congr this
def rg (i : Int) : Prop := -(2 ^ 62) ≤ i ∧ i < 2 ^ 62
theorem rg_ok {i : Int} : rangeOk i = true ↔ rg i := by simp [rangeOk, rg]
@[simp] theorem ev_range1 : ev (mRange1 ma) ρ QL ↔ ev ma ρ (okx (fun x ρ1 => match x with
    | .int j => rg j ∧ QL (.ok (rangeD 0 j.toNat) ρ1)
    | _ => False) fun C fs ρ' => QL (.ex C fs ρ')) := by
  unfold mRange1
  rw [ev_bnd]
  have : ∀ x ρ', ev (match x with
    | D.int j => if rangeOk j = true then ret (rangeD 0 j.toNat) else fun _ => none
    | _ => fun _ => none) ρ' QL ↔ (match x with
    | D.int j => rg j ∧ QL (.ok (rangeD 0 j.toNat) ρ')
    | _ => False) := fun x ρ' => by
    cases x with
    | int j => by_cases h : rangeOk j = true <;> simp [h, ← rg_ok]
    | _ => simp
  exact ev_congr this
@[simp] theorem ev_range2 : ev (mRange2 ma mb) ρ QL ↔ ev ma ρ (okx (fun x ρ1 => ev mb ρ1 (okx (fun y ρ2 => match x, y with
    | .int i, .int j => (rg i ∧ rg j) ∧ QL (.ok (rangeD i (j - i).toNat) ρ2)
    | _, _ => False) fun C fs ρ' => QL (.ex C fs ρ'))) fun C fs ρ' => QL (.ex C fs ρ')) := by
  unfold mRange2
  rw [ev_bnd]
  refine ev_congr fun x ρ1 => ?_
  rw [ev_bnd]
  refine ev_congr fun y ρ2 => ?_
  have : ∀ x y ρ', ev (match x, y with
    | D.int i, D.int j => if (rangeOk i && rangeOk j) = true then ret (rangeD i (j - i).toNat) else fun _ => none
    | _, _ => fun _ => none) ρ' QL ↔ (match x, y with
    | D.int i, D.int j => (rg i ∧ rg j) ∧ QL (.ok (rangeD i (j - i).toNat) ρ')
    | _, _ => False) := fun x y ρ' => by
    cases x with
    | int i =>
      cases y with
      | int j => by_cases h : rangeOk i = true <;> by_cases h2 : rangeOk j = true <;> simp [h, h2, ← rg_ok]
      | _ => simp
    | _ => simp
  exact this x y ρ2
@[simp] theorem ev_appN {i : Nat} : ev (mAppN i ma) ρ QS ↔ (match ρ[i]? with
    | some (.lst _) => ev ma ρ (okx (fun d ρ' => match ρ'[i]? with
      | some (.lst xs) => xs.length < sizeLine ∧ QS (.ok (.val .non) (ρ'.set i (.lst (xs ++ [d]))))
      | _ => False) fun C fs ρ' => QS (.ex C fs ρ'))
    | _ => False) := by
  unfold mAppN
  rw [ev_listAt]
  have : ∀ d ρ', ev (onList i fun xs => if xs.length < sizeLine then some (.non, xs ++ [d]) else none) ρ' QS ↔ (match ρ'[i]? with
      | some (.lst xs) => xs.length < sizeLine ∧ QS (.ok (.val .non) (ρ'.set i (.lst (xs ++ [d]))))
      | _ => False) := fun d ρ' => by
    rw [ev_onList]
    cases h : ρ'[i]? with
    | none => simp
    | some s =>
      cases s with
      | lst xs => by_cases q : xs.length < sizeLine <;> simp [q]
      | _ => simp
  cases h : ρ[i]? with
  | none => simp
  | some s =>
    cases s with
    | lst xs => simp only [ev_bnd]; exact ev_congr this
    | _ => simp
@[simp] theorem ev_popN {i : Nat} : ev (mPopN i) ρ QS ↔ (match ρ[i]? with
    | some (.lst xs) => (opx (xs[xs.length - 1]?) fun d => QS (.ok (.val d) (ρ.set i (.lst xs.dropLast))))
    | _ => False) := by
  unfold mPopN
  rw [ev_onList]
  cases h : ρ[i]? with
  | none => simp
  | some s =>
    cases s with
    | lst xs =>
      cases q : xs[xs.length - 1]? with
      | none => simp [q]
      | some d => simp [q]
    | _ => simp
@[simp] theorem ev_revN {i : Nat} : ev (mRevN i) ρ QS ↔ (match ρ[i]? with
    | some (.lst xs) => QS (.ok (.val .non) (ρ.set i (.lst xs.reverse)))
    | _ => False) := by
  unfold mRevN
  rw [ev_onList] <;> exact Iff.rfl
@[simp] theorem ev_keyN {neg : Bool} {i : Nat} : ev (mKeyN neg i m) ρ QS ↔ ev m ρ (okx (fun y ρ' => match ρ'[i]? with
    | none => False
    | some .no => False
    | some s => (opx (gGetS s y) fun o => QS (.ok (.val (.bl (if neg = true then !o.isSome else o.isSome))) ρ'))) fun C fs ρ' => QS (.ex C fs ρ')) := by
  unfold mKeyN
  rw [ev_bnd]
  have : ∀ y ρ', ev (fun ρ => match ρ[i]? with
    | none => none
    | some .no => none
    | some s => match gGetS s y with
      | some o => ret (.val (.bl (if neg = true then !o.isSome else o.isSome))) ρ
      | none => none : ME S) ρ' QS ↔ (match ρ'[i]? with
    | none => False
    | some .no => False
    | some s => (opx (gGetS s y) fun o => QS (.ok (.val (.bl (if neg = true then !o.isSome else o.isSome))) ρ'))) := fun y ρ' => by
    unfold ev
    cases h : ρ'[i]? with
    | none => simp [h]
    | some s =>
      cases s with
      | no => simp [h]
      | _ =>
        simp only [h]
        split
        · rename_i o e; simp [e, ret]
        · rename_i e; simp [e]
  exact ev_congr this
@[simp] theorem ev_inN {neg : Bool} {i : Nat} : ev (mInN neg i m) ρ QS ↔ ev m ρ (okx (fun d ρ' => match ρ'[i]? with
    | some (.val y) => (opx (gIn neg d y) fun s => QS (.ok s ρ'))
    | some (.lst ys) => (opx (inD neg d ys) fun s => QS (.ok s ρ'))
    | _ => False) fun C fs ρ' => QS (.ex C fs ρ')) := by
  unfold mInN
  rw [ev_bnd]
  have : ∀ d ρ', ev (fun ρ => match ρ[i]? with
    | some (.val y) => opt (gIn neg d y) ρ
    | some (.lst ys) => opt (inD neg d ys) ρ
    | _ => none : ME S) ρ' QS ↔ (match ρ'[i]? with
    | some (.val y) => (opx (gIn neg d y) fun s => QS (.ok s ρ'))
    | some (.lst ys) => (opx (inD neg d ys) fun s => QS (.ok s ρ'))
    | _ => False) := fun d ρ' => by
    unfold ev
    cases h : ρ'[i]? with
    | none => simp [h]
    | some s =>
      cases s with
      | val y => simp only [h]; cases q : gIn neg d y <;> simp [opt]
      | lst y => simp only [h]; cases q : inD neg d y <;> simp [opt]
      | _ => simp [h]
  exact ev_congr this
@[simp] theorem run_rais {C f : Str} : run (sRaise1 C f m) ρ R ↔ ev m ρ (okx (fun d ρ' => R (.ex C [(f, d)] ρ')) fun C fs ρ' => R (.ex C fs ρ')) := by unfold sRaise1; rw [run_thn]; simp only [run_lam_some]
@[simp] theorem run_par {i j : Nat} : run (sPar i j ms) ρ R ↔ ev ms ρ (okx (fun ds ρ' => match ds with
    | [x, y] => (i < ρ'.length ∧ j < ρ'.length) ∧ R (.nx ((ρ'.set i (.val x)).set j (.val y)))
    | _ => False) fun C fs ρ' => R (.ex C fs ρ')) := by
  unfold sPar
  rw [run_thn]
  have : ∀ ds ρ', run (fun ρ => match ds with
    | [x, y] => if i < ρ.length ∧ j < ρ.length then some (.nx ((ρ.set i (.val x)).set j (.val y))) else none
    | _ => none : MS) ρ' R ↔ (match ds with
    | [x, y] => (i < ρ'.length ∧ j < ρ'.length) ∧ R (.nx ((ρ'.set i (.val x)).set j (.val y)))
    | _ => False) := fun ds ρ' => by
    unfold run
    match ds with
    | [] => simp
    | [_] => simp
    | [x, y] => by_cases h : i < ρ'.length ∧ j < ρ'.length <;> simp [h]
    | _ :: _ :: _ :: _ => simp
  exact ev_congr this
end
end L2.Fn
set_option maxRecDepth 100000
set_option maxHeartbeats 4000000
/-! LibM1: the walk over the ends of runs, paired. -/
namespace L2.Fn
/-- an end: a part and its side -/
abbrev En := Int × Int
def fl (e : En) : En := (e.1, 1 - e.2)
def IsE (l : List Int) (e : En) : Prop := e.1 ∈ l ∧ (e.2 = 0 ∨ e.2 = 1)
structure Pi (l : List Int) (p : En → En) : Prop where
  mem : ∀ e, IsE l e → IsE l (p e)
  inv : ∀ e, IsE l e → p (p e) = e
  ne : ∀ e, IsE l e → p e ≠ e
abbrev Sd := Int → Option Int
def Ent (s : Sd) (e : En) : Prop := s e.1 = some e.2
def Exi (s : Sd) (e : En) : Prop := s e.1 = some (1 - e.2)
def Cl (l : List Int) (p : En → En) (s : Sd) : Prop := ∀ e, IsE l e → (Ent s e → Exi s (p e)) ∧ (Exi s e → Ent s (p e))
def Sok (l : List Int) (s : Sd) : Prop := ∀ q v, s q = some v → q ∈ l ∧ (v = 0 ∨ v = 1)
structure Wlk (l : List Int) (p : En → En) (f : Int) (s : Sd) (c : En) : Prop where
  ok : Sok l s
  cE : IsE l c
  i1 : ∀ e, IsE l e → Ent s e → e ≠ (f, 0) → Exi s (p e)
  i2 : ∀ e, IsE l e → Exi s e → p e ≠ c → Ent s (p e)
  i3 : (c = (f, 0) ∧ s f = none) ∨ (Exi s (p c) ∧ Ent s (f, 0))
  i4 : ∀ e, IsE l e → Ent s e → e ≠ (f, 0) → e ≠ c
def upd1 (s : Sd) (q v : Int) : Sd := fun x => if x = q then some v else s x
/-! ### signs cancel -/
def bj (c : Bool) : Int := if c then 1 else 0
/-- consecutive entries belong together -/
def Prd (g : En → Int) : List (Int × En) → Prop
  | [] => True
  | [_] => False
  | a :: b :: r => (g a.2 + g b.2 = 0 ∧ (g a.2 = 1 ∨ g a.2 = -1)) ∧ Prd g r
def sgs (g : En → Int) (x : Int) (L : List (Int × En)) : Int := (L.map fun a => g a.2 * bj (decide (a.1 ≤ x))).sum
end L2.Fn
set_option maxRecDepth 100000
set_option maxHeartbeats 4000000
/-! LibM2: the ends in order, paired two by two. -/
namespace L2.Fn
def prs : List (Int × En) → List (En × En)
  | a :: b :: r => (a.2, b.2) :: (b.2, a.2) :: prs r
  | _ => []
def piOf (L : List (Int × En)) (e : En) : En := match (prs L).find? (fun q => decide (q.1 = e)) with
  | some q => q.2
  | none => e
/-! ### the halves -/
/-- all ends of the parts l -/
def ends (b e : Int → Int) (l : List Int) : List (Int × En) := l.flatMap fun p => [(b p, (p, 0)), (e p, (p, 1))]
def cv (b e : Int → Int) (l : List Int) (x : Int) : Int := (l.map fun p => bj (decide (b p ≤ x)) - bj (decide (e p ≤ x))).sum
def sg (s : Sd) (e : En) : Int := if s e.1 = some e.2 then 1 else -1
theorem psum {a b : List Int} (h : a.Perm b) : a.sum = b.sum := by
  induction h with
  | nil => rfl
  | cons x _ ih => simp [ih]
  | swap x y l => simp; omega
  | trans _ _ h1 h2 => rw [h1, h2]
end L2.Fn
set_option maxRecDepth 100000
set_option maxHeartbeats 4000000
/-! LibP1: what the small defs compute. -/
namespace L2.Fn
open PySem PySem.Spec PyProof.Rows L2
/-! ### calls, told -/
theorem cal_of {f : Fun'} {ss : List S} {r : CR} {C : CR → Prop} (h : f ss = some r) : cal f ss C ↔ C r := ⟨fun ⟨r', h1, h2⟩ => by rw [h] at h1; cases h1; exact h2, fun q => ⟨r, h, q⟩⟩
theorem of_cal {f : Fun'} {ss : List S} {r : CR} (h : cal f ss fun c => c = r) : f ss = some r := by
  obtain ⟨r', h1, rfl⟩ := h
  exact h1
theorem run_mono {s : MS} {ρ : Slots} {Q Q' : Out → Prop} (h : run s ρ Q) (k : ∀ o, Q o → Q' o) : run s ρ Q' := let ⟨r, h1, h2⟩ := h; ⟨r, h1, k _ h2⟩
theorem run_seq_of {s t : MS} {ρ : Slots} {R : Out → Prop} (P : Slots → Prop) (h1 : run s ρ fun o => ∃ ρ', o = .nx ρ' ∧ P ρ') (h2 : ∀ ρ', P ρ' → run t ρ' R) : run (sSeq s t) ρ R := by
  rw [run_seq]
  obtain ⟨r, e, ρ', rfl, p⟩ := h1
  exact ⟨_, e, h2 ρ' p⟩
@[simp] theorem ar_val {ρ : Slots} {d : D} : Ar.s ρ (.val d) = .val d := rfl
@[simp] theorem ar_io {ρ : Slots} {j : Nat} : Ar.s ρ (.io j) = (ρ[j]?).getD .no := rfl
@[simp] theorem io_nil : ioOk [] = true := rfl
@[simp] theorem io_val {d : D} {as : List Ar} : ioOk (.val d :: as) = ioOk as := rfl
@[simp] theorem io_io {j : Nat} {as : List Ar} : ioOk (.io j :: as) = ((as.all fun a => match a with
    | .io i => i != j
    | _ => true) && ioOk as) := rfl
@[simp] theorem back_nil {ss : List S} {ρ : Slots} : back [] ss ρ = ρ := by cases ss <;> rfl
@[simp] theorem back_no {as : List Ar} {ρ : Slots} : back as [] ρ = ρ := by cases as with
  | nil => rfl
  | cons a as => cases a <;> rfl
@[simp] theorem back_val {d : D} {as : List Ar} {ss : List S} {ρ : Slots} : back (.val d :: as) ss ρ = back as ss.tail ρ := by
  cases ss with
  | nil => simp
  | cons s ss => rfl
@[simp] theorem back_io {j : Nat} {as : List Ar} {s : S} {ss : List S} {ρ : Slots} : back (.io j :: as) (s :: ss) ρ = (back as ss ρ).set j s := rfl
@[simp] theorem crb_ret {as : List Ar} {ρ : Slots} {s : S} {ss : List S} : CR.back as ρ (.ret s ss) = .ok s (back as ss ρ) := rfl
@[simp] theorem crb_exc {as : List Ar} {ρ : Slots} {C : Str} {fs : List (Str × D)} {ss : List S} : CR.back as ρ (.exc C fs ss) = .ex C fs (back as ss ρ) := rfl
@[simp] theorem isT_i {f : String → Bool} {i : Int} : gIsT f (.int i) = some (.val (.bl (f "int"))) := rfl
@[simp] theorem isT_b {f : String → Bool} {i : Bool} : gIsT f (.bl i) = some (.val (.bl (f "bool"))) := rfl
@[simp] theorem isT_n {f : String → Bool} : gIsT f .non = some (.val (.bl (f "NoneType"))) := rfl
@[simp] theorem isT_s {f : String → Bool} {x : Str} : gIsT f (.str x) = some (.val (.bl (f "str"))) := rfl
@[simp] theorem isT_l {f : String → Bool} {x : List D} : gIsT f (.lst x) = some (.val (.bl (f "list"))) := rfl
@[simp] theorem isT_t {f : String → Bool} {x : List D} : gIsT f (.tup x) = some (.val (.bl (f "tuple"))) := rfl
@[simp] theorem isInt_int : isInt "int" = true := by decide
@[simp] theorem isInt_bool : isInt "bool" = true := by decide
@[simp] theorem isInt_none : isInt "NoneType" = false := by decide
@[simp] theorem isLT_list : isLT "list" = true := by decide
@[simp] theorem isLT_tup : isLT "tuple" = true := by decide
@[simp] theorem isLT_none : isLT "NoneType" = false := by decide
@[simp] theorem isN_int {i : Int} : gIsN (.int i) .non = some (.val (.bl false)) := rfl
@[simp] theorem isN_tup {i : List D} : gIsN (.tup i) .non = some (.val (.bl false)) := rfl
@[simp] theorem isN_non : gIsN .non .non = some (.val (.bl true)) := rfl
@[simp] theorem notN_non : gNotN .non .non = some (.val (.bl false)) := rfl
@[simp] theorem notN_int {i : Int} : gNotN (.int i) .non = some (.val (.bl true)) := rfl
@[simp] theorem one_le_size : 1 ≤ sizeLine := by decide
@[simp] theorem two_le_size : 2 ≤ sizeLine := by decide
@[simp] theorem three_le_size : 3 ≤ sizeLine := by decide
@[simp] theorem four_le_size : 4 ≤ sizeLine := by decide
theorem le_size {n : Nat} (h : n ≤ 16777216) : n ≤ sizeLine := h
theorem lt_size {n : Nat} (h : n < 16777216) : n < sizeLine := h
theorem atI_nat {α : Type} {xs : List α} {i : Nat} {a : α} (h : xs[i]? = some a) : atI xs (i : Int) = some a := by
  have hl := (List.getElem?_eq_some_iff.mp h).1
  have h1 : ((i : Nat) : Int) < xs.length := by omega
  unfold atI ixN
  simp [h1, h]
theorem rg_of {i : Int} (h1 : -1000000 ≤ i) (h2 : i ≤ 1000000) : rg i := ⟨by omega, by omega⟩

/-! ### small defs -/
@[simp] theorem e_is_int {i : Int} : f_is_int [.val (.int i)] = some (.ret (.val (.bl true)) [.val (.int i)]) := of_cal (by
  unfold f_is_int
  rw [cal_def]
  simp [m_is_int])
@[simp] theorem e_is_int_non : f_is_int [.val .non] = some (.ret (.val (.bl false)) [.val .non]) := of_cal (by
  unfold f_is_int
  rw [cal_def]
  simp [m_is_int])
@[simp] theorem c_is_int {i : Int} {C : CR → Prop} : cal f_is_int [.val (.int i)] C ↔ C (.ret (.val (.bl true)) [.val (.int i)]) := cal_of e_is_int
@[simp] theorem c_is_int_non {C : CR → Prop} : cal f_is_int [.val .non] C ↔ C (.ret (.val (.bl false)) [.val .non]) := cal_of e_is_int_non
theorem c_check {v least : Int} {nm : Str} {C : CR → Prop} (h : least ≤ v) : cal f_check_number [.val (.int v), .val (.str nm), .val (.int least), .val .non] C ↔ C (.ret (.val (.int v)) [.no, .val (.str nm), .val (.int least), .val .non]) := by
  refine cal_of (of_cal ?_)
  unfold f_check_number
  rw [cal_def]
  have : ¬ v < least := by omega
  simp [m_check_number, this]
theorem c_check2 {v least most : Int} {nm : Str} {C : CR → Prop} (h : least ≤ v) (h2 : v ≤ most) : cal f_check_number [.val (.int v), .val (.str nm), .val (.int least), .val (.int most)] C ↔ C (.ret (.val (.int v)) [.no, .val (.str nm), .val (.int least), .val (.int most)]) := by
  refine cal_of (of_cal ?_)
  unfold f_check_number
  rw [cal_def]
  have : ¬ v < least := by omega
  have h3 : ¬ most < v := by omega
  simp [m_check_number, this, h3]
/-- a run -/
def rn (r : Int × Int) : D := .tup [.int r.1, .int r.2]
theorem c_pair_of {size : Int} {r : Int × Int} {C : CR → Prop} (h : 0 ≤ r.1 ∧ r.1 < r.2 ∧ r.2 ≤ size) : cal f_pair_of [.val (.int size), .val (rn r)] C ↔ C (.ret (.val (rn r)) [.val (.int size), .val (rn r)]) := by
  refine cal_of (of_cal ?_)
  unfold f_pair_of
  rw [cal_def]
  have h1 : ¬ r.1 < 0 := by omega
  have h2 : ¬ r.2 ≤ r.1 := by omega
  have h3 : ¬ size < r.2 := by omega
  simp [m_pair_of, rn, gLen, h1, h2, h3]
end L2.Fn
set_option maxRecDepth 100000
set_option maxHeartbeats 4000000
/-! LibP2: the draws. -/
namespace L2.Fn
open PySem PySem.Spec PyProof.Rows L2
theorem gIx_scr {ns : List Int} {i : Nat} {x : Int} (h : ns[i]? = some x) : gIx (.scr (Js ns)) (.int (i : Int)) = some (.int x) := by
  show atI (Js ns) (i : Int) = _
  exact atI_nat (by simp [Js_get, h])
theorem pow18 : gPow (.int 10) (.int 18) = some (.val (.int 1000000000000000000)) := by
  show (if CPow 10 18 then some (S.val (.int (10 ^ (18 : Int).toNat))) else none) = _
  rw [if_pos ⟨by omega, by omega, by decide⟩] <;> rfl
theorem gMul_of {i j : Int} (h1 : -18446744073709551616 < i) (h2 : i < 18446744073709551616) : gMul (.int i) (.int j) = some (.val (.int (i * j))) := gMul_int (by omega) (by omega) (.inl ⟨by omega, by omega⟩)
theorem size_small : (16777216 : Nat) = sizeLine := by decide
/-- the first kind of cell: its digits -/
theorem draws_dig (s0 s2 s5 : S) (R : Out → Prop) (acc : List Int) (ha : ∀ x ∈ acc, 0 ≤ x) (hl : acc.length ≤ 10000) (cell : Int) (s4 : S) (h : ∀ acc', (∀ x ∈ acc', 0 ≤ x) → acc'.length ≤ acc.length + 60 → ∀ s3 s4, R (.nx [s0, .lst (Js acc'), s2, s3, s4, s5])) :
    run (sLoop (gSetM 4) (sIf (mTest (mOp gGt (mVar 3) (ret (D.int 0)))) (sSeq (sDrop (mAppN 1 (mCold (mOp gMod (mCold (mB1 gInt1 (mVar 3))) (ret (D.int 24)))))) (sAsg (mOp gDiv (mVar 3) (ret (D.int 24))) (gSetM 3))) sNil) (rangeD 0 60)) [s0, .lst (Js acc), s2, .val (.int cell), s4, s5] R := by
  refine run_loop (List.range 60) (fun done ρ => ∃ acc' c s4, ρ = [s0, .lst (Js acc'), s2, .val (.int c), s4, s5] ∧ (∀ x ∈ acc', 0 ≤ x) ∧ acc'.length ≤ acc.length + done.length) ⟨acc, cell, s4, rfl, ha, by simp⟩ ?_ ?_
  · rintro done i rest ρ e ⟨acc', c, s4, rfl, h1, h2⟩
    have hd : done.length ≤ 60 := by
      have := congrArg List.length e
      simp at this; omega
    have hs : acc'.length < sizeLine := by rw [← size_small]; omega
    by_cases hc : 0 < c
    · simp [hc, gMod_int (show (0 : Int) < 24 by omega), gDiv_int (show (0 : Int) < 24 by omega) (by omega), hs]
      refine ⟨acc' ++ [c % 24], by simp, ?_, by simp; omega⟩
      intro x hx
      rcases List.mem_append.mp hx with hx | hx
      · exact h1 x hx
      · have := List.mem_singleton.mp hx
        omega
    · simp [hc]
      exact ⟨acc', rfl, h1, by omega⟩
  · rintro ρ ⟨acc', c, s4, rfl, h1, h2⟩
    exact h acc' h1 (by simpa using h2) _ _
/-- the second kind: six numbers -/
theorem draws_six (s0 s3 : S) (R : Out → Prop) (acc : List Int) (ha : ∀ x ∈ acc, 0 ≤ x) (hl : acc.length ≤ 10000) (at' num : Int) (hat : 0 ≤ at' ∧ at' ≤ 63) (hn : 0 ≤ num ∧ num < 2147483647) (s4 : S) (h : ∀ acc', (∀ x ∈ acc', 0 ≤ x) → acc'.length ≤ acc.length + 6 → ∀ s4 s5, R (.nx [s0, .lst (Js acc'), .val (.int at'), s3, s4, s5])) :
    run (sLoop (gSetM 4) (sSeq (sAsg (mOp gMod (mCold (mB1 gInt1 (mCold (mOp gAdd (mCold (mOp gAdd (mCold (mOp gAdd (mCold (mOp gMul (mVar 5) (mVar 5))) (mCold (mOp gMul (mVar 4) (ret (D.int 40692)))))) (mVar 2))) (ret (D.int 7)))))) (ret (D.int 2147483563))) (gSetM 5)) (sDrop (mAppN 1 (mVar 5)))) (rangeD 0 6)) [s0, .lst (Js acc), .val (.int at'), s3, s4, .val (.int num)] R := by
  refine run_loop (List.range 6) (fun done ρ => ∃ acc' c s4, ρ = [s0, .lst (Js acc'), .val (.int at'), s3, s4, .val (.int c)] ∧ (0 ≤ c ∧ c < 2147483647) ∧ (∀ x ∈ acc', 0 ≤ x) ∧ acc'.length ≤ acc.length + done.length) ⟨acc, num, s4, rfl, hn, ha, by simp⟩ ?_ ?_
  · rintro done i rest ρ e ⟨acc', c, s4, rfl, hc, h1, h2⟩
    have hd : done.length ≤ 6 := by
      have := congrArg List.length e
      simp at this; omega
    have hi : i < 6 := by
      have : i ∈ List.range 6 := by rw [e]; simp
      simpa using this
    have hs : acc'.length < sizeLine := by rw [← size_small]; omega
    simp [gMul_of (i := c) (j := c) (by omega) (by omega), gMul_of (i := (i : Int)) (j := 40692) (by omega) (by omega), gMod_int (show (0 : Int) < 2147483563 by omega), hs]
    refine ⟨acc' ++ [(c * c + i * 40692 + at' + 7) % 2147483563], _, ⟨by simp, rfl⟩, ?_, ?_, by simp; omega⟩
    · omega
    · intro x hx
      rcases List.mem_append.mp hx with hx | hx
      · exact h1 x hx
      · have := List.mem_singleton.mp hx
        omega
  · rintro ρ ⟨acc', c, s4, rfl, hc, h1, h2⟩
    exact h acc' h1 (by simpa using h2) _ _
theorem s_draws (ns : List Int) (hn : ns.length ≤ 63) (C : CR → Prop) (h : ∀ ds ss, (∀ x ∈ ds, 0 ≤ x) → C (.ret (.lst (Js ds)) ss)) : cal f__law_draws [.val (.scr (Js ns))] C := by
  unfold f__law_draws
  rw [cal_def]
  simp only [m__law_draws]
  have hn' : ¬ (63 < (ns.length : Int)) := by omega
  simp [gLen, hn']
  refine ⟨rg_of (by omega) (by omega), ?_⟩
  show run (sLoop _ _ ((List.range ns.length).map fun i => D.int (0 + (i : Nat)))) _ _
  refine run_loop _ (fun done ρ => ∃ acc s2 s3 s4 s5, ρ = [.val (.scr (Js ns)), .lst (Js acc), s2, s3, s4, s5] ∧ (∀ x ∈ acc, 0 ≤ x) ∧ acc.length ≤ 60 * done.length) ⟨[], .no, .no, .no, .no, rfl, by simp, by simp⟩ ?_ ?_
  · rintro done i rest ρ e ⟨acc, s2, s3, s4, s5, rfl, ha, hl⟩
    have hi : i < ns.length := by
      have : i ∈ List.range ns.length := by rw [e]; simp
      simpa using this
    have hdl : done.length < 63 := by
      have := congrArg List.length e
      simp at this; omega
    have hx : ns[i]? = some ns[i] := by simp [hi]
    simp only [gev_set]
    refine ⟨by simp, ?_⟩
    simp only [List.set_cons_succ, List.set_cons_zero]
    refine run_seq_of (P := fun ρ' => ρ' = [.val (.scr (Js ns)), .lst (Js acc), .val (.int i), .val (.int ns[i]), s4, s5]) (by simp [gIx_scr hx]) ?_
    rintro ρ' rfl
    refine run_seq_of (P := fun ρ' => ∃ cell : Int, 0 ≤ cell ∧ ρ' = [.val (.scr (Js ns)), .lst (Js acc), .val (.int i), .val (.int cell), s4, s5]) ?_ ?_
    · by_cases hc : ns[i] < 0
      · simp [hc]; omega
      · simp [hc]; omega
    rintro ρ' ⟨cell, hcell, rfl⟩
    by_cases hb : 1000000000000000000 ≤ cell
    · simp [pow18, hb]
      refine ⟨rg_of (by omega) (by omega), ?_⟩
      exact draws_dig _ _ _ _ acc ha (by omega) cell _ fun acc' h1 h2 s3 s4 => ⟨acc', ⟨_, _, _, _, rfl⟩, h1, by omega⟩
    · simp [pow18, hb, gMul_of (i := cell) (j := 48271) (by omega) (by omega), gMul_of (i := (i : Int)) (j := 69621) (by omega) (by omega), gMod_int (show (0 : Int) < 2147483647 by omega)]
      refine ⟨rg_of (by omega) (by omega), ?_⟩
      exact draws_six _ _ _ acc ha (by omega) i _ ⟨by omega, by omega⟩ ⟨by omega, by omega⟩ _ fun acc' h1 h2 s4 s5 => ⟨acc', ⟨_, _, _, _, rfl⟩, h1, by omega⟩
  · rintro ρ ⟨acc, s2, s3, s4, s5, rfl, ha, hl⟩
    simp
    exact h _ _ (by simpa using ha)
/-- the next draw -/
def dr (ds : List Int) (m : Int) : Int := match ds.getLast? with
  | none => 0
  | some x => x % m
theorem dr_range {ds : List Int} {m : Int} (h : 0 < m) : 0 ≤ dr ds m ∧ dr ds m < m := by
  unfold dr
  split
  · omega
  · exact ⟨Int.emod_nonneg _ (by omega), Int.emod_lt_of_pos _ h⟩
theorem c_take {ds : List Int} {m : Int} {C : CR → Prop} (hm : 0 < m) : cal f__law_take [.lst (Js ds), .val (.int m)] C ↔ C (.ret (.val (.int (dr ds m))) [.lst (Js ds.dropLast), .val (.int m)]) := by
  refine cal_of (of_cal ?_)
  unfold f__law_take
  rw [cal_def]
  simp only [m__law_take]
  rcases List.eq_nil_or_concat ds with rfl | ⟨l, x, rfl⟩
  · simp [dr]
  · have : ¬ ((l.length : Int) + 1 = 0) := by omega
    simp [dr, this, gMod_int hm]
end L2.Fn
set_option maxRecDepth 100000
set_option maxHeartbeats 4000000
/-! LibP3: sets. -/
namespace L2.Fn
open PySem PySem.Spec PyProof.Rows L2
/-! ### dicts of ints as sets -/
def kd (l : List Int) : List (Key × D) := l.map fun i => (Sum.inl i, D.bl true)
@[simp] theorem kd_nil : kd [] = [] := rfl
@[simp] theorem kd_length (l : List Int) : (kd l).length = l.length := by simp [kd]
theorem valD_kd (i : Int) : ∀ l : List Int, (valD (kd l) (Sum.inl i)).isSome = decide (i ∈ l)
  | [] => rfl
  | a :: l => by
    have ih := valD_kd i l
    unfold valD kd at ih ⊢
    rw [List.map_cons, List.find?_cons]
    by_cases h : a = i
    · subst h; simp
    · have h2 : ¬ (Sum.inl a : Key) = Sum.inl i := fun e => h (Sum.inl.inj e)
      have h3 : i ≠ a := fun e => h e.symm
      simp only [h2, decide_false]
      rw [ih]
      simp [h3]
theorem valD_none {i : Int} {l : List Int} (h : i ∉ l) : valD (kd l) (Sum.inl i) = none := by
  have := valD_kd i l
  simp only [h, decide_false] at this
  exact Option.isSome_eq_false_iff.mp this |> Option.isNone_iff_eq_none.mp
theorem putD_kd (i : Int) (l : List Int) : putD (kd l) (Sum.inl i) (.bl true) = if i ∈ l then kd l else kd (l ++ [i]) := by
  have h1 : ((kd l).any fun kv => decide (kv.1 = Sum.inl i)) = decide (i ∈ l) := by
    induction l with
    | nil => rfl
    | cons a l ih =>
      show (decide ((Sum.inl a : Key) = Sum.inl i) || (kd l).any _) = _
      rw [ih]
      by_cases h : a = i
      · subst h; simp
      · have h2 : ¬ (Sum.inl a : Key) = Sum.inl i := fun e => h (Sum.inl.inj e)
        have h3 : i ≠ a := fun e => h e.symm
        simp [h2, h3]
  unfold putD
  rw [h1]
  by_cases h : i ∈ l
  · simp only [h, decide_true, if_true]
    unfold kd
    rw [List.map_map]
    apply List.map_congr_left
    intro a _
    show (if (Sum.inl a : Key) = Sum.inl i then ((Sum.inl a : Key), D.bl true) else (Sum.inl a, D.bl true)) = _
    split <;> rfl
  · simp only [h, decide_false, Bool.false_eq_true, if_false]
    simp [kd]
theorem kd_out (l : List Int) : ((kd l).map fun kv => keyOut kv.1) = Js l := by simp [kd, Js, keyOut, Function.comp_def]
@[simp] theorem run_putN {i : Nat} {mk mv : ME D} {ρ : Slots} {R : Out → Prop} : run (sPutN i mk mv) ρ R ↔ ev mv ρ (okx (fun d ρ1 => match ρ1[i]? with
    | none => False
    | some .no => False
    | some _ => ev mk ρ1 (okx (fun k ρ2 => match ρ2[i]? with
      | some s => opx (gPutS s k d) fun s' => R (.nx (ρ2.set i s'))
      | none => False) fun C fs ρ' => R (.ex C fs ρ'))) fun C fs ρ' => R (.ex C fs ρ')) := by
  unfold sPutN
  rw [run_thn]
  have key : ∀ d ρ1, run (mk.thn fun k ρ => match ρ[i]? with
    | some s => (gPutS s k d).map fun s' => Out.nx (ρ.set i s')
    | none => none) ρ1 R ↔ ev mk ρ1 (okx (fun k ρ2 => match ρ2[i]? with
      | some s => opx (gPutS s k d) fun s' => R (.nx (ρ2.set i s'))
      | none => False) fun C fs ρ' => R (.ex C fs ρ')) := fun d ρ1 => by
    rw [run_thn]
    refine ev_congr fun k ρ2 => ?_
    unfold run
    cases h : ρ2[i]? with
    | none => simp [h]
    | some s => cases q : gPutS s k d <;> simp [h, q]
  refine ev_congr fun d ρ1 => ?_
  cases h : ρ1[i]? with
  | none => unfold run; simp [h]
  | some s =>
    cases s with
    | no => unfold run; simp [h]
    | _ =>
      rw [← key d ρ1]
      unfold run
      simp only [h] <;> exact Iff.rfl
theorem gPut_kd {l : List Int} {i : Int} (hl : l.length < 16777216) : gPutS (.dK (kd l)) (.int i) (.bl true) = some (.dK (if i ∈ l then kd l else kd (l ++ [i]))) := by
  show (if (kd l).length < sizeLine then (some (Sum.inl i : Key)).map (fun k => S.dK (putD (kd l) k (.bl true))) else none) = _
  rw [if_pos (by rw [kd_length]; exact lt_size hl), Option.map_some, putD_kd]
theorem gGet_kd {l : List Int} {i : Int} : gGetS (.dK (kd l)) (.int i) = some (valD (kd l) (Sum.inl i)) := rfl
/-- the set told as a tuple -/
def tp (l : List Int) : D := .tup (Js l)
theorem sortI_of {l : List Int} (h : l.Pairwise (· ≤ ·)) : sortI l = l := (sortI_eq (List.Perm.refl l) h).symm
/-! ### loops in two parts, enumerated lists -/
theorem run_loop_app {γ : Type} {f : γ → D} {g : MG} {b : MS} {ρ : Slots} {R : Out → Prop} (xs : List γ) (ys : List D) (I : List γ → Slots → Prop) (h0 : I [] ρ)
    (hs : ∀ done x rest ρ, xs = done ++ x :: rest → I done ρ → gev g (.val (f x)) ρ fun ρ1 => run b ρ1 fun o => match o with
      | .nx ρ' => I (done ++ [x]) ρ'
      | _ => False)
    (he : ∀ ρ, I xs ρ → run (sLoop g b ys) ρ R) : run (sLoop g b (xs.map f ++ ys)) ρ R := by
  suffices H : ∀ rest done ρ, xs = done ++ rest → I done ρ → run (sLoop g b (rest.map f ++ ys)) ρ R from H xs [] ρ rfl h0
  intro rest
  induction rest with
  | nil => intro done ρ e i; rw [List.append_nil] at e; subst e; exact he ρ i
  | cons x rest ih =>
    intro done ρ e i
    obtain ⟨ρ1, h1, r, h2, h3⟩ := hs done x rest ρ e i
    unfold run
    simp only [List.map_cons, List.cons_append, sLoop, h1, h2]
    cases r with
    | nx ρ' => exact ih (done ++ [x]) ρ' (by simp [e]) h3
    | _ => exact h3.elim
theorem run_loop_nil {g : MG} {b : MS} {ρ : Slots} {R : Out → Prop} (h : R (.nx ρ)) : run (sLoop g b []) ρ R := ⟨_, rfl, h⟩
/-- an item of an enumerated list -/
def en (p : Int × Nat) : D := .tup [.int (p.2 : Nat), .int p.1]
theorem enumD_Js (l : List Int) (ys : List D) : enumD (Js l ++ ys) = (l.zipIdx.map en) ++ ys.mapIdx fun i d => D.tup [.int ((l.length + i : Nat) : Int), d] := by
  unfold enumD
  rw [List.mapIdx_append, Js_length]
  congr 1
  · apply List.ext_getElem?
    intro i
    rw [List.getElem?_mapIdx, Js_get, List.getElem?_map, List.getElem?_zipIdx]
    cases h : l[i]? with
    | none => simp
    | some x => simp [en]
  · apply List.ext_getElem?
    intro i
    rw [List.getElem?_mapIdx, List.getElem?_mapIdx]
    cases h : ys[i]? with
    | none => simp
    | some x => simp [Nat.add_comm]
theorem zip_split {l : List Int} {done rest : List (Int × Nat)} {x : Int × Nat} (e : l.zipIdx = done ++ x :: rest) : l = done.map (·.1) ++ x.1 :: rest.map (·.1) ∧ x.2 = done.length := by
  have h1 : l.zipIdx.map (·.1) = l := by simp
  refine ⟨by rw [← h1, e]; simp, ?_⟩
  have h2 : l.zipIdx[done.length]? = some x := by rw [e]; simp
  rw [List.getElem?_zipIdx] at h2
  cases h : l[done.length]? with
  | none => rw [h] at h2; cases h2
  | some y => rw [h] at h2; cases h2; simp
/-! ### set_of -/
/-- the loop of set_of, over good parts -/
def bSet : MS := (sSeq (sIf (mOr (mNot (mTest (mCall f_is_int [] (aCons (mVar 4) aNil)))) (mOr (mTest (mOp gLt (mVar 4) (ret (.int 0)))) (mOr (mTest (mOp gGe (mVar 4) (mVar 0))) (mTest (mKeyN false 2 (mVar 4)))))) (sRaise1 "BadSet" "place" (mVar 3)) sNil)
      (sPutN 2 (mVar 4) (ret (.bl true))))
theorem set_loop {many : Int} {dp : D} {l : List Int} (R : Out → Prop) (hl : l.Nodup) (hr : ∀ x ∈ l, 0 ≤ x ∧ x < many) (hn : l.length ≤ 10000) (ys : List D) (s3 s4 : S)
    (h : ∀ s3 s4, run (sLoop (gTupM 2 (gConsM (gSetM 3) (gConsM (gSetM 4) gNilM))) bSet (ys.mapIdx fun i d => D.tup [.int ((l.length + i : Nat) : Int), d])) [.val (.int many), .val dp, .dK (kd l), s3, s4] R) :
    run (sLoop (gTupM 2 (gConsM (gSetM 3) (gConsM (gSetM 4) gNilM))) bSet (enumD (Js l ++ ys))) [.val (.int many), .val dp, .dK [], s3, s4] R := by
  rw [enumD_Js]
  refine run_loop_app l.zipIdx _ (fun done ρ => ∃ s3 s4, ρ = [.val (.int many), .val dp, .dK (kd (done.map (·.1))), s3, s4]) ⟨s3, s4, rfl⟩ ?_ ?_
  · rintro done x rest ρ e ⟨s3, s4, rfl⟩
    obtain ⟨e1, e2⟩ := zip_split e
    have hx : x.1 ∈ l := by rw [e1]; simp
    have hnx : x.1 ∉ done.map (·.1) := by
      intro hm
      rw [e1] at hl
      exact (List.nodup_append.mp hl).2.2 _ hm _ List.mem_cons_self rfl
    have hlen : (done.map (·.1)).length < 16777216 := by
      have := congrArg List.length e1
      simp at this ⊢; omega
    have h1 : ¬ x.1 < 0 := by have := (hr _ hx).1; omega
    have h2 : ¬ many ≤ x.1 := by have := (hr _ hx).2; omega
    simp only [en, bSet]
    simp [h1, h2, gGet_kd, valD_none hnx, gPut_kd hlen, hnx]
  · rintro ρ ⟨s3, s4, rfl⟩
    have : l.zipIdx.map (·.1) = l := by simp
    rw [this]
    exact h s3 s4
/-- good parts as a list or a tuple -/
def Parts (dp : D) (l : List Int) : Prop := dp = .lst (Js l) ∨ dp = .tup (Js l)
theorem gSorted_Js (l : List Int) : gSorted (.lst (Js l)) = some (.lst (Js (sortI l))) := by
  show (intsD (Js l)).map _ = _
  rw [intsD_Js]; rfl
theorem c_set_of {many : Int} {l : List Int} {dp : D} {C : CR → Prop} (hp : Parts dp l) (hl : l.Nodup) (hr : ∀ x ∈ l, 0 ≤ x ∧ x < many) (hn : l.length ≤ 10000) (hm : 0 ≤ many) : cal f_set_of [.val (.int many), .val dp] C ↔ C (.ret (.val (tp (sortI l))) [.val (.int many), .val dp]) := by
  refine cal_of (of_cal ?_)
  unfold f_set_of
  rw [cal_def]
  have fin : itemsD dp = some (Js l) ∧ gIsT isLT dp = some (.val (.bl true)) := by
    rcases hp with rfl | rfl
    · exact ⟨rfl, by simp⟩
    · exact ⟨rfl, by simp⟩
  simp [m_set_of, c_check hm, fin.1, fin.2]
  have := set_loop (many := many) (dp := dp) (l := l) (R := nxt (fun ρ' => run (sRet (mB1 gTuple (mCold (mB1 gSorted (mCold (mListKN 2)))))) ρ' fun o => o = .rt (.val (tp (sortI l))) ρ' ∧ ∃ s3 s4, ρ' = [.val (.int many), .val dp, .dK (kd l), s3, s4]) fun _ => False) hl hr hn [] .no .no (fun s3 s4 => run_loop_nil (by simp [kd_out, gSorted_Js, gTuple, tp]))
  rw [List.append_nil] at this
  refine run_mono this ?_
  intro o ho
  cases o with
  | nx ρ' =>
    simp only [nxt_nx] at ho ⊢
    obtain ⟨r, h1, rfl, s3, s4, rfl⟩ := ho
    simp [kd_out, gSorted_Js, gTuple, tp]
  | _ => exact ho.elim
/-- a part that is none -/
def BadP (many : Int) (d : D) : Prop := d = .non ∨ ∃ k, d = .int k ∧ (k < 0 ∨ many ≤ k)
end L2.Fn
set_option maxRecDepth 100000
set_option maxHeartbeats 4000000
/-! LibP4: both, common, minus. -/
namespace L2.Fn
open PySem PySem.Spec PyProof.Rows L2
/-- of b, what a has not; what a has -/
def nb (a b : List Int) : List Int := b.filter fun x => !decide (x ∈ a)
def cb (a b : List Int) : List Int := b.filter fun x => decide (x ∈ a)
def un (a b : List Int) : List Int := sortI (a ++ nb a b)
@[simp] theorem items_tp (l : List Int) : itemsD (tp l) = some (Js l) := rfl
end L2.Fn
set_option maxRecDepth 100000
set_option maxHeartbeats 4000000
/-! LibP5: markets made. -/
namespace L2.Fn
open PySem PySem.Spec PyProof.Rows L2
section
variable {m : ME D} {ρ : Slots} {R : Out → Prop}
@[simp] theorem run_fldN {L : List Str} {f : Str} {i : Nat} : run (sFldN L f i m) ρ R ↔ ev m ρ (okx (fun d ρ' => match ρ'[i]? with
    | some (.ins C fs) => (C ∈ L ∧ fs.length < 1000) ∧ R (.nx (ρ'.set i (.ins C (putD' f d fs))))
    | _ => False) fun C fs ρ' => R (.ex C fs ρ')) := by
  unfold sFldN
  rw [run_thn]
  refine ev_congr fun d ρ' => ?_
  unfold run
  cases h : ρ'[i]? with
  | none => simp [h]
  | some s =>
    cases s with
    | ins C fs => by_cases q : C ∈ L ∧ fs.length < 1000 <;> simp [h, q]
    | _ => simp [h]
/-- what __init__ left of the new instance -/
def made (C : Str) (Q : Ex S → Prop) (ρ : Slots) : CR → Prop
  | .ret (.val .non) (.ins C' fs :: _) => C' = C ∧ Q (.ok (.ins C fs) ρ)
  | .exc E fs _ => Q (.ex E fs ρ)
  | _ => False
@[simp] theorem ev_make {C : Str} {f : Fun'} {n k : Nat} {ms mk : ME (List D)} {Q : Ex S → Prop} : ev (mMakeK C f n k ms mk) ρ Q ↔ ev ms ρ (okx (fun ds ρ1 => ev mk ρ1 (okx (fun ks ρ2 => (ds.length = n ∧ ks.length = k) ∧ cal f (.ins C [] :: (ds ++ ks).map .val) (made C Q ρ2)) fun C fs ρ' => Q (.ex C fs ρ'))) fun C fs ρ' => Q (.ex C fs ρ')) := by
  unfold mMakeK
  rw [ev_bnd]
  refine ev_congr fun ds ρ1 => ?_
  rw [ev_bnd]
  refine ev_congr fun ks ρ2 => ?_
  unfold ev cal mMakeR
  by_cases h : ds.length = n ∧ ks.length = k
  · simp only [h, and_self, if_true, true_and]
    cases q : f (.ins C [] :: (ds ++ ks).map .val) with
    | none => simp
    | some c =>
      cases c with
      | exc E fs ss => simp [made]
      | ret s ss =>
        cases s with
        | val d =>
          cases d with
          | non =>
            cases ss with
            | nil => simp [made]
            | cons s0 ss =>
              cases s0 with
              | ins C' fs => by_cases e : C' = C <;> simp [made, e]
              | _ => simp [made]
          | _ => simp [made]
        | _ => simp [made]
  · simp [h]
end
/-! ### lists of runs -/
def Rs (rs : List (Int × Int)) : List D := rs.map rn
@[simp] theorem Rs_length (l : List (Int × Int)) : (Rs l).length = l.length := by simp [Rs]
@[simp] theorem Rs_nil : Rs [] = [] := rfl
theorem Rs_append (a b : List (Int × Int)) : Rs (a ++ b) = Rs a ++ Rs b := by simp [Rs]
theorem Rs_get (a : List (Int × Int)) (i : Nat) : (Rs a)[i]? = (a[i]?).map rn := by simp [Rs]
theorem enumD_map {γ : Type} (f : γ → D) (xs : List γ) : enumD (xs.map f) = xs.zipIdx.map fun p => D.tup [.int (p.2 : Nat), f p.1] := by
  unfold enumD
  apply List.ext_getElem?
  intro i
  rw [List.getElem?_mapIdx, List.getElem?_map, List.getElem?_map, List.getElem?_zipIdx]
  cases h : xs[i]? with
  | none => simp
  | some x => simp
theorem zip_split' {γ : Type} {l : List γ} {done rest : List (γ × Nat)} {x : γ × Nat} (e : l.zipIdx = done ++ x :: rest) : l = done.map (·.1) ++ x.1 :: rest.map (·.1) ∧ x.2 = done.length := by
  have h1 : l.zipIdx.map (·.1) = l := by simp
  refine ⟨by rw [← h1, e]; simp, ?_⟩
  have h2 : l.zipIdx[done.length]? = some x := by rw [e]; simp
  rw [List.getElem?_zipIdx] at h2
  cases h : l[done.length]? with
  | none => rw [h] at h2; cases h2
  | some y => rw [h] at h2; cases h2; simp
/-- runs within a row -/
def InRow (size : Int) (rs : List (Int × Int)) : Prop := ∀ r ∈ rs, 0 ≤ r.1 ∧ r.1 < r.2 ∧ r.2 ≤ size
theorem c_runs_of {size : Int} {rs : List (Int × Int)} {C : CR → Prop} (h : InRow size rs) (hn : rs.length ≤ 10000) : cal f__runs_of [.val (.int size), .val (.lst (Rs rs))] C ↔ C (.ret (.val (.tup (Rs rs))) [.val (.int size), .val (.lst (Rs rs))]) := by
  refine cal_of (of_cal ?_)
  unfold f__runs_of
  rw [cal_def]
  simp [m__runs_of, itemsD]
  rw [show enumD (Rs rs) = _ from enumD_map rn rs]
  refine run_loop rs.zipIdx (fun done ρ => ∃ s3 s4 s5, ρ = [.val (.int size), .val (.lst (Rs rs)), .lst (Rs (done.map (·.1))), s3, s4, s5]) ⟨_, _, _, rfl⟩ ?_ ?_
  · rintro done x rest ρ e ⟨s3, s4, s5, rfl⟩
    obtain ⟨e1, e2⟩ := zip_split' e
    have hx : x.1 ∈ rs := by rw [e1]; simp
    have hlen : done.length < sizeLine := lt_size (by
      have := congrArg List.length e1
      simp at this; omega)
    simp [c_pair_of (h _ hx), Rs_append, hlen]
    simp [rn, Rs]
  · rintro ρ ⟨s3, s4, s5, rfl⟩
    have : rs.zipIdx.map (·.1) = rs := by simp
    simp [this, gTuple]
/-- a market -/
def mkt (K : Str) (size : Int) (rs : List (Int × Int)) (gone : List Int) : List (Str × D) := [("size", .int size), ("runs", .tup (Rs rs)), ("gone", tp gone)]
theorem c_market {K : Str} {size : Int} {rs : List (Int × Int)} {gone : List Int} {dg : D} {C : CR → Prop} (hK : K ∈ KS) (h1 : 1 ≤ size) (h2 : size ≤ 30) (h : InRow size rs) (hn : rs.length ≤ 10000) (hp : Parts dg gone) (hg : gone.Nodup) (hr : ∀ x ∈ gone, 0 ≤ x ∧ x < rs.length) (hgn : gone.length ≤ 10000) :
    cal f_Market___init__ [.ins K [], .val (.int size), .val (.lst (Rs rs)), .val dg] C ↔ C (.ret (.val .non) [.ins K (mkt K size rs (sortI gone)), .val (.int size), .val (.lst (Rs rs)), .val dg]) := by
  refine cal_of (of_cal ?_)
  unfold f_Market___init__
  rw [cal_def]
  have e1 : ¬ (("size" : Str) = "runs") := by decide
  have e3 : ¬ (("size" : Str) = "gone") := by decide
  have e4 : ¬ (("runs" : Str) = "gone") := by decide
  have e2 : List.lookup ("runs" : Str) [("size", D.int size), ("runs", D.tup (Rs rs))] = some (.tup (Rs rs)) := by
    rw [List.lookup_cons]
    have : (("runs" : Str) == "size") = false := by decide
    rw [this]
    simp
  have hs := fun C => c_set_of (C := C) hp hg hr hgn (many := rs.length) (by omega)
  simp [m_Market___init__, c_check2 h1 h2, c_runs_of h hn, hK, putD', e1, e2, e3, e4, gLen, hs, mkt]
/-- the fields of a market -/
theorem lk_size {K : Str} {size : Int} {rs : List (Int × Int)} {gone : List Int} : List.lookup ("size" : Str) (mkt K size rs gone) = some (.int size) := by simp [mkt]
theorem lk_runs {K : Str} {size : Int} {rs : List (Int × Int)} {gone : List Int} : List.lookup ("runs" : Str) (mkt K size rs gone) = some (.tup (Rs rs)) := by
  unfold mkt
  rw [List.lookup_cons, show (("runs" : Str) == "size") = false by decide]
  simp
theorem lk_gone {K : Str} {size : Int} {rs : List (Int × Int)} {gone : List Int} : List.lookup ("gone" : Str) (mkt K size rs gone) = some (tp gone) := by
  unfold mkt
  rw [List.lookup_cons, show (("gone" : Str) == "size") = false by decide]
  rw [List.lookup_cons, show (("gone" : Str) == "runs") = false by decide]
  simp
theorem c_sup {K : Str} {f : Fun'} {ss ss' : List S} {fs : List (Str × D)} {C : CR → Prop} (h : f (.ins K fs :: ss) = some (.ret (.val .non) ss')) : cal (fnSup K f) (.ins K fs :: ss) C ↔ C (.ret (.val .non) ss') := by
  refine cal_of ?_
  unfold fnSup
  simp [h]
def kinds : List Str := ["join", "lap"]
/-- the class of a kind -/
def clsOf (k : Str) : Str := if k = "join" then "Join" else "Lap"
theorem c_built {k : Str} {size : Int} {rs : List (Int × Int)} {gone : List Int} {dg : D} {C : CR → Prop} (hk : k ∈ kinds) (h1 : 1 ≤ size) (h2 : size ≤ 30) (h : InRow size rs) (hn : rs.length ≤ 10000) (hp : Parts dg gone) (hg : gone.Nodup) (hr : ∀ x ∈ gone, 0 ≤ x ∧ x < rs.length) (hgn : gone.length ≤ 10000) :
    cal f__law_built [.val (.str k), .val (.int size), .val (.lst (Rs rs)), .val dg] C ↔ C (.ret (.ins (clsOf k) (mkt (clsOf k) size rs (sortI gone))) [.val (.str k), .val (.int size), .val (.lst (Rs rs)), .val dg]) := by
  refine cal_of (of_cal ?_)
  unfold f__law_built
  rw [cal_def]
  have ej : ∀ C : CR → Prop, cal f_Join___init__ [.ins "Join" [], .val (.int size), .val (.lst (Rs rs)), .val dg] C ↔ C (.ret (.val .non) [.ins "Join" (mkt "Join" size rs (sortI gone)), .val (.int size), .val (.lst (Rs rs)), .val dg]) := fun C => by
    refine c_sup (of_cal ?_)
    rw [c_market (K := "Join") (by decide) h1 h2 h hn hp hg hr hgn]
  have el : ∀ C : CR → Prop, cal f_Lap___init__ [.ins "Lap" [], .val (.int size), .val (.lst (Rs rs)), .val dg] C ↔ C (.ret (.val .non) [.ins "Lap" (mkt "Lap" size rs (sortI gone)), .val (.int size), .val (.lst (Rs rs)), .val dg]) := fun C => by
    refine c_sup (of_cal ?_)
    rw [c_market (K := "Lap") (by decide) h1 h2 h hn hp hg hr hgn]
  have e1 : gEq (.str "join") (.str "join") = some (.val (.bl true)) := by kernel_rfl
  have e2 : gEq (.str "lap") (.str "join") = some (.val (.bl false)) := by kernel_rfl
  rcases List.mem_cons.mp hk with rfl | hk
  · simp [m__law_built, e1, ej, made, clsOf]
  · rcases List.mem_cons.mp hk with rfl | hk
    · have : ¬ (("lap" : Str) = "join") := by decide
      simp [m__law_built, e2, el, made, clsOf, this]
    · cases hk
end L2.Fn
set_option maxRecDepth 100000
set_option maxHeartbeats 4000000
/-! LibP6: what is drawn. -/
namespace L2.Fn
open PySem PySem.Spec PyProof.Rows L2
theorem run_loop' {γ : Type} {f : γ → D} {g : MG} {b : MS} {ρ : Slots} {R : Out → Prop} (xs : List γ) (I : List γ → Slots → Prop) (h0 : I [] ρ)
    (hs : ∀ done x rest ρ, xs = done ++ x :: rest → I done ρ → ∃ ρ', (gev g (.val (f x)) ρ fun ρ1 => run b ρ1 fun o => o = .nx ρ') ∧ I (done ++ [x]) ρ')
    (he : ∀ ρ, I xs ρ → R (.nx ρ)) : run (sLoop g b (xs.map f)) ρ R :=
  run_loop xs I h0 (fun done x rest ρ e i => by
    obtain ⟨ρ', ⟨ρ1, h1, r, h2, rfl⟩, h3⟩ := hs done x rest ρ e i
    exact ⟨ρ1, h1, _, h2, h3⟩) he
theorem x_kind {ds : List Int} {C : CR → Prop} (h : ∀ k ds', k ∈ kinds → C (.ret (.val (.str k)) [.lst (Js ds')])) : cal f__law_kind [.lst (Js ds)] C := by
  unfold f__law_kind
  rw [cal_def]
  simp [m__law_kind, c_take (show (0 : Int) < 3 by omega)]
  split
  · exact h _ _ (by decide)
  · exact h _ _ (by decide)
end L2.Fn
set_option maxRecDepth 100000
set_option maxHeartbeats 4000000
/-! LibP7: the market drawn. -/
namespace L2.Fn
open PySem PySem.Spec PyProof.Rows L2
theorem InRow.append {size : Int} {a b : List (Int × Int)} (h : InRow size a) (g : InRow size b) : InRow size (a ++ b) := fun r hr => (List.mem_append.mp hr).elim (h r) (g r)
theorem InRow.sub {size : Int} {a b : List (Int × Int)} (h : InRow size a) (g : ∀ x ∈ b, x ∈ a) : InRow size b := fun r hr => h r (g r hr)
theorem InRow.nil {size : Int} : InRow size [] := fun r hr => by cases hr
/-- the inner loop of _law_chains: one chain -/
def bChains : MS := (sIf (mTest (mOp gLt (mVar 4) (mVar 1))) (sSeq (sAsg (mOp gMin2 (mVar 1) (mCold (mOp gAdd (mCold (mOp gAdd (mVar 4) (ret (.int 1)))) (mCold (mCall f__law_take [] (mIo 0 (aCons (mVar 1) aNil))))))) (gSetM 6))
  (sSeq (sDrop (mAppN 2 (mTup (mCons (mVar 4) (mCons (mVar 6) mNil)))))
  (sAsg (mWarm (mVar 6)) (gSetM 4)))) sNil)
theorem chains_in {ds : List Int} {size start : Int} {rs : List (Int × Int)} {s3 s5 s6 : S} {R : Out → Prop} (hs : 0 < size) (hs2 : size ≤ 30) (h0 : 0 ≤ start) (h1 : start ≤ size) (hr : InRow size rs) (hl : rs.length ≤ 1000)
    (h : ∀ rs' ds' st s5 s6, InRow size rs' → rs'.length ≤ rs.length + 30 → R (.nx [.lst (Js ds'), .val (.int size), .lst (Rs rs'), s3, st, s5, s6])) :
    run (sLoop (gSetM 5) bChains (rangeD 0 size.toNat)) [.lst (Js ds), .val (.int size), .lst (Rs rs), s3, .val (.int start), s5, s6] R := by
  show run (sLoop _ _ ((List.range size.toNat).map fun i => D.int (0 + (i : Nat)))) _ _
  refine run_loop' _ (fun done ρ => ∃ rs' ds' st s5 s6, ρ = [.lst (Js ds'), .val (.int size), .lst (Rs rs'), s3, .val (.int st), s5, s6] ∧ InRow size rs' ∧ rs'.length ≤ rs.length + done.length ∧ 0 ≤ st ∧ st ≤ size) ⟨rs, ds, start, s5, s6, rfl, hr, by simp, h0, h1⟩ ?_ ?_
  · rintro done i rest ρ e ⟨rs', ds', st, s5, s6, rfl, a1, a2, a3, a4⟩
    have hdl : done.length ≤ 30 := by
      have := congrArg List.length e
      simp at this; omega
    by_cases hc : st < size
    · have hd := dr_range (ds := ds') hs
      have hlen : rs'.length < sizeLine := lt_size (by omega)
      obtain ⟨stop, hst⟩ : ∃ stop, (if st + 1 + dr ds' size < size then st + 1 + dr ds' size else size) = stop := ⟨_, rfl⟩
      have hb : st < stop ∧ stop ≤ size := by
        rw [← hst]; split <;> omega
      refine ⟨[.lst (Js ds'.dropLast), .val (.int size), .lst (Rs (rs' ++ [(st, stop)])), s3, .val (.int stop), .val (.int (0 + (i : Nat))), .val (.int stop)], by simp [bChains, hc, c_take hs, hst, hlen, Rs, rn], rs' ++ [(st, stop)], ds'.dropLast, stop, _, _, rfl, ?_, by simp; omega, by omega, by omega⟩
      refine a1.append fun r hr => ?_
      simp at hr; subst hr
      exact ⟨by simp; omega, by simp; omega, by simp; omega⟩
    · exact ⟨[.lst (Js ds'), .val (.int size), .lst (Rs rs'), s3, .val (.int st), .val (.int (0 + (i : Nat))), s6], by simp [bChains, hc], rs', ds', st, _, _, rfl, a1, by simp; omega, a3, a4⟩
  · rintro ρ ⟨rs', ds', st, s5, s6, rfl, a1, a2, a3, a4⟩
    exact h rs' ds' _ _ _ a1 (by simp at a2; omega)
theorem x_chains {ds : List Int} {size : Int} {C : CR → Prop} (hs : 0 < size) (hs2 : size ≤ 30) (h : ∀ rs ds', InRow size rs → rs.length ≤ 1000 → C (.ret (.lst (Rs rs)) [.lst (Js ds'), .val (.int size)])) : cal f__law_chains [.lst (Js ds), .val (.int size)] C := by
  unfold f__law_chains
  rw [cal_def]
  simp only [m__law_chains]
  refine run_seq_of (P := fun ρ => ρ = [.lst (Js ds), .val (.int size), .lst (Rs []), .no, .no, .no, .no]) (by simp) ?_
  rintro ρ rfl
  refine run_seq_of (P := fun ρ => ∃ rs ds' s3 s4 s5 s6, ρ = [.lst (Js ds'), .val (.int size), .lst (Rs rs), s3, s4, s5, s6] ∧ InRow size rs ∧ rs.length ≤ 90) ?_ ?_
  · have hd := dr_range (ds := ds) (show (0 : Int) < 3 by omega)
    simp only [run_for]
    simp [c_take (show (0 : Int) < 3 by omega)]
    refine ⟨rg_of (by omega) (by omega), ?_⟩
    show run (sLoop _ _ ((List.range (1 + dr ds 3).toNat).map fun i => D.int (0 + (i : Nat)))) _ _
    refine run_loop' _ (fun done ρ => ∃ rs ds' s3 s4 s5 s6, ρ = [.lst (Js ds'), .val (.int size), .lst (Rs rs), s3, s4, s5, s6] ∧ InRow size rs ∧ rs.length ≤ 30 * done.length) ⟨[], _, _, _, _, _, rfl, InRow.nil, by simp⟩ ?_ ?_
    · rintro done i rest ρ e ⟨rs, ds', s3, s4, s5, s6, rfl, a1, a2⟩
      have hdl : done.length ≤ 3 := by
        have := congrArg List.length e
        simp at this; omega
      have key := chains_in (ds := ds') (size := size) (start := 0) (rs := rs) (s3 := .val (.int (i : Nat))) (s5 := s5) (s6 := s6) (R := fun o => ∃ ρ', o = .nx ρ' ∧ ∃ rs' ds' s4 s5 s6, ρ' = [.lst (Js ds'), .val (.int size), .lst (Rs rs'), .val (.int (i : Nat)), s4, s5, s6] ∧ InRow size rs' ∧ rs'.length ≤ rs.length + 30) hs hs2 (by omega) (by omega) a1 (by omega) (fun rs' ds' st s5 s6 b1 b2 => ⟨_, rfl, rs', ds', st, s5, s6, rfl, b1, b2⟩)
      obtain ⟨r, k1, ρ', rfl, rs', ds'', s4', s5', s6', rfl, b1, b2⟩ := key
      refine ⟨[.lst (Js ds''), .val (.int size), .lst (Rs rs'), .val (.int (i : Nat)), s4', s5', s6'], ?_, rs', ds'', _, s4', s5', s6', rfl, b1, by simp; omega⟩
      simp
      refine ⟨rg_of (by omega) (by omega), ?_⟩
      exact ⟨_, k1, rfl⟩
    · rintro ρ ⟨rs, ds', s3, s4, s5, s6, rfl, a1, a2⟩
      exact ⟨_, rfl, rs, ⟨ds', s3, s4, s5, s6, rfl⟩, a1, by simp at a2; omega⟩
  rintro ρ ⟨rs, ds', s3, s4, s5, s6, rfl, a1, a2⟩
  refine run_seq_of (P := fun ρ => ∃ rs ds' s3 s4 s5 s6, ρ = [.lst (Js ds'), .val (.int size), .lst (Rs rs), s3, s4, s5, s6] ∧ InRow size rs ∧ rs.length ≤ 1000) ?_ ?_
  · have hd := dr_range (ds := ds') (show (0 : Int) < 4 by omega)
    simp only [run_for]
    simp [c_take (show (0 : Int) < 4 by omega)]
    refine ⟨rg_of (by omega) (by omega), ?_⟩
    show run (sLoop _ _ ((List.range (dr ds' 4).toNat).map fun i => D.int (0 + (i : Nat)))) _ _
    refine run_loop' _ (fun done ρ => ∃ rs ds' s3 s4 s5 s6, ρ = [.lst (Js ds'), .val (.int size), .lst (Rs rs), s3, s4, s5, s6] ∧ InRow size rs ∧ rs.length ≤ 90 + done.length) ⟨rs, _, _, _, _, _, rfl, a1, by omega⟩ ?_ ?_
    · rintro done i rest ρ e ⟨rs, ds', s3, s4, s5, s6, rfl, a1, a2⟩
      have hdl : done.length ≤ 4 := by
        have := congrArg List.length e
        simp at this; omega
      have h1 := dr_range (ds := ds') hs
      have hp : 0 < size - dr ds' size := by omega
      have h2 := dr_range (ds := ds'.dropLast) hp
      have hlen : rs.length < sizeLine := lt_size (by omega)
      refine ⟨[.lst (Js ds'.dropLast.dropLast), .val (.int size), .lst (Rs (rs ++ [(dr ds' size, dr ds' size + 1 + dr ds'.dropLast (size - dr ds' size))])), s3, .val (.int (dr ds' size)), .val (.int (0 + (i : Nat))), s6], by simp [c_take hs, c_take hp, hlen, Rs, rn], _, _, _, _, _, _, rfl, ?_, by simp; omega⟩
      refine a1.append fun r hr => ?_
      simp at hr; subst hr
      exact ⟨by simp; omega, by simp; omega, by simp; omega⟩
    · rintro ρ ⟨rs, ds', s3, s4, s5, s6, rfl, a1, a2⟩
      exact ⟨_, rfl, rs, ⟨ds', s3, s4, s5, s6, rfl⟩, a1, by simp at a2; omega⟩
  rintro ρ ⟨rs, ds', s3, s4, s5, s6, rfl, a1, a2⟩
  simp
  exact h rs ds' a1 a2
end L2.Fn
set_option maxRecDepth 100000
set_option maxHeartbeats 4000000
/-! LibP8: the market drawn. -/
namespace L2.Fn
open PySem PySem.Spec PyProof.Rows L2
theorem special_lc {ds : List Int} {word size : D} {menu : List (Int × Int)} {s4 s5 : S} : ∃ rs ds' s5', lcL (gSetM 5) (mTest (mOp gLt (mCold (mCall f__law_take [] (mIo 0 (aCons (ret (.int 8)) aNil)))) (ret (.int 7)))) (mVar 5) [5] (Rs menu) [] [.lst (Js ds), .val word, .val size, .val (.lst (Rs menu)), s4, s5] = some (Rs rs, [.lst (Js ds'), .val word, .val size, .val (.lst (Rs menu)), s4, s5']) ∧ (∀ r ∈ rs, r ∈ menu) ∧ rs.length ≤ menu.length := by
  obtain ⟨acc, ρ'', h1, rs, ds', s5', h2, h3, h4, h5⟩ := ev_lcI (f := rn) (g := gSetM 5) (tt := mTest (mOp gLt (mCold (mCall f__law_take [] (mIo 0 (aCons (ret (.int 8)) aNil)))) (ret (.int 7)))) (te := mVar 5) (vs := [5]) (ρ := [.lst (Js ds), .val word, .val size, .val (.lst (Rs menu)), s4, s5]) menu
    (fun done acc ρ => ∃ rs ds' s5, acc = Rs rs ∧ ρ = [.lst (Js ds'), .val word, .val size, .val (.lst (Rs menu)), s4, s5] ∧ (∀ r ∈ rs, r ∈ menu) ∧ rs.length ≤ done.length) ⟨[], ds, s5, rfl, rfl, (fun r hr => by cases hr), by simp⟩ (by
    rintro done x rest acc ρ e ⟨rs, ds', s5, rfl, rfl, hm, hl⟩
    have hx : x ∈ menu := by rw [e]; simp
    simp [wipeE, c_take (show (0 : Int) < 8 by omega)]
    split
    · refine ⟨rs ++ [x], by simp [Rs], ⟨_, rfl⟩, fun a b hr => ?_, by simp; omega⟩
      rcases List.mem_append.mp hr with hr | hr
      · exact hm _ hr
      · simp at hr; rw [hr]; exact hx
    · exact ⟨rs, rfl, ⟨_, rfl⟩, fun a b hr => hm _ hr, by omega⟩)
  subst h2 h3
  exact ⟨rs, ds', s5', h1, h4, h5⟩
theorem InRow.all {size : Int} {l : List (Int × Int)} (h : (l.all fun r => decide (0 ≤ r.1) && (decide (r.1 < r.2) && decide (r.2 ≤ size))) = true) : InRow size l := fun r hr => by
  have := List.all_eq_true.mp h r hr
  simp at this
  exact this
theorem x_special {ds : List Int} {C : CR → Prop} (h : ∀ size rs ds', 3 ≤ size → size ≤ 5 → InRow size rs → rs.length ≤ 9 → C (.ret (.lst [.int size, .lst (Rs rs)]) [.lst (Js ds')])) : cal f__law_special [.lst (Js ds)] C := by
  unfold f__law_special
  rw [cal_def]
  simp only [m__law_special]
  refine run_seq_of (P := fun ρ => ∃ ds' word, ρ = [.lst (Js ds'), .val (.int word), .no, .no, .no, .no]) (by simp [c_take (show (0 : Int) < 3 by omega)]; exact ⟨_, rfl⟩) ?_
  rintro ρ ⟨ds, word, rfl⟩
  refine run_seq_of (P := fun ρ => ∃ ds' size menu, ρ = [.lst (Js ds'), .val (.int word), .val (.int size), .lst (Rs menu), .no, .no] ∧ 3 ≤ size ∧ size ≤ 5 ∧ InRow size menu ∧ menu.length ≤ 9) ?_ ?_
  · by_cases h0 : word = 0
    · simp [h0, lt_size, le_size]
      exact ⟨ds, 3, [(0, 1), (0, 2), (1, 2), (1, 3), (2, 3), (0, 3), (1, 2)], ⟨rfl, rfl, rfl⟩, by omega, by omega, InRow.all (by decide), by decide⟩
    · by_cases h1 : word = 1
      · simp [h0, h1, lt_size, le_size]
        exact ⟨ds, 5, [(0, 1), (1, 2), (1, 3), (2, 3), (2, 4), (3, 4), (4, 5), (0, 1), (4, 5)], ⟨rfl, rfl, rfl⟩, by omega, by omega, InRow.all (by decide), by decide⟩
      · simp [h0, h1, lt_size, le_size]
        exact ⟨ds, 4, [(0, 4), (0, 2), (2, 4), (0, 1), (1, 2), (2, 3), (3, 4), (1, 2), (0, 4)], ⟨rfl, rfl, rfl⟩, by omega, by omega, InRow.all (by decide), by decide⟩
  rintro ρ ⟨ds, size, menu, rfl, a1, a2, a3, a4⟩
  refine run_seq_of (P := fun ρ => ∃ ds' rs s5 s3, ρ = [.lst (Js ds'), .val (.int word), .val (.int size), s3, .lst (Rs rs), s5] ∧ InRow size rs ∧ rs.length ≤ 9) ?_ ?_
  · simp only [run_asg]
    refine ev_lc ?_
    obtain ⟨rs, ds', s5', h1, h2, h3⟩ := special_lc (ds := ds) (word := .int word) (size := .int size) (menu := menu) (s4 := .no) (s5 := .no)
    simp [itemsD]
    refine ⟨le_size (by omega), _, _, h1, by simp, ⟨ds', rs, ⟨s5', _, rfl⟩, a3.sub h2, by omega⟩⟩
  rintro ρ ⟨ds', rs, s5, s3, rfl, b1, b2⟩
  simp
  exact h size rs ds' a1 a2 b1 b2
end L2.Fn
set_option maxRecDepth 100000
set_option maxHeartbeats 4000000
/-! LibP9: the market drawn. -/
namespace L2.Fn
open PySem PySem.Spec PyProof.Rows L2
def cutL {α : Type} (xs : List α) (lo hi : Option Int) : List α := (xs.drop (HT.sIx xs.length 0 lo)).take (HT.sIx xs.length xs.length hi - HT.sIx xs.length 0 lo)
theorem cut_Rs (rs : List (Int × Int)) (lo hi : Option Int) : cutD (Rs rs) lo hi = Rs (cutL rs lo hi) := by
  unfold cutD cutL
  rw [Rs_length]
  simp [Rs, List.map_drop, List.map_take]
theorem cut_mem {α : Type} {xs : List α} {lo hi : Option Int} {x : α} (h : x ∈ cutL xs lo hi) : x ∈ xs := List.mem_of_mem_drop (List.mem_of_mem_take h)
theorem cut_le {α : Type} {xs : List α} {lo hi : Option Int} : (cutL xs lo hi).length ≤ xs.length := by
  unfold cutL
  rw [List.length_take, List.length_drop]; omega
theorem cut_9 {α : Type} {xs : List α} {n : Nat} : (cutL xs none (some (n : Int))).length ≤ n := by
  unfold cutL
  rw [HT.sIx_nat, HT.sIx_none, List.length_take]; omega
@[simp] theorem ev_noPart {ρ : Slots} {Q : Ex (Option Int) → Prop} : ev mNoPart ρ Q ↔ Q (.ok none ρ) := ev_ret
@[simp] theorem ev_part {m : ME D} {ρ : Slots} {Q : Ex (Option Int) → Prop} : ev (mPart m) ρ Q ↔ ev m ρ (okx (fun d ρ' => match d with
    | .int i => Q (.ok (some i) ρ')
    | _ => False) fun C fs ρ' => Q (.ex C fs ρ')) := by
  unfold mPart
  rw [ev_bnd]
  refine ev_congr fun d ρ' => ?_
  cases d <;> simp
@[simp] theorem ev_sl {m : ME D} {ml mh : ME (Option Int)} {ρ : Slots} {Q : Ex S → Prop} : ev (mSlL m ml mh) ρ Q ↔ ev m ρ (okx (fun d ρ1 => ev ml ρ1 (okx (fun lo ρ2 => ev mh ρ2 (okx (fun hi ρ3 => match d with
    | .lst xs => Q (.ok (.lst (cutD xs lo hi)) ρ3)
    | _ => False) fun C fs ρ' => Q (.ex C fs ρ'))) fun C fs ρ' => Q (.ex C fs ρ'))) fun C fs ρ' => Q (.ex C fs ρ')) := by
  unfold mSlL
  rw [ev_bnd]
  refine ev_congr fun d ρ1 => ?_
  rw [ev_bnd]
  refine ev_congr fun lo ρ2 => ?_
  rw [ev_bnd]
  refine ev_congr fun hi ρ3 => ?_
  cases d <;> simp
end L2.Fn
set_option maxRecDepth 100000
set_option maxHeartbeats 4000000
/-! LibP10: the market drawn. -/
namespace L2.Fn
open PySem PySem.Spec PyProof.Rows L2
/-- a list in a slot, one's own or not -/
def LsS (s : S) (l : List D) : Prop := s = .lst l ∨ s = .val (.lst l)
theorem size_ix {k : Int} (h0 : 0 ≤ k) (h1 : k < 10) : ∃ v : Int, gIx (.lst [.int 3, .int 1, .int 2, .int 4, .int 5, .int 3, .int 4, .int 3, .int 6, .int 2]) (.int k) = some (.int v) ∧ 1 ≤ v ∧ v ≤ 6 := by
  have : k = 0 ∨ k = 1 ∨ k = 2 ∨ k = 3 ∨ k = 4 ∨ k = 5 ∨ k = 6 ∨ k = 7 ∨ k = 8 ∨ k = 9 := by omega
  rcases this with rfl | rfl | rfl | rfl | rfl | rfl | rfl | rfl | rfl | rfl
  · exact ⟨3, rfl, by omega, by omega⟩
  · exact ⟨1, rfl, by omega, by omega⟩
  · exact ⟨2, rfl, by omega, by omega⟩
  · exact ⟨4, rfl, by omega, by omega⟩
  · exact ⟨5, rfl, by omega, by omega⟩
  · exact ⟨3, rfl, by omega, by omega⟩
  · exact ⟨4, rfl, by omega, by omega⟩
  · exact ⟨3, rfl, by omega, by omega⟩
  · exact ⟨6, rfl, by omega, by omega⟩
  · exact ⟨2, rfl, by omega, by omega⟩
theorem x_market {ds : List Int} {most : Nat} {C : CR → Prop} (hm : most ≤ 1000)
    (h : ∀ size rs gone ds', 1 ≤ size → size ≤ 8 → InRow size rs → rs.length ≤ most → gone.Nodup → (∀ x ∈ gone, 0 ≤ x ∧ x < (rs.length : Int)) → gone.length ≤ 1 →
      C (.ret (.lst [.int size, .lst (Rs rs), .lst (Js gone)]) [.lst (Js ds'), .val (.int (most : Nat))])) : cal f__law_market [.lst (Js ds), .val (.int (most : Nat))] C := by
  unfold f__law_market
  rw [cal_def]
  simp only [m__law_market]
  refine run_seq_of (P := fun ρ => ∃ ds' word, ρ = [.lst (Js ds'), .val (.int (most : Nat)), .val (.int word), .no, .no, .no, .no, .no]) (by simp [c_take (show (0 : Int) < 5 by omega)]; exact ⟨_, rfl⟩) ?_
  rintro ρ ⟨ds, word, rfl⟩
  refine run_seq_of (P := fun ρ => ∃ ds' s3 size rs s5, ρ = [.lst (Js ds'), .val (.int (most : Nat)), .val (.int word), s3, .val (.int size), s5, .no, .no] ∧ LsS s5 (Rs rs) ∧ 1 ≤ size ∧ size ≤ 8 ∧ InRow size rs ∧ rs.length ≤ 1000) ?_ ?_
  · by_cases hw : 3 ≤ word
    · simp only [run_if]
      simp [hw]
      refine x_special fun size rs ds' a1 a2 a3 a4 => ?_
      have g0 : gIx (.lst [.int size, .lst (Rs rs)]) (.int 0) = some (.int size) := rfl
      have g1 : gIx (.lst [.int size, .lst (Rs rs)]) (.int 1) = some (.lst (Rs rs)) := rfl
      simp [g0, g1]
      exact ⟨_, _, size, rs, _, ⟨rfl, rfl, rfl, rfl⟩, .inr rfl, by omega, by omega, a3, by omega⟩
    · simp only [run_if]
      simp only [ev_test, ev_op, ev_var, List.getElem?_cons_zero, List.getElem?_cons_succ, okx_ok, ev_ret, gGe_int, opx_some, hw, decide_false, Bool.false_eq_true, if_false]
      have hd := dr_range (ds := ds) (show (0 : Int) < 10 by omega)
      obtain ⟨v, hv, v1, v2⟩ := size_ix hd.1 hd.2
      refine run_seq_of (P := fun ρ => ∃ ds' size, ρ = [.lst (Js ds'), .val (.int (most : Nat)), .val (.int word), .no, .val (.int size), .no, .no, .no] ∧ 1 ≤ size ∧ size ≤ 8) ?_ ?_
      · simp [c_take (show (0 : Int) < 10 by omega), hv, le_size]
        exact ⟨_, v, ⟨rfl, rfl⟩, v1, by omega⟩
      rintro ρ ⟨ds', size, rfl, b1, b2⟩
      refine run_seq_of (P := fun ρ => ∃ ds' size, ρ = [.lst (Js ds'), .val (.int (most : Nat)), .val (.int word), .no, .val (.int size), .no, .no, .no] ∧ 1 ≤ size ∧ size ≤ 8) ?_ ?_
      · simp [c_take (show (0 : Int) < 12 by omega)]
        split
        · exact ⟨_, 8, ⟨rfl, rfl⟩, by omega, by omega⟩
        · exact ⟨_, size, ⟨rfl, rfl⟩, by omega, by omega⟩
      rintro ρ ⟨ds', size, rfl, b1, b2⟩
      simp
      refine x_chains (by omega) (by omega) fun rs ds'' c1 c2 => ?_
      simp
      exact ⟨_, _, size, rs, _, ⟨rfl, rfl, rfl, rfl⟩, .inl rfl, by omega, by omega, c1, by omega⟩
  rintro ρ ⟨ds, s3, size, rs, s5, rfl, a1, a2, a3, a4, a5⟩
  refine run_seq_of (P := fun ρ => ∃ ds' turn, ρ = [.lst (Js ds'), .val (.int (most : Nat)), .val (.int word), s3, .val (.int size), s5, .val (.int (turn : Nat)), .no]) ?_ ?_
  · simp [c_take (show (0 : Int) < 9 by omega)]
    have hd := dr_range (ds := ds) (show (0 : Int) < 9 by omega)
    exact ⟨⟨_, rfl⟩, (dr ds 9).toNat, by omega⟩
  rintro ρ ⟨ds', turn, rfl⟩
  refine run_seq_of (P := fun ρ => ∃ rs s5, ρ = [.lst (Js ds'), .val (.int (most : Nat)), .val (.int word), s3, .val (.int size), s5, .val (.int (turn : Nat)), .no] ∧ LsS s5 (Rs rs) ∧ InRow size rs ∧ rs.length ≤ 2000) ?_ ?_
  · have hl := cut_le (xs := rs) (lo := some (turn : Int)) (hi := none)
    have hl2 := cut_le (xs := rs) (lo := none) (hi := some (turn : Int))
    have hsz : (cutL rs (some (turn : Int)) none).length + (cutL rs none (some (turn : Int))).length ≤ sizeLine := le_size (by omega)
    have hin : InRow size (cutL rs (some (turn : Int)) none ++ cutL rs none (some (turn : Int))) := (a4.sub fun x hx => cut_mem hx).append (a4.sub fun x hx => cut_mem hx)
    have ga : gAdd (.lst (Rs (cutL rs (some (turn : Int)) none))) (.lst (Rs (cutL rs none (some (turn : Int))))) = some (.lst (Rs (cutL rs (some (turn : Int)) none ++ cutL rs none (some (turn : Int))))) := by
      show (if _ then _ else _) = _
      rw [if_pos (by rw [Rs_length, Rs_length]; exact hsz), Rs_append]
    by_cases ht : turn < rs.length
    · rcases a1 with rfl | rfl
      · simp [ht, cut_Rs, ga]
        exact ⟨_, .inl rfl, hin, by simp; omega⟩
      · simp [ht, cut_Rs, ga, gLen]
        exact ⟨_, .inl rfl, hin, by simp; omega⟩
    · rcases a1 with rfl | rfl
      · simp [ht]
        exact ⟨rs, .inl rfl, a4, by omega⟩
      · simp [ht, gLen]
        exact ⟨rs, .inr rfl, a4, by omega⟩
  rintro ρ ⟨rs, s5, rfl, b1, b2, b3⟩
  refine run_seq_of (P := fun ρ => ∃ rs s6, ρ = [.lst (Js ds'), .val (.int (most : Nat)), .val (.int word), s3, .val (.int size), .lst (Rs rs), s6, .no] ∧ InRow size rs ∧ rs.length ≤ most) ?_ ?_
  · have hin : InRow size (cutL rs none (some (most : Int))) := b2.sub fun x hx => cut_mem hx
    rcases b1 with rfl | rfl
    · simp [cut_Rs]
      exact ⟨_, rfl, hin, cut_9⟩
    · simp [cut_Rs]
      exact ⟨_, rfl, hin, cut_9⟩
  rintro ρ ⟨rs, s6, rfl, c1, c2⟩
  refine run_seq_of (P := fun ρ => ρ = [.lst (Js ds'), .val (.int (most : Nat)), .val (.int word), s3, .val (.int size), .lst (Rs rs), s6, .lst (Js [])]) (by simp) ?_
  rintro ρ rfl
  refine run_seq_of (P := fun ρ => ∃ ds' gone, ρ = [.lst (Js ds'), .val (.int (most : Nat)), .val (.int word), s3, .val (.int size), .lst (Rs rs), s6, .lst (Js gone)] ∧ gone.Nodup ∧ (∀ x ∈ gone, 0 ≤ x ∧ x < (rs.length : Int)) ∧ gone.length ≤ 1) ?_ ?_
  · simp [c_take (show (0 : Int) < 10 by omega)]
    split
    · split
      · rename_i h1 h2
        have hp : (0 : Int) < rs.length := by omega
        have hd := dr_range (ds := ds'.dropLast) hp
        simp [c_take hp]
        exact ⟨_, [dr ds'.dropLast rs.length], ⟨rfl, rfl⟩, by simp, by simpa using hd, by simp⟩
      · exact ⟨_, [], ⟨rfl, rfl⟩, by simp, by simp, by simp⟩
    · exact ⟨_, [], ⟨rfl, rfl⟩, by simp, by simp, by simp⟩
  rintro ρ ⟨ds'', gone, rfl, d1, d2, d3⟩
  simp
  exact h size rs gone ds'' a2 a3 c1 c2 d1 d2 d3
end L2.Fn
set_option maxRecDepth 100000
set_option maxHeartbeats 4000000
/-! LibP11: covers. -/
namespace L2.Fn
open PySem PySem.Spec PyProof.Rows L2
theorem ixN_nat {n k : Nat} (h : k < n) : ixN n (k : Int) = some k := by
  unfold ixN
  rw [if_pos (by omega), if_pos (by omega)]
  simp
end L2.Fn
set_option maxRecDepth 100000
set_option maxHeartbeats 4000000
/-! LibP12: covers. -/
namespace L2.Fn
open PySem PySem.Spec PyProof.Rows L2
def rb (rs : List (Int × Int)) (p : Int) : Int := (rs.getD p.toNat (0, 0)).1
def re (rs : List (Int × Int)) (p : Int) : Int := (rs.getD p.toNat (0, 0)).2
def bi (c : Bool) : Int := if c then 1 else 0
/-- the cover of the parts l at x -/
def cvS (rs : List (Int × Int)) (l : List Int) (x : Int) : Int := (l.map fun p => bi (decide (rb rs p ≤ x)) - bi (decide (re rs p ≤ x))).sum
/-- .. what begins at k, less what ends there -/
def dlt (rs : List (Int × Int)) (l : List Int) (k : Int) : Int := (l.map fun p => bi (decide (rb rs p = k)) - bi (decide (re rs p = k))).sum
end L2.Fn
set_option maxRecDepth 100000
set_option maxHeartbeats 4000000
/-! LibP13: covers told. -/
namespace L2.Fn
open PySem PySem.Spec PyProof.Rows L2
theorem gFld_size {K : Str} {size : Int} {rs : List (Int × Int)} {gone : List Int} (hK : K ∈ KS) : gFld KS "size" (.obj K (mkt K size rs gone)) = some (.int size) := by
  unfold gFld; simp only [hK, if_true, lk_size]
theorem gFld_runs {K : Str} {size : Int} {rs : List (Int × Int)} {gone : List Int} (hK : K ∈ KS) : gFld KS "runs" (.obj K (mkt K size rs gone)) = some (.tup (Rs rs)) := by
  unfold gFld; simp only [hK, if_true, lk_runs]
theorem gFld_gone {K : Str} {size : Int} {rs : List (Int × Int)} {gone : List Int} (hK : K ∈ KS) : gFld KS "gone" (.obj K (mkt K size rs gone)) = some (tp gone) := by
  unfold gFld; simp only [hK, if_true, lk_gone]
/-- all covers -/
def covs (size : Int) (rs : List (Int × Int)) (l : List Int) : List Int := (List.range size.toNat).map fun x => cvS rs l (x : Nat)
end L2.Fn
set_option maxRecDepth 100000
set_option maxHeartbeats 4000000
/-! LibP14: demands. -/
namespace L2.Fn
open PySem PySem.Spec PyProof.Rows L2
end L2.Fn
set_option maxRecDepth 100000
set_option maxHeartbeats 4000000
/-! LibP15: changed demands. -/
namespace L2.Fn
open PySem PySem.Spec PyProof.Rows L2
/-- what a stock of the demand d covers -/
def Fits (k : Str) (d cs : List Int) : Prop := ∀ (i : Nat) (c e : Int), cs[i]? = some c → d[i]? = some e → e ≤ c ∧ (k = "join" → c = e)
theorem gCon_mkt {k : Str} {size : Int} {rs : List (Int × Int)} {gone : List Int} (hk : k ∈ kinds) : gCon CN_KIND "KIND" (.obj (clsOf k) (mkt (clsOf k) size rs gone)) = some (.str k) := by
  have h0 : List.lookup ("KIND" : Str) (mkt (clsOf k) size rs gone) = none := by
    unfold mkt
    rw [List.lookup_cons, show (("KIND" : Str) == "size") = false by decide, List.lookup_cons, show (("KIND" : Str) == "runs") = false by decide, List.lookup_cons, show (("KIND" : Str) == "gone") = false by decide] <;> rfl
  unfold gCon
  simp only [h0]
  rcases List.mem_cons.mp hk with rfl | hk
  · kernel_rfl
  · rcases List.mem_cons.mp hk with rfl | hk
    · kernel_rfl
    · cases hk
end L2.Fn
set_option maxRecDepth 100000
set_option maxHeartbeats 4000000
/-! LibP16: misfits. -/
namespace L2.Fn
open PySem PySem.Spec PyProof.Rows L2
end L2.Fn
set_option maxRecDepth 100000
set_option maxHeartbeats 4000000
/-! LibP17: is_stock. -/
namespace L2.Fn
open PySem PySem.Spec PyProof.Rows L2
/-- a demand: an int for all places, or a row -/
def Dem (size : Int) (dm : D) (d : List Int) : Prop := (∃ v, dm = .int v ∧ d = List.replicate size.toNat v) ∨ (dm = tp d ∧ (d.length : Int) = size)
theorem Dem.len {size : Int} {dm : D} {d : List Int} (h : Dem size dm d) (hs : 1 ≤ size) : (d.length : Int) = size := by
  rcases h with ⟨v, rfl, rfl⟩ | ⟨rfl, hl⟩
  · simp; omega
  · exact hl
end L2.Fn
set_option maxRecDepth 100000
set_option maxHeartbeats 4000000
/-! LibP18: changed. -/
namespace L2.Fn
open PySem PySem.Spec PyProof.Rows L2
end L2.Fn
set_option maxRecDepth 100000
set_option maxHeartbeats 4000000
/-! LibP19: the ends in order. -/
namespace L2.Fn
open PySem PySem.Spec PyProof.Rows L2
/-- an end as a triple -/
def tri (a : Int × En) : List Int := [a.1, a.2.1, a.2.2]
def triD (a : Int × En) : D := .tup (Js (tri a))
def untri (ns : List Int) : Int × En := (ns.getD 0 0, ns.getD 1 0, ns.getD 2 0)
/-! ### a comprehension of two clauses: all ends -/
def mTe : ME D := mTup (mCons (mIx (mIx (mFldN KS "runs" 0) (mVar 3)) (mVar 4)) (mCons (mVar 3) (mCons (mVar 4) mNil)))
/-! ### the partners -/
def kt (ps : List (En × En)) : List (List Key × D) := ps.map fun q => ([.inl q.1.1, .inl q.1.2], .tup [.int q.2.1, .int q.2.2])
def endD (e : En) : D := .tup [.int e.1, .int e.2]
end L2.Fn
set_option maxRecDepth 100000
set_option maxHeartbeats 4000000
/-! LibP20: the partners. -/
namespace L2.Fn
open PySem PySem.Spec PyProof.Rows L2
end L2.Fn
set_option maxRecDepth 100000
set_option maxHeartbeats 4000000
/-! LibP21: the halves. -/
namespace L2.Fn
open PySem PySem.Spec PyProof.Rows L2
theorem nd_sub : ∀ {a b : List Int}, a.Nodup → (∀ x ∈ a, x ∈ b) → a.length ≤ b.length
  | [], _, _, _ => Nat.zero_le _
  | x :: a, b, hn, h => by
    obtain ⟨h1, h2⟩ := List.nodup_cons.mp hn
    have hx := h x List.mem_cons_self
    have := nd_sub (b := b.erase x) h2 fun y hy => (List.mem_erase_of_ne fun e => h1 (by rw [← e]; exact hy)).mpr (h y (List.mem_cons_of_mem _ hy))
    rw [List.length_erase_of_mem hx] at this
    have : 0 < b.length := List.length_pos_of_mem hx
    simp; omega
/-- sides, as a dict -/
def ks (sd : List (Int × Int)) : List (Key × D) := sd.map fun q => (.inl q.1, .int q.2)
def sdF (sd : List (Int × Int)) : Sd := fun p => (sd.find? fun q => decide (q.1 = p)).map (·.2)
/-- [key] of a name: what is there -/
theorem ev_getN {i : Nat} {m : ME D} {ρ : Slots} {s : S} {y d : D} {QD : Ex D → Prop} (h0 : ρ[i]? = some s) (hs : s ≠ .no) (h1 : m ρ = some (.ok y ρ)) (h2 : gGetS s y = some (some d)) (h : QD (.ok d ρ)) : ev (mGetN i m) ρ QD := by
  refine ⟨_, ?_, h⟩
  unfold mGetN
  rw [h0]
  cases s with
  | no => exact absurd rfl hs
  | _ => simp only [ME.bnd, h1, h0, h2, ret]
def wBody : MS := (sSeq (sPutN 3 (mVar 5) (mVar 6))
  (sAsg (mWarm (mGetN 2 (mTup (mCons (mVar 5) (mCons (mCold (mOp gSub (ret (.int 1)) (mVar 6))) mNil))))) (gTupM 2 (gConsM (gSetM 5) (gConsM (gSetM 6) gNilM)))))
end L2.Fn
set_option maxRecDepth 100000
set_option maxHeartbeats 4000000
/-! LibP22: the halves. -/
namespace L2.Fn
open PySem PySem.Spec PyProof.Rows L2
@[simp] theorem ev_getN' {i : Nat} {m : ME D} {ρ : Slots} {QD : Ex D → Prop} : ev (mGetN i m) ρ QD ↔ (match ρ[i]? with
    | none => False
    | some .no => False
    | some _ => ev m ρ (okx (fun y ρ' => match ρ'[i]? with
      | none => False
      | some .no => False
      | some s => opx (gGetS s y) fun o => opx o fun d => QD (.ok d ρ')) fun C fs ρ' => QD (.ex C fs ρ'))) := by
  have key : ev (m.bnd fun y ρ => match ρ[i]? with
    | none => none
    | some .no => none
    | some s => match gGetS s y with
      | some (some d) => ret d ρ
      | _ => none) ρ QD ↔ ev m ρ (okx (fun y ρ' => match ρ'[i]? with
      | none => False
      | some .no => False
      | some s => opx (gGetS s y) fun o => opx o fun d => QD (.ok d ρ')) fun C fs ρ' => QD (.ex C fs ρ')) := by
    rw [ev_bnd]
    have : ∀ y ρ', ev (fun ρ => match ρ[i]? with
      | none => none
      | some .no => none
      | some s => match gGetS s y with
        | some (some d) => ret d ρ
        | _ => none : ME D) ρ' QD ↔ (match ρ'[i]? with
      | none => False
      | some .no => False
      | some s => opx (gGetS s y) fun o => opx o fun d => QD (.ok d ρ')) := fun y ρ' => by
      unfold ev
      cases h : ρ'[i]? with
      | none => simp [h]
      | some s =>
        cases s with
        | no => simp [h]
        | _ =>
          simp only [h]
          split
          · rename_i d e; simp [e, ret]
          · rename_i e
            cases q : gGetS _ y with
            | none => simp
            | some o =>
              cases o with
              | none => simp
              | some d => exact absurd q (e d)
    exact ev_congr this
  cases h : ρ[i]? with
  | none => exact ev_none (by unfold mGetN; rw [h])
  | some s =>
    cases s with
    | no => exact ev_none (by unfold mGetN; rw [h])
    | _ =>
      rw [← key]
      have e : mGetN i m ρ = (m.bnd fun y ρ => match ρ[i]? with
        | none => none
        | some .no => none
        | some s => match gGetS s y with
          | some (some d) => ret d ρ
          | _ => none) ρ := by
        show (match ρ[i]? with
          | none => none
          | some .no => none
          | some _ => _) = _
        rw [h] <;> rfl
      unfold ev
      rw [e]
theorem while_exit {c : ME Bool} {b : MS} {k : Nat} {ρ : Slots} {R : Out → Prop} (h1 : c ρ = some (.ok false ρ)) (h : R (.nx ρ)) : run (sWhile c b (k + 1)) ρ R := by
  refine ⟨_, ?_, h⟩
  unfold sWhile ME.thn
  rw [h1] <;> rfl
end L2.Fn
set_option maxRecDepth 100000
set_option maxHeartbeats 4000000
/-! LibP23: remade. -/
namespace L2.Fn
open PySem PySem.Spec PyProof.Rows L2
theorem cvS_app (rs : List (Int × Int)) (a b : List Int) (x : Int) : cvS rs (a ++ b) x = cvS rs a x + cvS rs b x := by
  unfold cvS
  rw [List.map_append, List.sum_append]
theorem cvS_perm {rs : List (Int × Int)} {a b : List Int} (h : a.Perm b) (x : Int) : cvS rs a x = cvS rs b x := psum (h.map _)
theorem perm_two {A B l m : List Int} (hA : A.Nodup) (hB : B.Nodup) (hl : l.Nodup) (hm : m.Nodup) (h : ∀ p, bi (decide (p ∈ A)) + bi (decide (p ∈ B)) = bi (decide (p ∈ l)) + bi (decide (p ∈ m))) : (A ++ B).Perm (l ++ m) := by
  rw [List.perm_iff_count]
  intro a
  rw [List.count_append, List.count_append, hA.count, hB.count, hl.count, hm.count]
  have := h a
  unfold bi at this
  simp only [decide_eq_true_eq] at this
  split at this <;> split at this <;> split at this <;> split at this <;> simp_all
/-- strictly ascending -/
abbrev Asc (l : List Int) : Prop := l.Pairwise (· < ·)
theorem Asc.nd {l : List Int} (h : Asc l) : l.Nodup := h.imp fun h => by omega
theorem asc_ext {a b : List Int} (ha : Asc a) (hb : Asc b) (h : ∀ p, p ∈ a ↔ p ∈ b) : a = b :=
  sorted_unique ((List.perm_ext_iff_of_nodup ha.nd hb.nd).mpr h) (ha.imp fun h => by omega) (hb.imp fun h => by omega)
theorem range_len {l : List Int} {n : Nat} (hn : l.Nodup) (h : ∀ p ∈ l, 0 ≤ p ∧ p < (n : Int)) : l.length ≤ n := by
  have := nd_sub hn (b := (List.range n).map fun i : Nat => (i : Int)) fun x hx => by
    have := h x hx
    exact List.mem_map.mpr ⟨x.toNat, List.mem_range.mpr (by omega), by omega⟩
  simpa using this
/-- parts of many -/
def In (n : Nat) (l : List Int) : Prop := ∀ p ∈ l, 0 ≤ p ∧ p < (n : Int)
/-- what remade makes of two sets -/
structure Rem (rs : List (Int × Int)) (one other A B : List Int) : Prop where
  aA : Asc A
  aB : Asc B
  iA : In rs.length A
  iB : In rs.length B
  cnt : ∀ p, bi (decide (p ∈ A)) + bi (decide (p ∈ B)) = bi (decide (p ∈ one)) + bi (decide (p ∈ other))
  near : ∀ x, -1 ≤ cvS rs A x - cvS rs B x ∧ cvS rs A x - cvS rs B x ≤ 1
theorem Rem.sum {rs : List (Int × Int)} {one other A B : List Int} (h : Rem rs one other A B) (h1 : one.Nodup) (h2 : other.Nodup) (x : Int) : cvS rs A x + cvS rs B x = cvS rs one x + cvS rs other x := by
  rw [← cvS_app, ← cvS_app]
  exact cvS_perm (perm_two h.aA.nd h.aB.nd h1 h2 h.cnt) x
theorem Rem.same {rs : List (Int × Int)} {one A B : List Int} (h : Rem rs one one A B) (h1 : Asc one) : A = one ∧ B = one := by
  have key : ∀ p, (p ∈ A ↔ p ∈ one) ∧ (p ∈ B ↔ p ∈ one) := fun p => by
    have := h.cnt p
    unfold bi at this
    simp only [decide_eq_true_eq] at this
    by_cases a : p ∈ A <;> by_cases b : p ∈ B <;> by_cases c : p ∈ one <;> simp_all
  exact ⟨asc_ext h.aA h1 fun p => (key p).1, asc_ext h.aB h1 fun p => (key p).2⟩
theorem Rem.swap {rs : List (Int × Int)} {one other A B : List Int} (h : Rem rs one other A B) : Rem rs other one A B := { h with cnt := fun p => by rw [h.cnt p]; omega }
theorem Rem.congr {rs : List (Int × Int)} {one other one' other' A B : List Int} (h : Rem rs one other A B) (h1 : ∀ p, p ∈ one ↔ p ∈ one') (h2 : ∀ p, p ∈ other ↔ p ∈ other') : Rem rs one' other' A B := { h with cnt := fun p => by rw [h.cnt p]; simp only [h1, h2] }
end L2.Fn
set_option maxRecDepth 100000
set_option maxHeartbeats 4000000
/-! LibP24: the law's own checks. -/
namespace L2.Fn
open PySem PySem.Spec PyProof.Rows L2
theorem e_law_int {i : Int} : f__law_int [.val (.int i)] = some (.ret (.val (.bl true)) [.val (.int i)]) := of_cal (by
  unfold f__law_int
  rw [cal_def]
  simp [m__law_int])
@[simp] theorem c_law_int {i : Int} {C : CR → Prop} : cal f__law_int [.val (.int i)] C ↔ C (.ret (.val (.bl true)) [.val (.int i)]) := cal_of e_law_int
end L2.Fn
set_option maxRecDepth 100000
set_option maxHeartbeats 4000000
/-! LibP25: remade, checked. -/
namespace L2.Fn
open PySem PySem.Spec PyProof.Rows L2
theorem gIn_parts {p : Int} {l : List Int} {d : D} (h : Parts d l) : gIn false (.int p) d = some (.val (.bl (decide (p ∈ l)))) := by
  have : itemsD d = some (Js l) := by rcases h with rfl | rfl <;> rfl
  unfold gIn
  rw [this, Option.bind_some]
  unfold inD
  rw [flatsD_Js]
  show some (S.val (.bl (inV (.int p) (l.map V.int)))) = _
  rw [inV_int]
theorem at_range {n i : Nat} {done rest : List Nat} (e : List.range n = done ++ i :: rest) : i = done.length ∧ i < n := by
  have h1 := congrArg (fun l => l[done.length]?) e
  simp at h1
  obtain ⟨_, h⟩ := List.getElem?_eq_some_iff.mp h1
  have h2 : i ∈ List.range n := by rw [e]; simp
  exact ⟨by simpa using h.symm, by simpa using h2⟩
end L2.Fn
set_option maxRecDepth 100000
set_option maxHeartbeats 4000000
/-! LibP26: refused sets. -/
namespace L2.Fn
open PySem PySem.Spec PyProof.Rows L2
@[simp] theorem ev_err {i : Nat} {C f : Str} {ρ : Slots} {Q : Ex D → Prop} : ev (mErr i C f) ρ Q ↔ (match ρ[i]? with
    | some (.err C' fs) => if C' = C then opx (fs.lookup f) fun d => Q (.ok d ρ) else False
    | _ => False) := by
  unfold ev mErr
  cases h : ρ[i]? with
  | none => simp
  | some s =>
    cases s with
    | err C' fs =>
      by_cases q : C' = C
      · simp only [q, if_true]
        cases q2 : List.lookup f fs <;> simp [opt]
      · simp [q]
    | _ => simp
@[simp] theorem ev_isErr {i : Nat} {C : Str} {b : Bool} {ρ : Slots} {Q : Ex S → Prop} : ev (mIsErr i C b) ρ Q ↔ (match ρ[i]? with
    | some (.err C' fs) => if C' = C then Q (.ok (.val (.bl b)) ρ) else False
    | _ => False) := by
  unfold ev mIsErr
  cases h : ρ[i]? with
  | none => simp
  | some s =>
    cases s with
    | err C' fs => by_cases q : C' = C <;> simp [q]
    | _ => simp
section
variable {K : Str} {size : Int} {rs : List (Int × Int)} {gone l1 l2 : List Int} {d d1 d2 : D}
end
end L2.Fn
set_option maxRecDepth 100000
set_option maxHeartbeats 4000000
/-! LibP27: rows of runs, counted. -/
namespace L2.Fn
open PySem PySem.Spec PyProof.Rows L2
/-- how many runs lie over x -/
def cn (rs : List (Int × Int)) (x : Int) : Int := ((rs.filter fun r => decide (r.1 ≤ x) && decide (x < r.2)).length : Int)
def rgI (lo : Int) (n : Nat) : List Int := (List.range n).map fun i => lo + (i : Nat)
theorem rgI_mem {lo : Int} {n : Nat} {p : Int} : p ∈ rgI lo n ↔ lo ≤ p ∧ p < lo + n := by
  unfold rgI
  rw [List.mem_map]
  constructor
  · rintro ⟨i, hi, rfl⟩
    have := List.mem_range.mp hi
    omega
  · intro h
    exact ⟨(p - lo).toNat, List.mem_range.mpr (by omega), by omega⟩
theorem rgI_asc (lo : Int) (n : Nat) : Asc (rgI lo n) := by
  unfold rgI Asc
  rw [List.pairwise_map]
  exact List.pairwise_lt_range.imp fun h => by omega
theorem rgI_len (lo : Int) (n : Nat) : (rgI lo n).length = n := by simp [rgI]
theorem cls_KS {k : Str} (hk : k ∈ kinds) : clsOf k ∈ KS := by
  unfold clsOf
  split <;> decide
end L2.Fn
set_option maxRecDepth 100000
set_option maxHeartbeats 4000000
/-! LibP28: two stocks (printed by p28.py). -/
namespace L2.Fn
open PySem PySem.Spec PyProof.Rows L2
/-- what is drawn: shared runs, upper and lower ones -/
structure Drawn (k : Str) (size nb : Int) (r : Int × Int) (sh up lo : List (Int × Int)) : Prop where
  nb1 : 1 ≤ nb ∧ nb ≤ 2
  rr : 0 ≤ r.1 ∧ r.1 < r.2 ∧ r.2 ≤ size
  iS : InRow size sh
  iU : InRow size up
  iL : InRow size lo
  len : sh.length + up.length + lo.length ≤ 31
  cS : ∀ x, 0 ≤ x → x < size → cn sh x = nb - 1
  cU : ∃ ex : Int, (0 ≤ ex ∧ (k = "join" → ex = 0)) ∧ ∀ x, 0 ≤ x → x < size → cn up x = 1 + (if r.1 ≤ x ∧ x < r.2 then 1 else 0) + ex
  cL : ∀ x, 0 ≤ x → x < size → cn lo x = 1 - (if r.1 ≤ x ∧ x < r.2 then 1 else 0)
def two1 : MS := (sSeq (sAsg (mOp gAdd (ret (.int 1)) (mCold (mCall f__law_take [] (mIo 0 (aCons (ret (.int 2)) aNil))))) (gSetM 3))
  (sSeq (sAsg (mCall f__law_run [] (mIo 0 (aCons (mVar 2) aNil))) (gSetM 4))
  (sSeq (sAsg (mLst mNil) (gSetM 5))
  (sSeq (sFor (mRange1 (mCold (mOp gSub (mVar 3) (ret (.int 1))))) (gSetM 6) (sAsg (mOp gAdd (mVar 5) (mCold (mCall f__law_chain [] (mIo 0 (aCons (mVar 2) (aCons (ret (.int 0)) (aCons (mVar 2) aNil))))))) (gSetM 5)))
  (sSeq (sAsg (mOp gAdd (mCold (mCall f__law_chain [] (mIo 0 (aCons (mVar 2) (aCons (ret (.int 0)) (aCons (mVar 2) aNil)))))) (mCold (mCall f__law_chain [] (mIo 0 (aCons (mVar 2) (aCons (mIxN 4 (ret (.int 0))) (aCons (mIxN 4 (ret (.int 1))) aNil))))))) (gSetM 7))
  (sSeq (sAsg (mOp gAdd (mCold (mCall f__law_chain [] (mIo 0 (aCons (mVar 2) (aCons (ret (.int 0)) (aCons (mIxN 4 (ret (.int 0))) aNil)))))) (mCold (mCall f__law_chain [] (mIo 0 (aCons (mVar 2) (aCons (mIxN 4 (ret (.int 1))) (aCons (mVar 2) aNil))))))) (gSetM 8))
  (sSeq (sIf (mAnd (mTest (mOp gEq (mVar 1) (ret (.str "lap")))) (mTest (mOp gEq (mCold (mCall f__law_take [] (mIo 0 (aCons (ret (.int 2)) aNil)))) (ret (.int 1))))) (sDrop (mAppN 7 (mTup (mCons (ret (.int 0)) (mCons (mVar 2) mNil))))) sNil)
  (sAsg (mOp gAdd (mCold (mOp gAdd (mVar 5) (mVar 7))) (mVar 8)) (gSetM 9)))))))))

end L2.Fn
set_option maxRecDepth 100000
set_option maxHeartbeats 4000000
/-! LibP29: two stocks, told (printed by p29.py). -/
namespace L2.Fn
open PySem PySem.Spec PyProof.Rows L2
def two2 : MS := (sSeq (sAsg (mCall f__law_built [] (aCons (mVar 1) (aCons (mVar 2) (aCons (mVar 9) (aCons (mCold (mLst mNil)) aNil))))) (gSetM 10))
  (sSeq (sAsg ((mCold (mOp gAdd (mLenN 5) (mLenN 7))).bnd fun x => opt (gLstRg (.int 0) x)) (gSetM 11))
  (sSeq (sAsg (mOp gAdd (mCold ((mLenN 5).bnd fun x => opt (gLstRg (.int 0) x))) (mCold ((mCold (mOp gAdd (mLenN 5) (mLenN 7))).bnd fun x => (mLenN 9).bnd fun y => opt (gLstRg x y)))) (gSetM 12))
  (sSeq (sAsg (mCall f_changed [] (aCons (mVar 10) (aCons (mVar 3) (aCons (mVar 4) (aCons (ret (.int 1)) aNil))))) (gSetM 13))
  (sSeq (sAsg (mCall f_changed [] (aCons (mVar 10) (aCons (mVar 3) (aCons (mVar 4) (aCons (mUn gNeg (ret (.int 1))) aNil))))) (gSetM 14))
  (sSeq (sIf (mOr (mNot (mTest (mCall f_is_stock [] (aCons (mVar 10) (aCons (mVar 13) (aCons (mVar 11) aNil)))))) (mNot (mTest (mCall f_is_stock [] (aCons (mVar 10) (aCons (mVar 14) (aCons (mVar 12) aNil))))))) (sRet (mWarm (ret (.bl false)))) sNil)
  (sSeq (sAsg (mCall f_remade [] (aCons (mVar 10) (aCons (mVar 11) (aCons (mVar 12) aNil)))) (gSetM 15))
  (sSeq (sIf (mNot (mTest (mCall f__law_remade_right [] (aCons (mVar 2) (aCons (mVar 9) (aCons (mVar 15) (aCons (mVar 11) (aCons (mVar 12) aNil)))))))) (sRet (mWarm (ret (.bl false)))) sNil)
  (sSeq (sAsg (mCall f_remade [] (aCons (mVar 10) (aCons (mCold (mB1 gTuple (mVar 12))) (aCons (mCold (mB1 gTuple (mVar 11))) aNil)))) (gSetM 16))
  (sSeq (sIf (mNot (mTest (mCall f__law_remade_right [] (aCons (mVar 2) (aCons (mVar 9) (aCons (mVar 16) (aCons (mVar 11) (aCons (mVar 12) aNil)))))))) (sRet (mWarm (ret (.bl false)))) sNil)
  (sSeq (sFor (mItems (mCold (mLst (mCons (mIxN 15 (ret (.int 0))) (mCons (mIxN 15 (ret (.int 1))) (mCons (mIxN 16 (ret (.int 0))) (mCons (mIxN 16 (ret (.int 1))) mNil))))))) (gSetM 17) (sIf (mNot (mTest (mCall f_is_stock [] (aCons (mVar 10) (aCons (mVar 3) (aCons (mVar 17) aNil)))))) (sRet (mWarm (ret (.bl false)))) sNil))
  (sRet (mWarm (ret (.bl true)))))))))))))))
end L2.Fn
set_option maxRecDepth 100000
set_option maxHeartbeats 4000000
/-! LibP30: equal data, lists turned about. -/
namespace L2.Fn
open PySem PySem.Spec PyProof.Rows L2
theorem gNe_self {d : D} (h : Sh 60 d) : gNe d d = some (.val (.bl false)) := by
  unfold gNe
  rw [h.eq (by omega)]
  rfl
theorem sh_tp {k : Nat} {l : List Int} : Sh (k + 1) (tp l) := sh_tup sh_Js
theorem sh_two {k : Nat} {a b : D} (h1 : Sh k a) (h2 : Sh k b) : ∀ x ∈ [a, b], Sh k x := fun x hx => by
  rcases List.mem_cons.mp hx with rfl | hx
  · exact h1
  · rcases List.mem_cons.mp hx with rfl | hx
    · exact h2
    · cases hx
theorem sh_str {k : Nat} {x : Str} (h : PyData.strOk x = true) : Sh k (.str x) := ⟨.str x, rfl, by simp [PyData.canLay0, h], by simp [PyData.depth]⟩
end L2.Fn
set_option maxRecDepth 100000
set_option maxHeartbeats 4000000
/-! LibM3: sums over lots, squares. -/
namespace L2.Fn
def tot {α : Type} (f : α → Int) (l : List α) : Int := (l.map f).sum
@[simp] theorem tot_nil {α : Type} (f : α → Int) : tot f [] = 0 := rfl
@[simp] theorem tot_cons {α : Type} (f : α → Int) (a : α) (l : List α) : tot f (a :: l) = f a + tot f l := by simp [tot]
end L2.Fn
set_option maxRecDepth 100000
set_option maxHeartbeats 4000000
/-! LibQ1: cover, halves, the widest place. -/
namespace L2.Fn
open PySem PySem.Spec PyProof.Rows L2
theorem sort_asc {l : List Int} (h : Asc l) : sortI l = l := sortI_of (h.imp fun h => by omega)
/-! ### a comprehension over a name's list -/
/-! ### the widest place -/
/-- the covers of lots, as data -/
def cvD (size : Int) (rs : List (Int × Int)) (l : List Int) : D := tp (covs size rs l)
def Far (size : Int) (rs : List (Int × Int)) (res : List (List Int)) (fd : D) : Prop :=
  (fd = .non ∧ ∀ x : Nat, x < size.toNat → ∀ a ∈ res, ∀ b ∈ res, cvS rs a x - cvS rs b x ≤ 1) ∨
  ∃ (h w : Nat) (a b : List Int) (x : Nat), fd = .tup [.int h, .int w] ∧ h ≠ w ∧ res[h]? = some a ∧ res[w]? = some b ∧ x < size.toNat ∧ 2 ≤ cvS rs a x - cvS rs b x
@[simp] theorem ev_index {mo me : ME D} {ρ : Slots} {QD : Ex D → Prop} : ev (mIndex mo me) ρ QD ↔ ev mo ρ (okx (fun x ρ1 => match x with
    | .lst xs => ev me ρ1 (okx (fun y ρ2 => opx (gIndex (.lst xs) y) fun d => QD (.ok d ρ2)) fun C fs ρ' => QD (.ex C fs ρ'))
    | _ => False) fun C fs ρ' => QD (.ex C fs ρ')) := by
  unfold mIndex
  rw [ev_bnd]
  refine ev_congr fun x ρ' => ?_
  cases x <;> simp
end L2.Fn
set_option maxRecDepth 100000
set_option maxHeartbeats 4000000
/-! LibQ2: _far. -/
namespace L2.Fn
open PySem PySem.Spec PyProof.Rows L2
section
variable {col : List Int} {s0 s1 s3 s4 s6 : S} {w T B : Int} {h k : Nat}
end
end L2.Fn
set_option maxRecDepth 100000
set_option maxHeartbeats 4000000
/-! LibQ3: the lots' loop. -/
namespace L2.Fn
open PySem PySem.Spec PyProof.Rows L2
theorem gev_stN {i k : Nat} {mi : ME D} {ρ : Slots} {xs : List D} {d : D} {q : Slots → Prop} (h0 : ρ[i]? = some (.lst xs)) (h1 : mi ρ = some (.ok (.int k) ρ)) (hk : k < xs.length) (h : q (ρ.set i (.lst (xs.set k d)))) : gev (gStN i mi) (.val d) ρ q := by
  refine ⟨_, ?_, h⟩
  unfold gStN
  rw [h0]
  dsimp only
  rw [h1]
  dsimp only
  rw [h0]
  dsimp only
  rw [ixN_nat hk, Option.map_some]
structure LInv (rs : List (Int × Int)) (n : Nat) (S : List Int) (res : List (List Int)) : Prop where
  len : res.length = n
  asc : ∀ l ∈ res, Asc l
  inn : ∀ l ∈ res, In rs.length l
  cnt : ∀ p, tot (fun l => bi (decide (p ∈ l))) res = bi (decide (p ∈ S))
  cov : ∀ x, tot (fun l => cvS rs l x) res = cvS rs S x
def Pot (size : Int) (rs : List (Int × Int)) (res : List (List Int)) : Int := tot (fun x : Nat => tot (fun l => cvS rs l x * cvS rs l x) res) (List.range size.toNat)
def lBody : MS := (sSeq (sAsg (mWarm (mVar 8)) (gTupM 2 (gConsM (gSetM 9) (gConsM (gSetM 10) gNilM))))
  (sSeq (sAsg (mCall f__halves [] (aCons (mVar 0) (aCons (mCold (mCall f_both [] (aCons (mIxN 4 (mVar 9)) (aCons (mIxN 4 (mVar 10)) aNil)))) aNil))) (gTupM 2 (gConsM (gSetM 11) (gConsM (gSetM 12) gNilM))))
  (sSeq (sAsg (mWarm (mTup (mCons (mVar 11) (mCons (mVar 12) mNil)))) (gTupM 2 (gConsM (gStN 4 (mVar 9)) (gConsM (gStN 4 (mVar 10)) gNilM))))
  (sSeq (sAsg (mCall f_cover [] (aCons (mVar 0) (aCons (mVar 11) aNil))) (gStN 6 (mVar 9)))
  (sSeq (sAsg (mCall f_cover [] (aCons (mVar 0) (aCons (mVar 12) aNil))) (gStN 6 (mVar 10)))
  (sAsg (mCall f__far [] (mIo 6 (aCons (mFldN KS "size" 0) aNil))) (gSetM 8)))))))
end L2.Fn
set_option maxRecDepth 100000
set_option maxHeartbeats 4000000
/-! LibQ4: lots. -/
namespace L2.Fn
open PySem PySem.Spec PyProof.Rows L2
/-- the lots to begin with -/
def res0 (n : Nat) (Z : List Int) : List (List Int) := Z :: List.replicate (n - 1) []
end L2.Fn
set_option maxRecDepth 100000
set_option maxHeartbeats 4000000
/-! LibQ5: the lots, checked. -/
namespace L2.Fn
open PySem PySem.Spec PyProof.Rows L2
@[simp] theorem run_aug {i : Nat} {g : D → D → Option D} {m : ME D} {ρ : Slots} {R : Out → Prop} : run (sAug i g m) ρ R ↔ (match ρ[i]? with
    | some (.val x) => ev m ρ (okx (fun y ρ' => opx (g x y) fun z => i < ρ'.length ∧ R (.nx (ρ'.set i (.val z)))) fun C fs ρ' => R (.ex C fs ρ'))
    | _ => False) := by
  unfold sAug
  have key : ∀ x, run (m.thn fun y ρ' => match g x y with
    | some z => if i < ρ'.length then some (.nx (ρ'.set i (.val z))) else none
    | none => none) ρ R ↔ ev m ρ (okx (fun y ρ' => opx (g x y) fun z => i < ρ'.length ∧ R (.nx (ρ'.set i (.val z)))) fun C fs ρ' => R (.ex C fs ρ')) := fun x => by
    rw [run_thn]
    refine ev_congr fun y ρ' => ?_
    unfold run
    cases q : g x y with
    | none => simp
    | some z => by_cases h : i < ρ'.length <;> simp [h]
  unfold run at key ⊢
  cases h : ρ[i]? with
  | none => simp [h]
  | some s =>
    cases s with
    | val d => simp only [h]; exact key d
    | _ => simp [h]
/-! ### the parts of all lots -/
/-- a list or a tuple of lots -/
def Told (told : S) (res : List (List Int)) : Prop := told = .lst (res.map tp) ∨ ∃ d, told = .val d ∧ itemsD d = some (res.map tp) ∧ gLen d = some res.length
theorem Told.it {told : S} {res : List (List Int)} (h : Told told res) : told = .lst (res.map tp) ∨ ∃ d, told = .val d ∧ itemsD d = some (res.map tp) := by
  rcases h with h | ⟨d, h1, h2, _⟩
  · exact .inl h
  · exact .inr ⟨d, h1, h2⟩
end L2.Fn
set_option maxRecDepth 100000
set_option maxHeartbeats 4000000
/-! LibQ6: evenness, checked. -/
namespace L2.Fn
open PySem PySem.Spec PyProof.Rows L2
def cvL (size : Int) (rs : List (Int × Int)) (l : List Int) : D := .lst (Js (covs size rs l))
end L2.Fn
set_option maxRecDepth 100000
set_option maxHeartbeats 4000000
/-! LibQ7: what lots and halves refuse. -/
namespace L2.Fn
open PySem PySem.Spec PyProof.Rows L2
theorem e_is_int_bl {b : Bool} : f_is_int [.val (.bl b)] = some (.ret (.val (.bl false)) [.val (.bl b)]) := of_cal (by
  unfold f_is_int
  rw [cal_def]
  simp [m_is_int])
@[simp] theorem c_is_int_bl {b : Bool} {C : CR → Prop} : cal f_is_int [.val (.bl b)] C ↔ C (.ret (.val (.bl false)) [.val (.bl b)]) := cal_of e_is_int_bl
/-- no number from 1 to 50 -/
def BadW (w : D) : Prop := (∃ v : Int, w = .int v ∧ (v < 1 ∨ 50 < v)) ∨ w = .non ∨ ∃ b, w = .bl b
section
variable {K : Str} {size : Int} {rs : List (Int × Int)} {gone l : List Int} {d dp w : D} {n : Nat}
end
/-! ### the tries -/
theorem run_tryL_ex {i : Nat} {mb : MS} {hs : List Hdl} {ρ ρ1 : Slots} {C : Str} {fs : List (Str × D)} {R : Out → Prop} {o : Out} (h1 : mb ρ = some (.ex C fs ρ1)) (h2 : ρ1.all notErr = true) (h3 : sHand i C fs ρ1 hs = some o) (h : R o) : run (sTryL i mb hs) ρ R := by
  refine ⟨_, ?_, h⟩
  unfold sTryL
  rw [h1]
  dsimp only
  rw [if_pos h2, h3]
theorem hand_yes {i : Nat} {C : Str} {fs : List (Str × D)} {ρ1 ρ2 : Slots} {sub : Str → Option Bool} {ms : MS} {hs : List Hdl} (h3 : sub C = some true) (h4 : i < ρ1.length) (h5 : ms (ρ1.set i (.err C fs)) = some (.nx ρ2)) (h6 : (ρ2.set i .no).all notErr = true) : sHand i C fs ρ1 ((sub, ms) :: hs) = some (.nx (ρ2.set i .no)) := by
  unfold sHand
  dsimp only
  rw [h3]
  dsimp only
  rw [if_pos h4, h5]
  unfold hEnd
  dsimp only
  rw [if_pos h6]
/-- what is told of a wrong number -/
def numW : Str := ("number" : Str) ++ ("True" : Str) ++ ("False" : Str)
/-- the text of a number; what is told of a wrong part -/
def strN (n : Nat) : Str := Str.ofString (toString (n : Int))
def setW (n : Nat) : Str := ("set" : Str) ++ strN n
end L2.Fn
set_option maxRecDepth 100000
set_option maxHeartbeats 4000000
/-! LibQ8: turned sets; a stock of chains. -/
namespace L2.Fn
open PySem PySem.Spec PyProof.Rows L2
/-- lots as told: all that is checked of them -/
structure Lots (rs : List (Int × Int)) (size : Int) (P : List Int) (res : List (List Int)) : Prop where
  asc : ∀ l ∈ res, Asc l
  inn : ∀ l ∈ res, In rs.length l
  cnt : ∀ p, tot (fun l => bi (decide (p ∈ l))) res = bi (decide (p ∈ P))
  cov : ∀ x, tot (fun l => cvS rs l x) res = cvS rs P x
  near : ∀ x : Nat, x < size.toNat → ∀ a ∈ res, ∀ b ∈ res, cvS rs a x - cvS rs b x ≤ 1
theorem Lots.of {rs : List (Int × Int)} {size : Int} {n : Nat} {P Q : List Int} {res : List (List Int)} (I : LInv rs n Q res) (h : ∀ x : Nat, x < size.toNat → ∀ a ∈ res, ∀ b ∈ res, cvS rs a x - cvS rs b x ≤ 1) (hp : Q.Perm P) : Lots rs size P res :=
  ⟨I.asc, I.inn, fun p => by rw [I.cnt p]; simp only [hp.mem_iff], fun x => by rw [I.cov x, cvS_perm hp], h⟩
theorem Lots.two {rs : List (Int × Int)} {size : Int} {P A B : List Int} (h1 : Asc A ∧ Asc B) (h2 : In rs.length A ∧ In rs.length B) (h3 : ∀ p, bi (decide (p ∈ A)) + bi (decide (p ∈ B)) = bi (decide (p ∈ P))) (h4 : ∀ x, cvS rs A x + cvS rs B x = cvS rs P x) (h5 : ∀ x, -1 ≤ cvS rs A x - cvS rs B x ∧ cvS rs A x - cvS rs B x ≤ 1) : Lots rs size P [A, B] where
  asc := fun l hl => by
    rcases List.mem_cons.mp hl with rfl | hl
    · exact h1.1
    · rw [List.mem_singleton.mp hl]; exact h1.2
  inn := fun l hl => by
    rcases List.mem_cons.mp hl with rfl | hl
    · exact h2.1
    · rw [List.mem_singleton.mp hl]; exact h2.2
  cnt := fun p => by rw [← h3 p]; simp
  cov := fun x => by rw [← h4 x]; simp
  near := fun x _ a ha b hb => by
    have := h5 x
    have ha' : a = A ∨ a = B := by simpa using ha
    have hb' : b = A ∨ b = B := by simpa using hb
    rcases ha' with q | q <;> rcases hb' with r | r <;> rw [q, r] <;> omega
theorem Lots.turn {rs : List (Int × Int)} {size : Int} {P Q : List Int} {res : List (List Int)} (h : Lots rs size P res) (hp : P.Perm Q) : Lots rs size Q res :=
  { h with cnt := fun p => by rw [h.cnt p]; simp only [hp.mem_iff], cov := fun x => by rw [h.cov x, cvS_perm hp] }
section
variable {K : Str} {size : Int} {rs : List (Int × Int)} {gone P : List Int} {n : Nat} {C : CR → Prop}
end
end L2.Fn
set_option maxRecDepth 100000
set_option maxHeartbeats 4000000
/-! LibQ9: chains that make a stock. -/
namespace L2.Fn
open PySem PySem.Spec PyProof.Rows L2
def bChain9 : MS := (sIf (mTest (mOp gLt (mVar 6) (mVar 2))) (sSeq (sAsg (mOp gMin2 (mVar 2) (mCold (mOp gAdd (mCold (mOp gAdd (mVar 6) (ret (.int 1)))) (mCold (mCall f__law_take [] (mIo 0 (aCons (mVar 2) aNil))))))) (gSetM 8))
  (sSeq (sDrop (mAppN 3 (mTup (mCons (mVar 6) (mCons (mVar 8) mNil)))))
  (sAsg (mWarm (mVar 8)) (gSetM 6)))) sNil)
theorem cut_drop {α : Type} {xs : List α} {t : Nat} (h : t ≤ xs.length) : cutL xs (some (t : Int)) none = xs.drop t := by
  unfold cutL
  rw [HT.sIx_nat, HT.sIx_none, Nat.min_eq_left h]
  exact List.take_of_length_le (by rw [List.length_drop]; omega)
theorem cut_take {α : Type} {xs : List α} {t : Nat} (h : t ≤ xs.length) : cutL xs none (some (t : Int)) = xs.take t := by
  unfold cutL
  rw [HT.sIx_nat, HT.sIx_none, Nat.min_eq_left h]
  simp
end L2.Fn
set_option maxRecDepth 100000
set_option maxHeartbeats 4000000
/-! LibQ10: the lots of a stock (printed by p_q10.py). -/
namespace L2.Fn
open PySem PySem.Spec PyProof.Rows L2
@[simp] theorem ev_isTN {f : String → Bool} {j : Nat} {ρ : Slots} {Q : Ex S → Prop} : ev (mIsTN f j) ρ Q ↔ (match ρ[j]? with
    | some (.val d) => opx (gIsT f d) fun s => Q (.ok s ρ)
    | some (.lst _) => Q (.ok (.val (.bl (f "list"))) ρ)
    | _ => False) := by
  unfold mIsTN
  cases h : ρ[j]? with
  | none => unfold ev; simp [h]
  | some s =>
    cases s with
    | val d =>
      have := @ev_opt S ρ (gIsT f d) Q
      unfold ev at this ⊢
      simp only [h]
      exact this
    | lst xs => unfold ev; simp [h]
    | _ => unfold ev; simp [h]
end L2.Fn
set_option maxRecDepth 100000
set_option maxHeartbeats 4000000
/-! LibS0: demands as lists; demands refused. -/
namespace L2.Fn
open PySem PySem.Spec PyProof.Rows L2
section
variable {K : Str} {size : Int} {rs : List (Int × Int)} {gone d : List Int} {dm : D} {C : CR → Prop}
def DemL (size : Int) (dm : D) (d : List Int) : Prop := Dem size dm d ∨ (dm = .lst (Js d) ∧ (d.length : Int) = size)
theorem DemL.len (h : DemL size dm d) (hs : 1 ≤ size) : (d.length : Int) = size := by
  rcases h with h | h
  · exact h.len hs
  · exact h.2
/-- demands refused: too long; with a place that is none -/
def BadDem (size : Int) (dm : D) (n : Int) : Prop := ∃ xs : List D, dm = .lst xs ∧ (((xs.length : Int) ≠ size ∧ n = -1) ∨ ((xs.length : Int) = size ∧ n = 0 ∧ ∃ r, xs = .non :: r))
end
end L2.Fn
set_option maxRecDepth 100000
set_option maxHeartbeats 4000000
/-! LibS1: runs as ways between points; what a set of points lets out. -/
namespace L2.Fn
open PySem PySem.Spec PyProof.Rows L2
theorem sum_upd {f g : Int → Int} {p : Int} : ∀ {L : List Int}, L.Nodup → p ∈ L → (∀ q ∈ L, q ≠ p → g q = f q) → (L.map g).sum = (L.map f).sum + (g p - f p)
  | [], _, hp, _ => by cases hp
  | q :: L, hn, hp, h => by
    have hn' := List.nodup_cons.mp hn
    simp only [List.map_cons, List.sum_cons]
    by_cases e : q = p
    · subst e
      have : L.map g = L.map f := List.map_congr_left fun r hr => h r (List.mem_cons_of_mem _ hr) fun e => hn'.1 (e ▸ hr)
      rw [this]; omega
    · have hp' : p ∈ L := by
        rcases List.mem_cons.mp hp with e2 | h2
        · exact absurd e2.symm e
        · exact h2
      rw [sum_upd hn'.2 hp' fun r hr => h r (List.mem_cons_of_mem _ hr), h q List.mem_cons_self e]; omega
theorem sum_filter {f : Int → Bool} {w : Int → Int} : ∀ {L : List Int}, ((L.filter f).map w).sum = (L.map fun p => if f p then w p else 0).sum
  | [] => rfl
  | q :: L => by
    rw [List.filter_cons, List.map_cons, List.sum_cons, ← sum_filter]
    cases h : f q <;> simp [h]
/-- parts that leave the points R -/
def lvB (rs : List (Int × Int)) (R : List Int) (p : Int) : Bool := decide (rb rs p ∈ R) && !decide (re rs p ∈ R)
def lvs (rs : List (Int × Int)) (R pre : List Int) : List Int := pre.filter (lvB rs R)
/-! ### rows -/
def rowAt (d : List Int) (k : Int) : Int := if 0 ≤ k then d.getD k.toNat 0 else 0
/-- what begins at a point, by the row -/
def bsk (d : List Int) (k : Int) : Int := rowAt d k - rowAt d (k - 1)
/-- the covers are the row's .. -/
def Eqs (size : Int) (rs : List (Int × Int)) (d l : List Int) : Prop := ∀ x : Int, 0 ≤ x → x < size → cvS rs l x = rowAt d x
/-- what the points R let out, by the row -/
def outf (d R : List Int) : Int := (R.map (bsk d)).sum
end L2.Fn
set_option maxRecDepth 100000
set_option maxHeartbeats 4000000
/-! LibS2: ways through the parts, and what turning one does. -/
namespace L2.Fn
open PySem PySem.Spec PyProof.Rows L2
def inb (ins : List Bool) (p : Int) : Bool := ins.getD p.toNat false
/-- the parts inside -/
def chn (ins : List Bool) : List Int := (rgI 0 ins.length).filter (inb ins)
def tlp (rs : List (Int × Int)) (ins : List Bool) (p : Int) : Int := if inb ins p then re rs p else rb rs p
def hdp (rs : List (Int × Int)) (ins : List Bool) (p : Int) : Int := if inb ins p then rb rs p else re rs p
theorem chn_mem {ins : List Bool} {p : Int} : p ∈ chn ins ↔ (0 ≤ p ∧ p < (ins.length : Int)) ∧ inb ins p = true := by
  unfold chn
  rw [List.mem_filter, rgI_mem]
  simp
theorem inb_set {ins : List Bool} {p : Nat} {b : Bool} {q : Int} (hp : p < ins.length) (hq : 0 ≤ q) : inb (ins.set p b) q = if q = (p : Int) then b else inb ins q := by
  unfold inb
  simp only [List.getD_eq_getElem?_getD, List.getElem?_set]
  by_cases e : q = (p : Int)
  · subst e
    simp [hp]
  · have : ¬ p = q.toNat := by omega
    simp [e, this]
theorem dlt_chn {rs : List (Int × Int)} {ins : List Bool} {k : Int} : dlt rs (chn ins) k = ((rgI 0 ins.length).map fun p => if inb ins p then bi (decide (rb rs p = k)) - bi (decide (re rs p = k)) else 0).sum := by
  unfold dlt chn
  exact sum_filter
/-- turning one part -/
theorem dlt_turn {rs : List (Int × Int)} {ins : List Bool} {p : Nat} {k : Int} (hp : p < ins.length) : dlt rs (chn (ins.set p (!inb ins p))) k = dlt rs (chn ins) k + bi (decide (tlp rs ins p = k)) - bi (decide (hdp rs ins p = k)) := by
  rw [dlt_chn, dlt_chn, List.length_set]
  rw [sum_upd (f := fun q => if inb ins q then bi (decide (rb rs q = k)) - bi (decide (re rs q = k)) else 0) (p := (p : Int)) (rgI_asc 0 ins.length).nd (rgI_mem.mpr (by omega)) fun q hq e => by
    have := rgI_mem.mp hq
    rw [inb_set hp (by omega), if_neg e]]
  simp only [inb_set hp (show (0 : Int) ≤ (p : Int) by omega), if_true, tlp, hdp]
  by_cases h : inb ins p = true <;> simp [h] <;> omega
/-- the points come to, in their order, and the way to each -/
abbrev Cm := List (Int × Option (Int × Int))
def cmD (q : Int × Option (Int × Int)) : Key × D := (.inl q.1, match q.2 with
  | none => .non
  | some v => .tup [.int v.1, .int v.2])
def kc (cm : Cm) : List (Key × D) := cm.map cmD
def keysC (cm : Cm) : List Int := cm.map (·.1)
structure CmOk (rs : List (Int × Int)) (ins : List Bool) (pre starts : List Int) (cm : Cm) : Prop where
  nd : (keysC cm).Nodup
  st : ∀ (i : Nat) y, cm[i]? = some (y, none) → y ∈ starts
  up : ∀ (i : Nat) y x p, cm[i]? = some (y, some (x, p)) → (∃ (j : Nat) (v : Option (Int × Int)), j < i ∧ cm[j]? = some (x, v)) ∧ p ∈ pre ∧ tlp rs ins p = x ∧ hdp rs ins p = y
theorem valD_kc {y : Int} {v : Option (Int × Int)} : ∀ {cm : Cm} {i : Nat}, (keysC cm).Nodup → cm[i]? = some (y, v) → valD (kc cm) (.inl y) = some (cmD (y, v)).2
  | [], i, _, h => by simp at h
  | q :: cm, 0, _, h => by
    simp at h
    subst h
    unfold valD kc
    simp [cmD]
  | q :: cm, i + 1, hn, h => by
    have hn' := List.nodup_cons.mp hn
    have h' : cm[i]? = some (y, v) := by simpa using h
    have ih := valD_kc (cm := cm) hn'.2 h'
    have hm : y ∈ keysC cm := List.mem_map.mpr ⟨_, List.mem_of_getElem? h', rfl⟩
    have hn2 : q.1 ∉ keysC cm := hn'.1
    have hne : ¬ q.1 = y := fun e => hn2 (by rw [e]; exact hm)
    unfold valD kc at ih ⊢
    rw [List.map_cons, List.find?_cons]
    have : ¬ (cmD q).1 = Sum.inl y := by
      show ¬ (Sum.inl q.1 : Key) = Sum.inl y
      intro e; exact hne (Sum.inl.inj e)
    simp only [this, decide_false]
    exact ih
theorem keys_app (a b : Cm) : keysC (a ++ b) = keysC a ++ keysC b := by simp [keysC]
/-! ### walking back -/
def Bs (l : List Bool) : List D := l.map D.bl
@[simp] theorem Bs_length (l : List Bool) : (Bs l).length = l.length := by simp [Bs]
theorem Bs_get (l : List Bool) (i : Nat) : (Bs l)[i]? = (l[i]?).map D.bl := by simp [Bs]
theorem inb_get {ins : List Bool} {p : Nat} (h : p < ins.length) : ins[p]? = some (inb ins p) := by
  unfold inb
  simp [h]
theorem gIx_Bs {ins : List Bool} {p : Nat} (h : p < ins.length) : gIx (.lst (Bs ins)) (.int (p : Int)) = some (.bl (inb ins p)) := atI_nat (by rw [Bs_get, inb_get h] <;> rfl)
/-- along the way back, turned so far -/
structure Back (rs : List (Int × Int)) (ins cur : List Bool) (pre : List Int) (cm : Cm) (last y : Int) (i : Nat) : Prop where
  len : cur.length = ins.length
  same : ∀ (j : Nat) y' x' p', j ≤ i → cm[j]? = some (y', some (x', p')) → inb cur p' = inb ins p'
  net : ∀ k, dlt rs (chn cur) k = dlt rs (chn ins) k + bi (decide (y = k)) - bi (decide (last = k))
  sub : ∀ p ∈ chn cur, p ∈ pre
theorem Back.step {rs : List (Int × Int)} {ins cur : List Bool} {pre starts : List Int} {cm : Cm} {last y x : Int} {i p : Nat} (h : Back rs ins cur pre cm last y i) (hc : CmOk rs ins pre starts cm) (hP : ∀ p ∈ pre, 0 ≤ p ∧ p < (ins.length : Int)) (hi : cm[i]? = some (y, some (x, (p : Int)))) (hp : p < ins.length) :
    ∃ (j : Nat) (v : Option (Int × Int)), j < i ∧ cm[j]? = some (x, v) ∧ Back rs ins (cur.set p (!inb cur p)) pre cm last x j := by
  obtain ⟨⟨j, v, hj, hv⟩, hpre, ht, hh⟩ := hc.up i y x p hi
  have e0 : inb cur p = inb ins p := h.same i y x p (Nat.le_refl _) hi
  have hpc : p < cur.length := by rw [h.len]; exact hp
  refine ⟨j, v, hj, hv, ?_, ?_, ?_, ?_⟩
  · rw [List.length_set]; exact h.len
  · intro j' y' x' p' hj' e
    obtain ⟨_, hpre', ht', hh'⟩ := hc.up j' y' x' p' e
    have hne : p' ≠ (p : Int) := by
      intro e2
      subst e2
      have ey : y' = y := by rw [← hh', hh]
      have h1 := hc.nd
      have l1 := (List.getElem?_eq_some_iff.mp e).1
      have l2 := (List.getElem?_eq_some_iff.mp hi).1
      have k1 : (keysC cm)[j']? = some y' := by unfold keysC; rw [List.getElem?_map, e]; rfl
      have k2 : (keysC cm)[i]? = some y := by unfold keysC; rw [List.getElem?_map, hi]; rfl
      have := (List.getElem?_inj (i := j') (j := i) (by simpa [keysC] using l1) h1).mp (k1.trans ((congrArg some ey).trans k2.symm))
      omega
    have q := (hP p' hpre').1
    rw [inb_set hpc q, if_neg hne]
    exact h.same j' y' x' p' (by omega) e
  · intro k
    rw [dlt_turn hpc, h.net k]
    have t1 : tlp rs cur p = x := by rw [← ht]; unfold tlp; rw [e0]
    have t2 : hdp rs cur p = y := by rw [← hh]; unfold hdp; rw [e0]
    rw [t1, t2]
    omega
  · intro q hq
    have hq' := chn_mem.mp hq
    rw [inb_set hpc hq'.1.1] at hq'
    by_cases e : q = (p : Int)
    · subst e; exact hpre
    · rw [if_neg e] at hq'
      refine h.sub q (chn_mem.mpr ⟨?_, hq'.2⟩)
      have := hq'.1
      rw [List.length_set] at this
      exact this
end L2.Fn
set_option maxRecDepth 100000
set_option maxHeartbeats 4000000
/-! LibS3: the way back, turned. -/
namespace L2.Fn
open PySem PySem.Spec PyProof.Rows L2
theorem while_go {c : ME Bool} {b : MS} {k : Nat} {ρ ρ1 : Slots} {R : Out → Prop} (h1 : c ρ = some (.ok true ρ1)) (h : run b ρ1 fun o => match o with
    | .nx ρ' => run (sWhile c b k) ρ' R
    | .ct ρ' => run (sWhile c b k) ρ' R
    | .bk ρ' => R (.nx ρ')
    | r => R r) : run (sWhile c b (k + 1)) ρ R := by
  obtain ⟨r, h4, h5⟩ := h
  unfold run sWhile ME.thn
  rw [h1]
  simp only [if_true]
  rw [h4]
  cases r with
  | nx ρ' => exact h5
  | ct ρ' => exact h5
  | bk ρ' => exact ⟨_, rfl, h5⟩
  | rt s ρ' => exact ⟨_, rfl, h5⟩
  | ex C fs ρ' => exact ⟨_, rfl, h5⟩
theorem of_ev {α : Type} {m : ME α} {ρ : Slots} {x : Ex α} (h : ev m ρ fun y => y = x) : m ρ = some x := by
  obtain ⟨y, h1, rfl⟩ := h
  exact h1
theorem gGet_kc {cm : Cm} {y : Int} : gGetS (.val (.dK (kc cm))) (.int y) = some (valD (kc cm) (.inl y)) := rfl
theorem turn_cond {cm : Cm} {y : Int} {v : Option (Int × Int)} {i : Nat} {s0 s3 : S} (hn : (keysC cm).Nodup) (h : cm[i]? = some (y, v)) :
    (mTest (mOp gNotN (mGetN 1 (mVar 2)) (ret .non))) [s0, .val (.dK (kc cm)), .val (.int y), s3] = some (.ok v.isSome [s0, .val (.dK (kc cm)), .val (.int y), s3]) := by
  refine of_ev ?_
  rw [ev_test, ev_op]
  refine ev_getN (s := .val (.dK (kc cm))) rfl (by simp) rfl (gGet_kc.trans (congrArg some (valD_kc hn h))) ?_
  simp only [okx_ok, ev_ret]
  refine opx_of (a := .val (.bl v.isSome)) ?_ ?_
  · cases v <;> rfl
  · exact rfl
def tBody : MS := (sSeq (sAsg (mWarm (mGetN 1 (mVar 2))) (gTupM 2 (gConsM (gSetM 2) (gConsM (gSetM 3) gNilM))))
  (sAsg (mWarm (mNotV (mIxN 0 (mVar 3)))) (gStN 0 (mVar 3))))
theorem Bs_set (xs : List Bool) (k : Nat) (v : Bool) : (Bs xs).set k (.bl v) = Bs (xs.set k v) := by simp [Bs, List.map_set]
theorem turn_body {cm : Cm} {cur : List Bool} {y x : Int} {p i : Nat} {s3 : S} {R : Out → Prop} (hn : (keysC cm).Nodup) (h : cm[i]? = some (y, some (x, (p : Int)))) (hp : p < cur.length)
    (hR : R (.nx [.lst (Bs (cur.set p (!inb cur p))), .val (.dK (kc cm)), .val (.int x), .val (.int p)])) : run tBody [.lst (Bs cur), .val (.dK (kc cm)), .val (.int y), s3] R := by
  unfold tBody
  refine run_seq_of (P := fun ρ => ρ = [.lst (Bs cur), .val (.dK (kc cm)), .val (.int x), .val (.int p)]) ?_ ?_
  · rw [run_asg, ev_warm]
    refine ev_getN (s := .val (.dK (kc cm))) rfl (by simp) rfl (gGet_kc.trans (congrArg some (valD_kc hn h))) ?_
    simp [cmD]
  · rintro ρ rfl
    rw [run_asg, ev_warm, ev_notV, ev_ixN]
    simp only [List.getElem?_cons_zero, List.getElem?_cons_succ, ev_var, okx_ok, gIx_Bs hp, ev_opt, opx_some]
    refine gev_stN (k := p) (xs := Bs cur) rfl rfl (by simpa using hp) ?_
    rw [Bs_set]
    exact hR
theorem turn_walk {rs : List (Int × Int)} {ins : List Bool} {pre starts : List Int} {cm : Cm} {last : Int} {R : Out → Prop} (hc : CmOk rs ins pre starts cm) (hP : ∀ p ∈ pre, 0 ≤ p ∧ p < (ins.length : Int))
    (h : ∀ cur y s3, y ∈ starts → cur.length = ins.length → (∀ k, dlt rs (chn cur) k = dlt rs (chn ins) k + bi (decide (y = k)) - bi (decide (last = k))) → (∀ p ∈ chn cur, p ∈ pre) → R (.nx [.lst (Bs cur), .val (.dK (kc cm)), .val (.int y), s3])) :
    ∀ (f i : Nat) (y : Int) (v : Option (Int × Int)) (cur : List Bool) (s3 : S), i < f → cm[i]? = some (y, v) → Back rs ins cur pre cm last y i →
      run (sWhile (mTest (mOp gNotN (mGetN 1 (mVar 2)) (ret .non))) tBody f) [.lst (Bs cur), .val (.dK (kc cm)), .val (.int y), s3] R
  | 0, i, _, _, _, _, hi, _, _ => absurd hi (Nat.not_lt_zero _)
  | f + 1, i, y, v, cur, s3, hi, he, hb => by
    have hcond := turn_cond (s0 := .lst (Bs cur)) (s3 := s3) hc.nd he
    cases v with
    | none => exact while_exit hcond (h cur y s3 (hc.st i y he) hb.len hb.net hb.sub)
    | some xp =>
      obtain ⟨x, p⟩ := xp
      refine while_go hcond ?_
      have hp := hP p (hc.up i y x p he).2.1
      obtain ⟨n, rfl⟩ : ∃ n : Nat, p = n := ⟨p.toNat, by omega⟩
      have hn : n < ins.length := by omega
      obtain ⟨j, v', hj, hv, hb'⟩ := hb.step hc hP he hn
      refine turn_body hc.nd he (by rw [hb.len]; exact hn) ?_
      exact turn_walk hc hP h f j x v' _ _ (by omega) hv hb'
/-- _turn -/
theorem x_turn {rs : List (Int × Int)} {ins : List Bool} {pre starts : List Int} {cm : Cm} {last : Int} {C : CR → Prop} (hc : CmOk rs ins pre starts cm) (hP : ∀ p ∈ pre, 0 ≤ p ∧ p < (ins.length : Int)) (hs : ∀ p ∈ chn ins, p ∈ pre) (hl : last ∈ keysC cm) (hlen : cm.length ≤ 100)
    (h : ∀ cur y, y ∈ starts → cur.length = ins.length → (∀ k, dlt rs (chn cur) k = dlt rs (chn ins) k + bi (decide (y = k)) - bi (decide (last = k))) → (∀ p ∈ chn cur, p ∈ pre) → C (.ret (.val (.int y)) [.lst (Bs cur), .val (.dK (kc cm)), .no])) :
    cal f__turn [.lst (Bs ins), .val (.dK (kc cm)), .val (.int last)] C := by
  unfold f__turn
  rw [cal_def]
  obtain ⟨q, hq, eq⟩ := List.mem_map.mp hl
  obtain ⟨i, hi⟩ := List.getElem?_of_mem hq
  have hil := (List.getElem?_eq_some_iff.mp hi).1
  subst eq
  show run (sSeq (sWhile _ tBody 100) (sRet (mMove 2))) [.lst (Bs ins), .val (.dK (kc cm)), .val (.int q.1), .no] _
  rw [run_seq]
  refine turn_walk (last := q.1) hc hP (fun cur y s3 h1 h2 h3 h4 => ?_) 100 i q.1 q.2 ins .no (by omega) hi ⟨rfl, fun _ _ _ _ _ _ => rfl, fun k => by omega, hs⟩
  simp [maskL]
  exact h cur y h1 h2 h3 h4
end L2.Fn
set_option maxRecDepth 100000
set_option maxHeartbeats 4000000
/-! LibS4: there, and the search. -/
namespace L2.Fn
open PySem PySem.Spec PyProof.Rows L2
abbrev thT : List (Str × Fun') := [("Join", f_Market_there), ("Lap", f_Market_there)]
/-- the parts there -/
def pres (rs : List (Int × Int)) (gone : List Int) : List Int := nb gone (rgI 0 rs.length)
/-! ### the search -/
/-- grown from cm -/
def Pfx (cm cm' : Cm) : Prop := ∃ t, cm' = cm ++ t
theorem Pfx.rfl {cm : Cm} : Pfx cm cm := ⟨[], by simp⟩
theorem Pfx.mem {cm cm' : Cm} (h : Pfx cm cm') {y : Int} (hy : y ∈ keysC cm) : y ∈ keysC cm' := by
  obtain ⟨t, rfl⟩ := h
  rw [keys_app]; exact List.mem_append_left _ hy
theorem Pfx.get {cm cm' : Cm} (h : Pfx cm cm') {i : Nat} {y : Int} (hy : (keysC cm)[i]? = some y) : (keysC cm')[i]? = some y := by
  obtain ⟨t, rfl⟩ := h
  rw [keys_app, List.getElem?_append_left (List.getElem?_eq_some_iff.mp hy).1]; exact hy
def RIn (size : Int) (cm : Cm) : Prop := ∀ y ∈ keysC cm, 0 ≤ y ∧ y ≤ size
theorem RIn.len {size : Int} {cm : Cm} (h : RIn size cm) (hn : (keysC cm).Nodup) (hs : 0 ≤ size) : (cm.length : Int) ≤ size + 1 := by
  have := range_len (n := (size + 1).toNat) hn fun p hp => by have := h p hp; omega
  have e : (keysC cm).length = cm.length := by simp [keysC]
  omega
def iBody : MS := (sSeq (sAsg (mWarm (mIx (mFldN KS "runs" 0) (mVar 8))) (gTupM 2 (gConsM (gSetM 9) (gConsM (gSetM 10) gNilM))))
  (sSeq (sIf (mTest (mWarm (mIxN 1 (mVar 8)))) (sPar 9 10 (mCons (mVar 10) (mCons (mVar 9) mNil))) sNil)
  (sIf (mAnd (mTest (mOp gEq (mVar 9) (mVar 5))) (mTest (mKeyN true 4 (mVar 10)))) (sSeq (sPutN 4 (mVar 10) (mTup (mCons (mVar 5) (mCons (mVar 8) mNil))))
  (sDrop (mAppN 6 (mVar 10)))) sNil)))
abbrev rsl (mk ins st en : S) (cm : Cm) (s5 : S) (at' : Int) (s8 s9 s10 : S) : Slots := [mk, ins, st, en, .dK (kc cm), s5, .lst (Js (keysC cm)), .val (.int at'), s8, s9, s10]
end L2.Fn
set_option maxRecDepth 100000
set_option maxHeartbeats 4000000
/-! LibS5: _reached. -/
namespace L2.Fn
open PySem PySem.Spec PyProof.Rows L2
/-- what is behind is shut -/
def Shut (rs : List (Int × Int)) (ins : List Bool) (pre en : List Int) (cm : Cm) (k : Nat) : Prop := ∀ i y, i < k → (keysC cm)[i]? = some y → y ∉ en ∧ ∀ p ∈ pre, tlp rs ins p = y → hdp rs ins p ∈ keysC cm
def rBody : MS := (sSeq (sAsg (mWarm (mIxN 6 (mVar 7))) (gSetM 5))
  (sSeq (sAug 7 gAddI (ret (.int 1)))
  (sSeq (sIf (mTest (mInN false 3 (mVar 5))) (sRet (mWarm (mTup (mCons (mVar 5) (mCons (mVar 4) mNil))))) sNil)
  (sFor (mItems (mCold (mMeth thT "there" (mVar 0) aNil))) (gSetM 8) iBody))))
section
variable {K : Str} {size : Int} {rs : List (Int × Int)} {gone : List Int} {ins : List Bool} {starts en : List Int} {R : Out → Prop}
end
end L2.Fn
set_option maxRecDepth 100000
set_option maxHeartbeats 4000000
/-! LibS6: begins, _chosen, the needs. -/
namespace L2.Fn
open PySem PySem.Spec PyProof.Rows L2
@[simp] theorem ev_itemsR {m : ME D} {ρ : Slots} {Q : Ex (List D) → Prop} : ev (mItemsR m) ρ Q ↔ ev m ρ (okx (fun x ρ1 => opx (itemsR x) fun s => Q (.ok s ρ1)) fun C fs ρ' => Q (.ex C fs ρ')) := by simp only [mItemsR, ev_bnd, ev_opt]
/-- what begins at each point -/
def begs (size : Int) (d : List Int) : List Int := (rgI 0 (size.toNat + 1)).map (bsk d)
theorem rgI_succ (n : Nat) : rgI 0 (n + 1) = rgI 0 n ++ [(n : Int)] := by
  unfold rgI
  rw [List.range_succ]
  simp
/-- the needs -/
def needs (size : Int) (rs : List (Int × Int)) (d : List Int) (ins : List Bool) : List Int := (rgI 0 (size.toNat + 1)).map fun k => bsk d k - dlt rs (chn ins) k
def nd1 (rs : List (Int × Int)) (d : List Int) (ins : List Bool) (k : Int) : Int := bsk d k - dlt rs (chn ins) k
end L2.Fn
set_option maxRecDepth 100000
set_option maxHeartbeats 4000000
/-! LibS7: _filled. -/
namespace L2.Fn
open PySem PySem.Spec PyProof.Rows L2
def mpos (x : Int) : Int := if 0 < x then x else 0
/-- what is still wanted -/
def want (size : Int) (rs : List (Int × Int)) (d : List Int) (ins : List Bool) : Int := ((rgI 0 (size.toNat + 1)).map fun k => mpos (nd1 rs d ins k)).sum
abbrev fsl (K : Str) (size : Int) (rs : List (Int × Int)) (gone d : List Int) (ins : List Bool) (s4 s6 s7 s8 s9 s10 : S) : Slots := [.val (.obj K (mkt K size rs gone)), .val (tp d), .lst (Js (needs size rs d ins)), .lst (Bs ins), s4, .val (.rng 0 (size + 1)), s6, s7, s8, s9, s10]
def fBody : MS := (sSeq (sAsg (mLc (mItemsR (mVar 5)) (gSetM 7) (mTest (mOp gGt (mIxN 2 (mVar 7)) (ret (.int 0)))) (mVar 7) (([("point", 7)] : List (Str × Nat)).map (·.2))) (gSetM 6))
  (sSeq (sIf (mTest (mOp gEq (mLenN 6) (ret (.int 0)))) (sRet (mWarm (mTup (mCons (mCold (mCall f__chosen [] (aCons (mVar 3) aNil))) (mCons (mTup mNil) mNil))))) sNil)
  (sSeq (sAsg (mLc (mItemsR (mVar 5)) (gSetM 7) (mTest (mOp gLt (mIxN 2 (mVar 7)) (ret (.int 0)))) (mVar 7) (([("point", 7)] : List (Str × Nat)).map (·.2))) (gSetM 8))
  (sSeq (sAsg (mCall f__reached [] (aCons (mVar 0) (mIo 3 (aCons (mVar 6) (aCons (mVar 8) aNil))))) (gTupM 2 (gConsM (gSetM 9) (gConsM (gSetM 10) gNilM))))
  (sSeq (sIf (mTest (mOp gIsN (mVar 9) (ret .non))) (sRet (mWarm (mTup (mCons (ret .non) (mCons (mCold (mB1 gTuple (mCold (mB1 gSorted (mCold (mListKN 10)))))) mNil))))) sNil)
  (sSeq (sAugN 2 gAddI (mVar 9) (ret (.int 1)))
  (sAugN 2 gSubI (mCold (mCall f__turn [] (mIo 3 (aCons (mVar 10) (aCons (mVar 9) aNil))))) (ret (.int 1)))))))))
def stP (size : Int) (rs : List (Int × Int)) (d : List Int) (ins : List Bool) : List Int := (rgI 0 (size.toNat + 1)).filter fun k => decide (0 < nd1 rs d ins k)
def enP (size : Int) (rs : List (Int × Int)) (d : List Int) (ins : List Bool) : List Int := (rgI 0 (size.toNat + 1)).filter fun k => decide (nd1 rs d ins k < 0)
section
variable {K : Str} {size : Int} {rs : List (Int × Int)} {gone d : List Int} {ins : List Bool} {R : Out → Prop} {s4 s6 s7 s8 s9 s10 : S}
end
end L2.Fn
set_option maxRecDepth 100000
set_option maxHeartbeats 4000000
/-! LibS8: _filled's loop. -/
namespace L2.Fn
open PySem PySem.Spec PyProof.Rows L2
/-- points that show that there is none -/
structure Lack (size : Int) (rs : List (Int × Int)) (pre d R : List Int) : Prop where
  asc : Asc R
  rng : ∀ k ∈ R, 0 ≤ k ∧ k ≤ size
  ne : R ≠ []
  out : ((lvs rs R pre).length : Int) < outf d R
section
variable {K : Str} {size : Int} {rs : List (Int × Int)} {gone d : List Int}
def RowOk (d : List Int) : Prop := ∀ x ∈ d, -5 ≤ x ∧ x ≤ 25
end
end L2.Fn
set_option maxRecDepth 100000
set_option maxHeartbeats 4000000
/-! LibS9: stocks, told. -/
namespace L2.Fn
open PySem PySem.Spec PyProof.Rows L2
/-- l is a stock of the row d -/
def Stk (k : Str) (size : Int) (rs : List (Int × Int)) (d l : List Int) : Prop := ∀ x : Int, 0 ≤ x → x < size → rowAt d x ≤ cvS rs l x ∧ (k = "join" → cvS rs l x = rowAt d x)
def NoS (k : Str) (size : Int) (rs : List (Int × Int)) (gone d : List Int) : Prop := ∀ l : List Int, l.Nodup → (∀ p ∈ l, p ∈ pres rs gone) → ¬ Stk k size rs d l
section
variable {k K : Str} {size : Int} {rs : List (Int × Int)} {gone d l : List Int}
def ovr (rs : List (Int × Int)) (x : Int) (p : Int) : Bool := decide (rb rs p ≤ x) && decide (x < re rs p)
end
end L2.Fn
set_option maxRecDepth 100000
set_option maxHeartbeats 4000000
/-! LibS10: is_stock, some_stock, has_stock, lacking. -/
namespace L2.Fn
open PySem PySem.Spec PyProof.Rows L2
section
variable {k : Str} {size : Int} {rs : List (Int × Int)} {gone d l : List Int} {dm dp : D}
/-- what lacking tells -/
structure LackK (k : Str) (size : Int) (rs : List (Int × Int)) (gone d Q : List Int) : Prop extends Lack size rs (pres rs gone) d Q where
  no : NoS k size rs gone d
  lap : k ≠ "join" → ∃ x : Nat, (x : Int) < size ∧ Q = rgI 0 (x + 1) ∧ cvS rs (pres rs gone) x < rowAt d x
end
end L2.Fn
set_option maxRecDepth 100000
set_option maxHeartbeats 4000000
/-! LibS11: points: leaving, entering, outflow; points refused. -/
namespace L2.Fn
open PySem PySem.Spec PyProof.Rows L2
def bPt : MS := (sSeq (sIf (mOr (mNot (mTest (mCall f_is_int [] (aCons (mVar 3) aNil)))) (mOr (mTest (mOp gLt (mVar 3) (ret (.int 0)))) (mOr (mTest (mOp gGt (mVar 3) (mFldN KS "size" 0))) (mTest (mKeyN false 2 (mVar 3)))))) (sRaise1 "BadPoint" "point" (mVar 3)) sNil)
  (sPutN 2 (mVar 3) (ret (.bl true))))
/-- a point that is none, behind the points l -/
def BadPt (size : Int) (l : List Int) (d : D) : Prop := d = .non ∨ (∃ b, d = .bl b) ∨ ∃ k, d = .int k ∧ (k < 0 ∨ size < k ∨ k ∈ l)
def PtIn (size : Int) (l : List Int) : Prop := ∀ x ∈ l, 0 ≤ x ∧ x ≤ size
theorem PtIn.len {size : Int} {l : List Int} (h : PtIn size l) (hn : l.Nodup) (hs2 : size ≤ 30) : l.length ≤ 31 := by
  have h1 := range_len (n := (size + 1).toNat) hn fun p hp => by have := h p hp; omega
  omega
section
variable {K : Str} {size : Int} {rs : List (Int × Int)} {gone d l : List Int} {dm dp : D} {C : CR → Prop}
/-- points refused -/
def BadPts (size : Int) (dp x : D) : Prop := (dp = .non ∧ x = .non) ∨ ∃ (l : List Int) (ys : List D), (dp = .lst (Js l ++ x :: ys) ∨ dp = .tup (Js l ++ x :: ys)) ∧ BadPt size l x ∧ l.Nodup ∧ PtIn size l
/-! ### over the edge -/
def ovE (rs : List (Int × Int)) (Q : List Int) (inw : Bool) (p : Int) : Bool := if inw then !decide (rb rs p ∈ Q) && decide (re rs p ∈ Q) else decide (rb rs p ∈ Q) && !decide (re rs p ∈ Q)
end
end L2.Fn
set_option maxRecDepth 100000
set_option maxHeartbeats 4000000
/-! LibS12: the law's demand, its stocks, its sets. -/
namespace L2.Fn
open PySem PySem.Spec PyProof.Rows L2
section
variable {k : Str} {size : Int} {rs : List (Int × Int)} {d l : List Int} {dp : D} {C : CR → Prop}
end
end L2.Fn
set_option maxRecDepth 100000
set_option maxHeartbeats 4000000
/-! LibS13: the law's sets, outflow, edge; lack_right. -/
namespace L2.Fn
open PySem PySem.Spec PyProof.Rows L2
def lsts (L : List (List Int)) : List D := L.map fun l => D.lst (Js l)
/-- all sets of parts -/
def setsS : List Int → List (List Int) := fun pre => pre.foldl (fun L p => L ++ L.map fun l => l ++ [p]) [[]]
section
variable {k : Str} {size : Int} {rs : List (Int × Int)} {gone d l : List Int} {dp : D} {C : CR → Prop}
end
end L2.Fn
set_option maxRecDepth 100000
set_option maxHeartbeats 4000000
/-! LibS15: refused: outflow, the doors. -/
namespace L2.Fn
open PySem PySem.Spec PyProof.Rows L2
section
variable {k K : Str} {size : Int} {rs : List (Int × Int)} {gone d l : List Int} {dm dp x : D} {n : Int}
end
/-! ### told by the law -/
section
variable {m dm dp x : D} {n : Int} {C : CR → Prop}
/-- what a door of the law's raises -/
def doorB : MS := (sIf (mTest (mOp gEq (mVar 0) (ret (.int 0)))) (sDrop (mCall f_leaving [] (aCons (mVar 1) (aCons (mVar 3) aNil)))) (sIf (mTest (mOp gEq (mVar 0) (ret (.int 1)))) (sDrop (mCall f_entering [] (aCons (mVar 1) (aCons (mVar 3) aNil)))) (sIf (mTest (mOp gEq (mVar 0) (ret (.int 2)))) (sDrop (mCall f_outflow [] (aCons (mVar 1) (aCons (mVar 2) (aCons (mVar 3) aNil))))) (sIf (mTest (mOp gEq (mVar 0) (ret (.int 3)))) (sDrop (mCall f_some_stock [] (aCons (mVar 1) (aCons (mVar 2) aNil)))) (sIf (mTest (mOp gEq (mVar 0) (ret (.int 4)))) (sDrop (mCall f_has_stock [] (aCons (mVar 1) (aCons (mVar 2) aNil)))) (sDrop (mCall f_lacking [] (aCons (mVar 1) (aCons (mVar 2) aNil)))))))))
def doorS (j : Int) (m dm dp : D) : Slots := [.val (.int j), .val m, .val dm, .val dp, .lst [.str "none", .int 0], .no]
end
end L2.Fn
set_option maxRecDepth 100000
set_option maxHeartbeats 4000000
/-! LibS16: the doors, all. -/
namespace L2.Fn
open PySem PySem.Spec PyProof.Rows L2
theorem cut_Js (l : List Int) (lo hi : Option Int) : cutD (Js l) lo hi = Js (cutL l lo hi) := by
  unfold cutD cutL
  rw [Js_length]
  simp [Js, List.map_drop, List.map_take]
theorem cut_from {α : Type} {xs : List α} {n : Nat} (h : n ≤ xs.length) : cutL xs (some (n : Int)) none = xs.drop n := by
  unfold cutL
  rw [HT.sIx_nat, HT.sIx_none, show min n xs.length = n by omega]
  exact List.take_of_length_le (by simp)
section
variable {k : Str} {size : Int} {rs : List (Int × Int)} {gone d l : List Int} {dm dp x : D} {n : Int} {C : CR → Prop}
end
end L2.Fn
set_option maxRecDepth 100000
set_option maxHeartbeats 4000000
/-! LibS17: the law's points. -/
namespace L2.Fn
open PySem PySem.Spec PyProof.Rows L2
abbrev psl (ds : List Int) (K : Str) (size : Int) (rs : List (Int × Int)) (gone d : List Int) (s6 s7 s8 s9 s10 s11 s12 : S) : Slots := [.lst (Js ds), .val (.obj K (mkt K size rs gone)), .val (.int size), .val (.lst (Rs rs)), .val (.lst (Js (pres rs gone))), .val (.lst (Js d)), s6, s7, s8, s9, s10, s11, s12]
end L2.Fn
set_option maxRecDepth 100000
set_option maxHeartbeats 4000000
/-! LibT0: full sets of points. -/
namespace L2.Fn
open PySem PySem.Spec PyProof.Rows L2
section
variable {k : Str} {size : Int} {rs : List (Int × Int)} {gone d l l0 R pre : List Int} {p : Int}
/-- parts that enter -/
def enB (rs : List (Int × Int)) (R : List Int) (p : Int) : Bool := decide (re rs p ∈ R) && !decide (rb rs p ∈ R)
/-- a full set of points -/
structure FullK (k : Str) (size : Int) (rs : List (Int × Int)) (gone d R : List Int) : Prop where
  asc : Asc R
  rng : ∀ k ∈ R, 0 ≤ k ∧ k ≤ size
  eq : ((lvs rs R (pres rs gone)).length : Int) = outf d R
  has : ∀ l : List Int, l.Nodup → (∀ p ∈ l, p ∈ pres rs gone) → Stk k size rs d l → ∀ q ∈ lvs rs R (pres rs gone), q ∈ l
  nos : k = "join" → ∀ l : List Int, l.Nodup → (∀ p ∈ l, p ∈ pres rs gone) → Stk k size rs d l → ∀ q ∈ l, enB rs R q = false
  lap : k ≠ "join" → ∃ x : Nat, (x : Int) < size ∧ R = rgI 0 (x + 1) ∧ cvS rs (pres rs gone) x = rowAt d x
end
end L2.Fn
set_option maxRecDepth 100000
set_option maxHeartbeats 4000000
/-! LibT1: a part taken out of a stock, or brought in. -/
namespace L2.Fn
open PySem PySem.Spec PyProof.Rows L2
section
variable {size : Int} {rs : List (Int × Int)} {gone d pre starts : List Int} {ins ins' : List Bool} {cm : Cm} {n : Nat}
theorem turned {last : Int} (hc : CmOk rs ins pre starts cm) (hP : ∀ p ∈ pre, 0 ≤ p ∧ p < (ins.length : Int)) (hs : ∀ p ∈ chn ins, p ∈ pre) (hl : last ∈ keysC cm) (hlen : cm.length ≤ 100) :
    ∃ (cur : List Bool) (y : Int), y ∈ starts ∧ cur.length = ins.length ∧ (∀ k, dlt rs (chn cur) k = dlt rs (chn ins) k + bi (decide (y = k)) - bi (decide (last = k))) ∧ ∀ p ∈ chn cur, p ∈ pre := by
  obtain ⟨_, _, h⟩ := x_turn (C := fun _ => ∃ (cur : List Bool) (y : Int), y ∈ starts ∧ cur.length = ins.length ∧ (∀ k, dlt rs (chn cur) k = dlt rs (chn ins) k + bi (decide (y = k)) - bi (decide (last = k))) ∧ ∀ p ∈ chn cur, p ∈ pre) hc hP hs hl hlen fun cur y h1 h2 h3 h4 => ⟨cur, y, h1, h2, h3, h4⟩
  exact h
end
end L2.Fn
set_option maxRecDepth 100000
set_option maxHeartbeats 4000000
/-! LibT2: the state of a part of a join market. -/
namespace L2.Fn
open PySem PySem.Spec PyProof.Rows L2
@[simp] theorem run_raise0 {C : Str} {ρ : Slots} {R : Out → Prop} : run (sRaise0 C) ρ R ↔ R (.ex C [] ρ) := run_some rfl
/-- a stock of parts that are there -/
structure StkT (k : Str) (size : Int) (rs : List (Int × Int)) (gone d l : List Int) : Prop where
  nd : l.Nodup
  sub : ∀ p ∈ l, p ∈ pres rs gone
  stk : Stk k size rs d l
/-- what is told of a part -/
def StP (k : Str) (size : Int) (rs : List (Int × Int)) (gone d : List Int) (p : Int) (w : Str) (pd : D) : Prop :=
  (∃ l, StkT k size rs gone d l) ∧
  ((w = "firm" ∧ ∃ R, pd = tp R ∧ FullK k size rs gone d R ∧ rb rs p ∈ R ∧ re rs p ∉ R) ∨
   (w = "dead" ∧ k = "join" ∧ ∃ R, pd = tp R ∧ FullK k size rs gone d R ∧ rb rs p ∉ R ∧ re rs p ∈ R) ∨
   (w = "loose" ∧ pd = .non ∧ (∃ l, StkT k size rs gone d l ∧ p ∈ l) ∧ ∃ l, StkT k size rs gone d l ∧ p ∉ l))
section
variable {k : Str} {size : Int} {rs : List (Int × Int)} {gone d : List Int} {C : CR → Prop} {n : Nat}
end
end L2.Fn
set_option maxRecDepth 100000
set_option maxHeartbeats 4000000
/-! LibT3: the state of a part. -/
namespace L2.Fn
open PySem PySem.Spec PyProof.Rows L2
section
variable {k : Str} {size : Int} {rs : List (Int × Int)} {gone d : List Int} {C : CR → Prop} {n : Nat} {dm : D}
/-- a value that is no part -/
def BadPart (rs : List (Int × Int)) (w : D) : Prop := (∃ j, w = .int j ∧ (j < 0 ∨ (rs.length : Int) ≤ j)) ∨ w = .non ∨ ∃ b, w = .bl b
end
end L2.Fn
set_option maxRecDepth 100000
set_option maxHeartbeats 4000000
/-! LibV0: sets and demands refused, the least misfit place, stocks of parts that may be gone. -/
namespace L2.Fn
open PySem PySem.Spec PyProof.Rows L2
section
variable {k : Str} {size : Int} {rs : List (Int × Int)} {gone d l : List Int} {dm dp : D} {K : Str} {C : CR → Prop} {n : Int}
@[simp] theorem isInt_str : isInt "str" = false := by decide
@[simp] theorem isLT_int : isLT "int" = false := by decide
@[simp] theorem isLT_str : isLT "str" = false := by decide
@[simp] theorem isLT_bool : isLT "bool" = false := by decide
theorem e_is_int_str {x : Str} : f_is_int [.val (.str x)] = some (.ret (.val (.bl false)) [.val (.str x)]) := of_cal (by
  unfold f_is_int
  rw [cal_def]
  simp [m_is_int])
@[simp] theorem c_is_int_str {x : Str} {C : CR → Prop} : cal f_is_int [.val (.str x)] C ↔ C (.ret (.val (.bl false)) [.val (.str x)]) := cal_of e_is_int_str
/-- what is no whole number -/
def NoI (x : D) : Prop := x = .non ∨ (∃ b, x = .bl b) ∨ ∃ s, x = .str s
/-- a wrong part behind l -/
def BadV (many : Int) (l : List Int) (x : D) : Prop := NoI x ∨ ∃ k, x = .int k ∧ (k < 0 ∨ many ≤ k ∨ k ∈ l)
/-- a set that is refused at the place n -/
def BadS (many : Int) (dp : D) (n : Int) : Prop := (n = -1 ∧ (NoI dp ∨ ∃ i, dp = .int i)) ∨ ∃ (l : List Int) (x : D) (ys : List D), dp = .lst (Js l ++ x :: ys) ∧ BadV many l x ∧ l.Nodup ∧ In many.toNat l ∧ l.length ≤ 10000 ∧ n = l.length
/-- a demand that is refused at the place n -/
def BadM (size : Int) (dm : D) (n : Int) : Prop := (n = -1 ∧ NoI dm) ∨ (n = -1 ∧ ∃ xs : List D, dm = .lst xs ∧ (xs.length : Int) ≠ size) ∨
  ∃ (a : List Int) (x : D) (ys : List D), dm = .lst (Js a ++ x :: ys) ∧ NoI x ∧ ((Js a ++ x :: ys).length : Int) = size ∧ n = a.length
/-! ### the least place that does not fit -/
def fitAt (k : Str) (rs : List (Int × Int)) (d l : List Int) (x : Int) : Prop := rowAt d x ≤ cvS rs l x ∧ (k = "join" → cvS rs l x = rowAt d x)
def MisV (k : Str) (size : Int) (rs : List (Int × Int)) (d l : List Int) (v : D) : Prop := (v = .non ∧ Stk k size rs d l) ∨ ∃ x : Int, v = .int x ∧ (0 ≤ x ∧ x < size) ∧ ¬ fitAt k rs d l x ∧ ∀ y, 0 ≤ y → y < x → fitAt k rs d l y
theorem MisV.stk {v : D} (h : MisV k size rs d l v) : v = .non ↔ Stk k size rs d l := by
  rcases h with ⟨rfl, h⟩ | ⟨x, rfl, h0, h1, h2⟩
  · exact ⟨fun _ => h, fun _ => rfl⟩
  · exact ⟨fun e => (by cases e), fun g => absurd (g x h0.1 h0.2) h1⟩
end
end L2.Fn
set_option maxRecDepth 100000
set_option maxHeartbeats 4000000
/-! LibV1: the law's own misfit, begins, points; sums of covers. -/
namespace L2.Fn
open PySem PySem.Spec PyProof.Rows L2
/-- a comprehension whose test and item read but one name of its own -/
theorem lc_pure {γ : Type} {f : γ → D} {xs : List γ} {ρ : Slots} {j : Nat} {c : γ → Bool} {e : γ → D} {tt : ME Bool} {te : ME D} (hj : j < ρ.length)
    (ht : ∀ x ∈ xs, ∀ ρ1 : Slots, (∃ s, ρ1 = ρ.set j s) → ρ1[j]? = some (.val (f x)) → tt ρ1 = some (.ok (c x) ρ1))
    (he : ∀ x ∈ xs, c x = true → ∀ ρ1 : Slots, (∃ s, ρ1 = ρ.set j s) → ρ1[j]? = some (.val (f x)) → te ρ1 = some (.ok (e x) ρ1)) :
    ∃ ρ', lcL (gSetM j) tt te [j] (xs.map f) [] ρ = some ((xs.filter c).map e, ρ') ∧ ∃ s, ρ' = ρ.set j s := by
  obtain ⟨acc, ρ', h1, h2, h3⟩ := ev_lcI (f := f) (g := gSetM j) (tt := tt) (te := te) (vs := [j]) (ρ := ρ) xs (fun done acc ρ' => acc = (done.filter c).map e ∧ ∃ s, ρ' = ρ.set j s) ⟨rfl, ρ[j], by simp⟩ (by
    rintro done x rest acc ρ' ee ⟨rfl, s, rfl⟩
    have hx : x ∈ xs := by rw [ee]; simp
    have e3 : ((done ++ [x]).filter c).map e = (done.filter c).map e ++ (if c x = true then [e x] else []) := by
      rw [List.filter_append, List.filter_cons]
      cases c x <;> simp
    rw [e3]
    have ht' := ht x hx (ρ.set j (.val (f x))) ⟨_, rfl⟩ (by simp [hj])
    simp only [wipeE, List.set_set, gev_set, List.length_set, hj, true_and]
    refine ⟨_, ht', ?_⟩
    cases hc : c x
    · simp only [okx_ok, Bool.false_eq_true, if_false, List.append_nil, true_and]
      exact ⟨_, List.set_set ..⟩
    · simp only [okx_ok, if_true]
      exact ⟨_, he x hx hc (ρ.set j (.val (f x))) ⟨_, rfl⟩ (by simp [hj]), rfl, _, List.set_set ..⟩)
  subst h2
  exact ⟨ρ', h1, h3⟩
/-- a for over a range -/
theorem run_rg {lo : Int} {n : Nat} {g : MG} {b : MS} {ρ : Slots} {R : Out → Prop} (I : Nat → Slots → Prop) (h0 : I 0 ρ)
    (hs : ∀ i ρ, i < n → I i ρ → gev g (.val (.int (lo + (i : Nat)))) ρ fun ρ1 => run b ρ1 fun o => match o with
      | .nx ρ' => I (i + 1) ρ'
      | .ct ρ' => I (i + 1) ρ'
      | .bk ρ' => R (.nx ρ')
      | r => R r)
    (he : ∀ ρ, I n ρ → R (.nx ρ)) : run (sLoop g b (rangeD lo n)) ρ R := by
  refine run_loop (f := fun i : Nat => D.int (lo + (i : Nat))) (List.range n) (fun done ρ => I done.length ρ) h0 ?_ (fun ρ h => he ρ (by simpa using h))
  intro done x rest ρ e h
  obtain ⟨rfl, hx⟩ := at_range e
  obtain ⟨ρ1, h1, r, h2, h3⟩ := hs _ _ hx h
  refine ⟨ρ1, h1, r, h2, ?_⟩
  cases r <;> simpa using h3
section
variable {k : Str} {size : Int} {rs : List (Int × Int)} {gone d l : List Int} {dm dp : D} {K : Str} {C : CR → Prop} {n : Int}
/-! ### the sum of the covers -/
end
end L2.Fn
set_option maxRecDepth 100000
set_option maxHeartbeats 4000000
/-! LibV2: refusals: is_stock, check_stock, the doors. -/
namespace L2.Fn
open PySem PySem.Spec PyProof.Rows L2
section
variable {k : Str} {size : Int} {rs : List (Int × Int)} {gone d l : List Int} {dm dp m rd bd : D} {K : Str} {C : CR → Prop} {n : Int}
theorem c_pair_no {r : Int × Int} (h : ¬ (0 ≤ r.1 ∧ r.1 < r.2 ∧ r.2 ≤ size)) : cal f_pair_of [.val (.int size), .val (rn r)] C ↔ C (.ret (.val .non) [.val (.int size), .val (rn r)]) := by
  refine cal_of (of_cal ?_)
  unfold f_pair_of
  rw [cal_def]
  by_cases h1 : r.1 < 0
  · simp [m_pair_of, rn, gLen, h1]
  · by_cases h2 : r.2 ≤ r.1
    · simp [m_pair_of, rn, gLen, h1, h2]
    · have h3 : size < r.2 := by omega
      simp [m_pair_of, rn, gLen, h1, h2, h3]
/-! ### told by the law -/
def EL0 : List Str := ["BadDemand", "BadSet", "BadRun", "BadNumber", "NotAStock", "NotJoin", "BadPart", "IsGone"]
/-! ### the doors -/
def door0B : MS := (sIf (mTest (mOp gEq (mVar 0) (ret (.int 0)))) (sDrop (mCall f_cover [] (aCons (mVar 1) (aCons (mVar 3) aNil)))) (sIf (mTest (mOp gEq (mVar 0) (ret (.int 1)))) (sDrop (mCall f_misfit_place [] (aCons (mVar 1) (aCons (mVar 2) (aCons (mVar 3) aNil))))) (sIf (mTest (mOp gEq (mVar 0) (ret (.int 2)))) (sDrop (mCall f_over [] (aCons (mVar 1) (aCons (mVar 2) (aCons (mVar 3) aNil))))) (sIf (mTest (mOp gEq (mVar 0) (ret (.int 3)))) (sDrop (mCall f_check_stock [] (aCons (mVar 1) (aCons (mVar 2) (aCons (mVar 3) aNil))))) (sIf (mTest (mOp gEq (mVar 0) (ret (.int 4)))) (sDrop (mCall f_begins [] (aCons (mVar 1) (aCons (mVar 2) aNil)))) (sIf (mTest (mOp gEq (mVar 0) (ret (.int 5)))) (sDrop (mCall f_changed [] (aCons (mVar 1) (aCons (mVar 2) (aCons (mVar 4) (aCons (mVar 5) aNil)))))) (sDrop (mCall f_demand_of [] (aCons (mVar 1) (aCons (mVar 2) aNil))))))))))
def door0S (j : Int) (m dm dp r b : D) : Slots := [.val (.int j), .val m, .val dm, .val dp, .val r, .val b, .lst [.str "none", .int 0], .no]
section
variable {E : Str} {fs : List (Str × D)}
end
end
end L2.Fn
set_option maxRecDepth 100000
set_option maxHeartbeats 4000000
/-! LibV3: the law's wrong sets. -/
namespace L2.Fn
open PySem PySem.Spec PyProof.Rows L2
section
variable {k : Str} {size : Int} {rs : List (Int × Int)} {gone d l : List Int} {dm dp m rd bd : D} {K : Str} {C : CR → Prop} {n : Int}
/-! ### the sets and demands that the law spoils -/
end
end L2.Fn
set_option maxRecDepth 100000
set_option maxHeartbeats 4000000
/-! LibV4: the law's wrong sets, walked. -/
namespace L2.Fn
open PySem PySem.Spec PyProof.Rows L2
abbrev wsl (s0 s1 s2 s3 s4 s5 s6 s7 s8 s9 s10 s11 s12 s13 s14 : S) : Slots := [s0, s1, s2, s3, s4, s5, s6, s7, s8, s9, s10, s11, s12, s13, s14]
section
variable {k : Str} {size : Int} {rs : List (Int × Int)} {gone d l ds : List Int} {K : Str} {C : CR → Prop}
end
end L2.Fn
set_option maxRecDepth 100000
set_option maxHeartbeats 4000000
/-! LibV5: amounts. -/
namespace L2.Fn
open PySem PySem.Spec PyProof.Rows L2
def oD : Option Int → D
  | none => .non
  | some i => .int i
@[simp] theorem oD_none : oD none = .non := rfl
@[simp] theorem oD_some {i : Int} : oD (some i) = .int i := rfl
def tstp (w v : Option Int) : Option Int := match w, v with
  | some a, some b => some (a + b)
  | _, _ => none
def lstp (w v : Option Int) : Option Int := match w, v with
  | w, none => w
  | none, some b => some b
  | some a, some b => if b < a then some b else some a
section
variable {C : CR → Prop} {a b : Option Int} {A : List (Option Int)} {dp : D} {ds : List Int}
def Amts (dp : D) (A : List (Option Int)) : Prop := dp = .lst (A.map oD) ∨ dp = .tup (A.map oD)
theorem Amts.it (h : Amts dp A) : itemsD dp = some (A.map oD) := by rcases h with rfl | rfl <;> rfl
theorem Amts.lt (h : Amts dp A) : gIsT isLT dp = some (.val (.bl true)) := by rcases h with rfl | rfl <;> simp
def amB (a b : Option Int) : Bool := match a, b with
  | _, none => true
  | none, some _ => false
  | some x, some y => decide (x ≤ y)
abbrev asl (s0 s1 s2 s3 s4 s5 s6 s7 s8 s9 s10 : S) : Slots := [s0, s1, s2, s3, s4, s5, s6, s7, s8, s9, s10]
end
end L2.Fn
set_option maxRecDepth 100000
set_option maxHeartbeats 4000000
/-! LibV6: sets and their subsets. -/
namespace L2.Fn
open PySem PySem.Spec PyProof.Rows L2
@[simp] theorem ev_slTB {m : ME D} {ml mh : ME (Option Int)} {ρ : Slots} {Q : Ex S → Prop} : ev (mSlT m ml mh) ρ Q ↔ ev m ρ (okx (fun d ρ1 => ev ml ρ1 (okx (fun lo ρ2 => ev mh ρ2 (okx (fun hi ρ3 => match d with
    | .tup xs => Q (.ok (.val (.tup (cutD xs lo hi))) ρ3)
    | _ => False) fun C fs ρ' => Q (.ex C fs ρ'))) fun C fs ρ' => Q (.ex C fs ρ'))) fun C fs ρ' => Q (.ex C fs ρ')) := by
  unfold mSlT
  rw [ev_bnd]
  refine ev_congr fun d ρ1 => ?_
  rw [ev_bnd]
  refine ev_congr fun lo ρ2 => ?_
  rw [ev_bnd]
  refine ev_congr fun hi ρ3 => ?_
  cases d <;> simp
/-- the subsets of at most four parts -/
def sbs : List Int → List (List Int)
  | [] => [[]]
  | [a] => [[], [a]]
  | [a, b] => [[], [a], [b], [a, b]]
  | [a, b, c] => [[], [a], [b], [c], [a, b], [a, c], [b, c], [a, b, c]]
  | [a, b, c, d] => [[], [a], [b], [c], [d], [a, b], [a, c], [a, d], [b, c], [b, d], [c, d], [a, b, c], [a, b, d], [a, c, d], [b, c, d], [a, b, c, d]]
  | _ => []
def chnL : List (List Int) → Prop
  | a :: b :: r => lexP a.length b.length a b = true ∧ chnL (b :: r)
  | _ => True
section
variable {C : CR → Prop} {l o : List Int} {many : Nat}
abbrev ssl (s0 s1 s2 s3 s4 s5 s6 s7 s8 : S) : Slots := [s0, s1, s2, s3, s4, s5, s6, s7, s8]
end
end L2.Fn
set_option maxRecDepth 100000
set_option maxHeartbeats 4000000
/-! LibV7: checks of kinds, runs and parts. -/
namespace L2.Fn
open PySem PySem.Spec PyProof.Rows L2
section
variable {k : Str} {size : Int} {rs : List (Int × Int)} {gone d l : List Int} {dm dp m : D} {K : Str} {C : CR → Prop}
abbrev csl (s0 s1 s2 s3 s4 s5 s6 s7 s8 s9 s10 : S) : Slots := [s0, s1, s2, s3, s4, s5, s6, s7, s8, s9, s10]
abbrev EL00 : List Str := ["BadDemand", "BadSet", "BadRun", "BadNumber", "NotAStock", "NotJoin", "BadPart", "IsGone"]
end
end L2.Fn
set_option maxRecDepth 100000
set_option maxHeartbeats 4000000
/-! LibV8: overcovered places, sums, chained tests. -/
namespace L2.Fn
open PySem PySem.Spec PyProof.Rows L2
@[simp] theorem ev_chainB {g g' : D → D → Option S} {ma mb mc : ME D} {ρ : Slots} {Q : Ex S → Prop} : ev (mChain g g' ma mb mc) ρ Q ↔ ev ma ρ (okx (fun x ρ1 => ev mb ρ1 (okx (fun y ρ2 => opx (g x y) fun s => match s with
    | .val (.bl true) => ev mc ρ2 (okx (fun z ρ3 => opx (g' y z) fun s => Q (.ok s ρ3)) fun C fs ρ' => Q (.ex C fs ρ'))
    | .val (.bl false) => Q (.ok (.val (.bl false)) ρ2)
    | _ => False) fun C fs ρ' => Q (.ex C fs ρ'))) fun C fs ρ' => Q (.ex C fs ρ')) := by
  unfold mChain
  rw [ev_bnd]
  refine ev_congr fun x ρ1 => ?_
  rw [ev_bnd]
  refine ev_congr fun y ρ2 => ?_
  generalize g x y = o
  cases o with
  | none => constructor
            · rintro ⟨r, h1, _⟩; cases h1
            · rintro ⟨a, h1, _⟩; cases h1
  | some s =>
    rw [opx_some]
    cases s with
    | val dd =>
      cases dd with
      | bl b =>
        cases b with
        | true => simp
        | false => simp
      | _ => simp
    | _ => simp
section
variable {k : Str} {size : Int} {rs : List (Int × Int)} {gone d l : List Int} {dm dp m : D} {K : Str} {C : CR → Prop}
def ovs (size : Int) (rs : List (Int × Int)) (d l : List Int) : List Int := (rgI 0 size.toNat).filter fun x => decide (rowAt d x < cvS rs l x)
end
end L2.Fn
set_option maxRecDepth 100000
set_option maxHeartbeats 4000000
/-! LibW0: texts: lines joined and split, numbers written. -/
namespace L2.Fn
open PySem PySem.Spec PyProof.Rows L2
def nl : Str := "\n"
abbrev es : Str := ""
theorem tl_nl : TL.tl nl = 10 :: [] := by kernel_rfl
theorem tl_e : TL.tl ("" : Str) = [] := by kernel_rfl
/-- the lines, one behind the other -/
def J (xs : List Str) : Str := Txt.join nl xs
def Free (x : Str) : Prop := 10 ∉ TL.tl x
theorem split_J {xs : List Str} (hne : xs ≠ []) (h : ∀ x ∈ xs, Free x) : Txt.split (J xs) nl = xs := TL.split_join tl_nl (by kernel_rfl) hne h
/-- the lines, each ended -/
def flL (ls : List Str) : List Nat := ls.flatMap fun l => TL.tl l ++ [10]
theorem flL_append (a b : List Str) : flL (a ++ b) = flL a ++ flL b := by simp [flL]
theorem flL_one (a : Str) : flL [a] = TL.tl a ++ [10] := by simp [flL]
theorem joinL_snoc (ls : List (List Nat)) (w : List Nat) : TL.joinL [10] (ls ++ [w]) = (ls.flatMap fun l => l ++ [10]) ++ w := by
  induction ls with
  | nil => simp [TL.joinL]
  | cons a ls ih =>
    cases ls with
    | nil => simp [TL.joinL]
    | cons b ls =>
      simp only [List.cons_append, TL.joinL] at ih ⊢
      rw [ih]
      simp
theorem joinL_nil (ls : List (List Nat)) : TL.joinL [] ls = ls.flatten := by
  induction ls with
  | nil => rfl
  | cons a ls ih =>
    cases ls with
    | nil => simp [TL.joinL]
    | cons b ls =>
      simp only [TL.joinL, List.nil_append] at ih ⊢
      rw [ih]
      simp
theorem tl_J (ls : List Str) (w : Str) : TL.tl (J (ls ++ [w])) = flL ls ++ TL.tl w := by
  unfold J
  rw [TL.join_eq, TL.tl_join, tl_nl, List.map_append, List.map_cons, List.map_nil, joinL_snoc]
  simp [flL, List.flatMap_map]
theorem joined (ls : List Str) : Txt.join "" (ls.map (· ++ nl)) = J (ls ++ [es]) := by
  refine TL.ext_tl ?_
  rw [tl_J, TL.join_eq, TL.tl_join, tl_e, joinL_nil, List.append_nil]
  simp only [flL, List.flatMap, List.map_map]
  congr 1
  apply List.map_congr_left
  intro x _
  simp only [Function.comp, TL.tl_append, tl_nl]
theorem J_add (ls : List Str) (w : Str) : J (ls ++ [es]) ++ w = J (ls ++ [w]) := by
  refine TL.ext_tl ?_
  rw [TL.tl_append, tl_J, tl_J, tl_e, List.append_nil]
theorem J_nl (ls : List Str) : J (ls ++ [es]) ++ nl = J (ls ++ [es, es]) := by
  refine TL.ext_tl ?_
  rw [TL.tl_append, tl_J, tl_nl, tl_e, List.append_nil, show ls ++ [es, es] = (ls ++ [es]) ++ [es] by simp, tl_J, flL_append, flL_one, tl_e]
  simp
theorem J_cut {ls : List Str} (h : ls ≠ []) : cutS (J (ls ++ [es])) none (some (-1)) = J ls := by
  obtain ⟨a, w, rfl⟩ : ∃ a w, ls = a ++ [w] := ⟨ls.dropLast, ls.getLast h, (List.dropLast_concat_getLast h).symm⟩
  refine TL.ext_tl ?_
  have e : TL.tl (J (a ++ [w] ++ [es])) = TL.tl (J (a ++ [w])) ++ [10] := by
    rw [tl_J, tl_J, flL_append, flL_one, tl_e]
    simp
  have hl : (J (a ++ [w] ++ [es])).length = (TL.tl (J (a ++ [w]))).length + 1 := by rw [TL.len_tl, e]; simp
  show (cutS _ _ _).cps.toList = _
  unfold cutS
  show ((((J (a ++ [w] ++ [es])).cps.toList.drop _).take _).toArray).toList = _
  have e' : (J (a ++ [w] ++ [es])).cps.toList = TL.tl (J (a ++ [w])) ++ [10] := e
  rw [e', hl]
  have h1 : HT.sIx ((TL.tl (J (a ++ [w]))).length + 1) 0 none = 0 := rfl
  have h2 : HT.sIx ((TL.tl (J (a ++ [w]))).length + 1) ((TL.tl (J (a ++ [w]))).length + 1) (some (-1)) = (TL.tl (J (a ++ [w]))).length := by
    simp [HT.sIx]
    try omega
  rw [h1, h2]
  simp
/-! ### lengths, signs -/
/-- a line of few signs -/
def okS (x : Str) : Bool := decide (x.length ≤ 40) && ((TL.tl x).all fun c => decide (c ≠ 10)) && (TL.tl x).all fun c => decide (c < 128)
def OkS (x : Str) : Prop := okS x = true
theorem OkS.parts {x : Str} (h : OkS x) : x.length ≤ 40 ∧ (∀ c ∈ TL.tl x, c ≠ 10) ∧ ∀ c ∈ TL.tl x, c < 128 := by
  unfold OkS okS at h
  rw [Bool.and_eq_true_iff, Bool.and_eq_true_iff, decide_eq_true_eq, List.all_eq_true, List.all_eq_true] at h
  exact ⟨h.1.1, fun c hc => of_decide_eq_true (h.1.2 c hc), fun c hc => of_decide_eq_true (h.2 c hc)⟩
theorem OkS.len {x : Str} (h : OkS x) : x.length ≤ 40 := h.parts.1
theorem OkS.free {x : Str} (h : OkS x) : Free x := fun hc => h.parts.2.1 _ hc rfl
theorem OkS.low {x : Str} (h : OkS x) : ∀ c ∈ TL.tl x, c < 128 := h.parts.2.2
theorem strOk_low {x : Str} (h : ∀ c ∈ TL.tl x, c < 128) : PyData.strOk x = true := by
  unfold PyData.strOk
  rw [Array.all_eq_true]
  intro i hi
  have := h x.cps[i] (by show x.cps[i] ∈ x.cps.toList; simp)
  simp
  omega
theorem OkS.strOk {x : Str} (h : OkS x) : PyData.strOk x = true := strOk_low h.low
theorem flL_low {ls : List Str} (h : ∀ x ∈ ls, OkS x) : ∀ c ∈ flL ls, c < 128 := by
  intro c hc
  unfold flL at hc
  rw [List.mem_flatMap] at hc
  obtain ⟨x, hx, hc⟩ := hc
  rcases List.mem_append.mp hc with hc | hc
  · exact (h x hx).low c hc
  · simp at hc; omega
theorem flL_len {ls : List Str} (h : ∀ x ∈ ls, OkS x) : (flL ls).length ≤ 41 * ls.length := by
  induction ls with
  | nil => simp [flL]
  | cons a ls ih =>
    have h1 := (h a List.mem_cons_self).len
    rw [TL.len_tl] at h1
    have h2 := ih fun x hx => h x (List.mem_cons_of_mem _ hx)
    have : flL (a :: ls) = flL [a] ++ flL ls := flL_append [a] ls
    rw [this, flL_one]
    simp only [List.length_append, List.length_cons, List.length_nil]
    omega
theorem J_ok {xs : List Str} (hne : xs ≠ []) (h : ∀ x ∈ xs, OkS x) : PyData.strOk (J xs) = true ∧ (J xs).length ≤ 41 * xs.length := by
  obtain ⟨a, w, rfl⟩ : ∃ a w, xs = a ++ [w] := ⟨xs.dropLast, xs.getLast hne, (List.dropLast_concat_getLast hne).symm⟩
  have ha : ∀ x ∈ a, OkS x := fun x hx => h x (by simp [hx])
  have hw := h w (by simp)
  constructor
  · refine strOk_low fun c hc => ?_
    rw [tl_J] at hc
    rcases List.mem_append.mp hc with hc | hc
    · exact flL_low ha c hc
    · exact hw.low c hc
  · rw [TL.len_tl, tl_J]
    have h1 := flL_len ha
    have h2 := hw.len
    rw [TL.len_tl] at h2
    simp only [List.length_append, List.length_cons, List.length_nil]
    omega
theorem split_Jo {xs : List Str} (hne : xs ≠ []) (h : ∀ x ∈ xs, OkS x) : Txt.split (J xs) nl = xs := split_J hne fun x hx => (h x hx).free
theorem okS_e : OkS es := by
  show okS es = true
  kernel_rfl
/-! ### numbers and lines written -/
def num (i : Int) : Str := Str.ofString (toString i)
def pline (b e : Int) (g : Bool) : Str := num b ++ " " ++ num e ++ (if g = true then " gone" else "")
def hline (k : Str) (i : Int) : Str := k ++ " " ++ num i
def ns31 : List Int := (List.range 31).map Int.ofNat
theorem ns31_mem {i : Int} (h0 : 0 ≤ i) (h : i ≤ 30) : i ∈ ns31 := List.mem_map.mpr ⟨i.toNat, List.mem_range.mpr (by omega), by show ((i.toNat : Nat) : Int) = i; omega⟩
theorem num_ok {i : Int} (h0 : 0 ≤ i) (h : i ≤ 30) : OkS (num i) ∧ (num i).length ≤ 2 := by
  have t : (ns31.all fun i => okS (num i) && decide ((num i).length ≤ 2)) = true := by kernel_rfl
  have := List.all_eq_true.mp t i (ns31_mem h0 h)
  rw [Bool.and_eq_true_iff, decide_eq_true_eq] at this
  exact this
theorem pline_ok {b e : Int} {g : Bool} (b0 : 0 ≤ b) (b1 : b ≤ 30) (e0 : 0 ≤ e) (e1 : e ≤ 30) : OkS (pline b e g) := by
  have t : (ns31.all fun b => ns31.all fun e => okS (pline b e true) && okS (pline b e false)) = true := by kernel_rfl
  have := List.all_eq_true.mp (List.all_eq_true.mp t b (ns31_mem b0 b1)) e (ns31_mem e0 e1)
  rw [Bool.and_eq_true_iff] at this
  cases g
  · exact this.2
  · exact this.1
theorem hline_ok {k : Str} {i : Int} (hk : k ∈ kinds) (h0 : 0 ≤ i) (h : i ≤ 30) : OkS (hline k i) := by
  have t : (kinds.all fun k => ns31.all fun i => okS (hline k i)) = true := by kernel_rfl
  exact List.all_eq_true.mp (List.all_eq_true.mp t k hk) i (ns31_mem h0 h)
theorem str_e (x : Str) : x ++ "" = x := TL.ext_tl (by rw [TL.tl_append, tl_e, List.append_nil])
theorem e_str (x : Str) : Str.empty ++ x = x := TL.ext_tl (by rw [TL.tl_append]; rfl)
theorem str_assoc (x y z : Str) : x ++ y ++ z = x ++ (y ++ z) := TL.ext_tl (by simp only [TL.tl_append, List.append_assoc])
theorem str_len (x y : Str) : (x ++ y).length = x.length + y.length := Str.length_append x y
end L2.Fn
set_option maxRecDepth 100000
set_option maxHeartbeats 4000000
/-! LibW1: the readings of single lines, told by the kernel. -/
namespace L2.Fn
open PySem PySem.Spec PyProof.Rows L2
def ns26 : List Int := (List.range 26).map Int.ofNat
theorem map_at {α β : Type} {f g : α → β} {l : List α} (h : l.map f = l.map g) : ∀ x ∈ l, f x = g x := by
  induction l with
  | nil => intro x hx; cases hx
  | cons a l ih =>
    rw [List.map_cons, List.map_cons] at h
    injection h with h1 h2
    intro x hx
    rcases List.mem_cons.mp hx with rfl | hx
    · exact h1
    · exact ih h2 x hx
section
variable {α : Type} {ma mb m : ME D} {ms : List (ME D)} {ml mh : ME (Option Int)} {ρ : Slots} {QD : Ex D → Prop} {QS : Ex S → Prop} {QL : Ex (List D) → Prop} {R : Out → Prop} {Q : Ex α → Prop}
@[simp] theorem ev_split : ev (mSplit ma mb) ρ QS ↔ ev ma ρ (okx (fun x ρ1 => match x with
    | .str a => ev mb ρ1 (okx (fun y ρ2 => match y with
      | .str b => ((b.length == 0) = false ∧ a.length + 2 ≤ sizeLine) ∧ QS (.ok (.lst ((Txt.split a b).map D.str)) ρ2)
      | _ => False) fun C fs ρ' => QS (.ex C fs ρ'))
    | _ => False) fun C fs ρ' => QS (.ex C fs ρ')) := by
  unfold mSplit
  rw [ev_bnd]
  refine ev_congr fun x ρ1 => ?_
  cases x with
  | str a =>
    simp only [ev_bnd]
    refine ev_congr fun y ρ2 => ?_
    cases y with
    | str b => by_cases h : (b.length == 0) = false ∧ a.length + 2 ≤ sizeLine <;> simp [h]
    | _ => simp
  | _ => simp
@[simp] theorem ev_join : ev (mJoin ma mb) ρ QD ↔ ev ma ρ (okx (fun x ρ1 => match x with
    | .str a => ev mb ρ1 (okx (fun y ρ2 => opx ((itemsD y).bind strsD) fun ys => (ys.map (·.length)).sum + ys.length * a.length ≤ 16777216 ∧ QD (.ok (.str (Txt.join a ys)) ρ2)) fun C fs ρ' => QD (.ex C fs ρ'))
    | _ => False) fun C fs ρ' => QD (.ex C fs ρ')) := by
  unfold mJoin
  rw [ev_bnd]
  refine ev_congr fun x ρ1 => ?_
  cases x with
  | str a =>
    simp only [ev_bnd]
    refine ev_congr fun y ρ2 => ?_
    cases h : itemsD y with
    | none => simp
    | some ds =>
      cases h2 : strsD ds with
      | none => simp [h2]
      | some ys => by_cases h3 : (ys.map (·.length)).sum + ys.length * a.length ≤ 16777216 <;> simp [h2, h3]
  | _ => simp
@[simp] theorem ev_fmt : ev (mFmt m) ρ QD ↔ ev m ρ (okx (fun x ρ1 => match x with
    | .str a => a.length ≤ sizeLine ∧ QD (.ok (.str a) ρ1)
    | .int i => i.natAbs.log2 < 1920 ∧ QD (.ok (.str (num i)) ρ1)
    | _ => False) fun C fs ρ' => QD (.ex C fs ρ')) := by
  unfold mFmt
  rw [ev_bnd]
  refine ev_congr fun x ρ1 => ?_
  cases x with
  | str a => by_cases h : a.length ≤ sizeLine <;> simp [h]
  | int i => by_cases h : i.natAbs.log2 < 1920 <;> simp [h, num]
  | _ => simp
@[simp] theorem ev_js0 {acc : Str} : ev (mJs [] acc) ρ QD ↔ QD (.ok (.str acc) ρ) := ev_ret
@[simp] theorem ev_js1 {acc : Str} : ev (mJs (m :: ms) acc) ρ QD ↔ ev m ρ (okx (fun x ρ1 => match x with
    | .str y => (acc ++ y).length ≤ sizeLine ∧ ev (mJs ms (acc ++ y)) ρ1 QD
    | _ => False) fun C fs ρ' => QD (.ex C fs ρ')) := by
  rw [mJs, ev_bnd]
  refine ev_congr fun x ρ1 => ?_
  cases x with
  | str y => by_cases h : (acc ++ y).length ≤ sizeLine <;> simp [h]
  | _ => simp
@[simp] theorem ev_slS : ev (mSlS m ml mh) ρ QS ↔ ev m ρ (okx (fun d ρ1 => ev ml ρ1 (okx (fun lo ρ2 => ev mh ρ2 (okx (fun hi ρ3 => match d with
    | .str z => z.length ≤ sizeLine ∧ QS (.ok (.val (.str (cutS z lo hi))) ρ3)
    | _ => False) fun C fs ρ' => QS (.ex C fs ρ')) ) fun C fs ρ' => QS (.ex C fs ρ'))) fun C fs ρ' => QS (.ex C fs ρ')) := by
  unfold mSlS
  rw [ev_bnd]
  refine ev_congr fun d ρ1 => ?_
  rw [ev_bnd]
  refine ev_congr fun lo ρ2 => ?_
  rw [ev_bnd]
  refine ev_congr fun hi ρ3 => ?_
  cases d with
  | str z => by_cases h : z.length ≤ sizeLine <;> simp [h]
  | _ => simp
@[simp] theorem ev_isO {Cs : List Str} : ev (mIsO Cs m) ρ QS ↔ ev m ρ (okx (fun x ρ1 => opx (gIsO Cs x) fun s => QS (.ok s ρ1)) fun C fs ρ' => QS (.ex C fs ρ')) := by simp only [mIsO, ev_bnd, ev_opt]
@[simp] theorem run_raisF {C f : Str} : run (sRaiseF C f ma mb) ρ R ↔ ev ma ρ (okx (fun d ρ' => ev mb ρ' (okx (fun _ ρ2 => R (.ex C [(f, d)] ρ2)) fun C fs ρ' => R (.ex C fs ρ'))) fun C fs ρ' => R (.ex C fs ρ')) := by
  unfold sRaiseF
  rw [run_thn]
  refine ev_congr fun d ρ1 => ?_
  rw [run_thn]
  refine ev_congr fun d2 ρ2 => ?_
  exact run_some rfl
end
theorem number_tab : (ns31.map fun i => f__number [.val (.str (num i))]) = ns31.map fun i => some (.ret (.val (.int i)) [.val (.str (num i))]) := by kernel_rfl
theorem c_number {i : Int} {C : CR → Prop} (h0 : 0 ≤ i) (h : i ≤ 30) : cal f__number [.val (.str (num i))] C ↔ C (.ret (.val (.int i)) [.val (.str (num i))]) := cal_of (map_at number_tab i (ns31_mem h0 h))
/-- no space in it -/
def Nsp (x : Str) : Prop := 32 ∉ TL.tl x
theorem num_nsp {i : Int} (h0 : 0 ≤ i) (h : i ≤ 30) : Nsp (num i) := by
  have t : (ns31.all fun i => (TL.tl (num i)).all fun c => decide (c ≠ 32)) = true := by kernel_rfl
  have := List.all_eq_true.mp t i (ns31_mem h0 h)
  rw [List.all_eq_true] at this
  exact fun hc => of_decide_eq_true (this _ hc) rfl
theorem gone_nsp : Nsp "gone" := by
  have t : ((TL.tl ("gone" : Str)).all fun c => decide (c ≠ 32)) = true := by kernel_rfl
  rw [List.all_eq_true] at t
  exact fun hc => of_decide_eq_true (t _ hc) rfl
def sp : Str := " "
theorem tl_sp : TL.tl sp = 32 :: [] := by kernel_rfl
theorem split_2 {a b : Str} (ha : Nsp a) (hb : Nsp b) : Txt.split (a ++ sp ++ b) sp = [a, b] := by
  have := TL.split_join (y := sp) (parts := [a, b]) tl_sp (by kernel_rfl) (by simp) (by
    intro p hp
    rcases List.mem_cons.mp hp with rfl | hp
    · exact ha
    · rcases List.mem_cons.mp hp with rfl | hp
      · exact hb
      · cases hp)
  rw [TL.join_eq] at this
  exact this
theorem split_3 {a b c : Str} (ha : Nsp a) (hb : Nsp b) (hc : Nsp c) : Txt.split (a ++ sp ++ (b ++ sp ++ c)) sp = [a, b, c] := by
  have := TL.split_join (y := sp) (parts := [a, b, c]) tl_sp (by kernel_rfl) (by simp) (by
    intro p hp
    rcases List.mem_cons.mp hp with rfl | hp
    · exact ha
    · rcases List.mem_cons.mp hp with rfl | hp
      · exact hb
      · rcases List.mem_cons.mp hp with rfl | hp
        · exact hc
        · cases hp)
  rw [TL.join_eq] at this
  exact this
theorem sp_gone : (" gone" : Str) = sp ++ "gone" := by kernel_rfl
theorem split_line {b e : Int} {g : Bool} (b0 : 0 ≤ b) (b1 : b ≤ 25) (e0 : 0 ≤ e) (e1 : e ≤ 25) : Txt.split (pline b e g) sp = if g = true then [num b, num e, "gone"] else [num b, num e] := by
  have h1 := num_nsp b0 (by omega)
  have h2 := num_nsp e0 (by omega)
  unfold pline
  cases g
  · rw [if_neg (by decide), if_neg (by decide), str_e]
    exact split_2 h1 h2
  · rw [if_pos rfl, if_pos rfl, sp_gone]
    have := split_3 h1 h2 gone_nsp
    rw [← this]
    congr 1
    show num b ++ sp ++ num e ++ (sp ++ "gone") = _
    simp only [str_assoc]
theorem gEq_gone : gEq (.str "gone") (.str "gone") = some (.val (.bl true)) := by kernel_rfl
theorem c_words {b e n : Int} {g : Bool} {C : CR → Prop} (b0 : 0 ≤ b) (b1 : b ≤ 25) (e0 : 0 ≤ e) (e1 : e ≤ 25) : cal f__words [.val (.str (pline b e g)), .val (.int n)] C ↔ C (.ret (.val (.tup [.int b, .int e, .bl g])) [.val (.str (pline b e g)), .val (.int n)]) := by
  refine cal_of (of_cal ?_)
  unfold f__words
  rw [cal_def]
  have hl : (pline b e g).length + 2 ≤ sizeLine := le_size (by have := (pline_ok (g := g) b0 (by omega) e0 (by omega)).len; omega)
  have hs := split_line (g := g) b0 b1 e0 e1
  have hs0 : ¬ (" " : Str).length = 0 := by decide +kernel
  generalize pline b e g = x at hl hs
  have hs' : Txt.split x " " = _ := hs
  cases g
  · rw [if_neg (by decide)] at hs'
    have i0 : gIx (.lst [.str (num b), .str (num e)]) (.int 0) = some (.str (num b)) := rfl
    have i1 : gIx (.lst [.str (num b), .str (num e)]) (.int 1) = some (.str (num e)) := rfl
    simp [m__words, hl, hs', hs0, i0, i1, c_number b0 (by omega), c_number e0 (by omega)]
  · rw [if_pos rfl] at hs'
    have i0 : gIx (.lst [.str (num b), .str (num e), .str "gone"]) (.int 0) = some (.str (num b)) := rfl
    have i1 : gIx (.lst [.str (num b), .str (num e), .str "gone"]) (.int 1) = some (.str (num e)) := rfl
    have i2 : gIx (.lst [.str (num b), .str (num e), .str "gone"]) (.int 2) = some (.str "gone") := rfl
    simp [m__words, hl, hs', hs0, i0, i1, i2, gEq_gone, c_number b0 (by omega), c_number e0 (by omega)]
theorem e_words {b e n : Int} {g : Bool} (b0 : 0 ≤ b) (b1 : b ≤ 25) (e0 : 0 ≤ e) (e1 : e ≤ 25) : f__words [.val (.str (pline b e g)), .val (.int n)] = some (.ret (.val (.tup [.int b, .int e, .bl g])) [.val (.str (pline b e g)), .val (.int n)]) := of_cal ((c_words b0 b1 e0 e1).mpr rfl)
theorem head_tab : (kinds.map fun k => (ns31.drop 1).map fun i => f__head [.val (.str (hline k i))]) = kinds.map fun k => (ns31.drop 1).map fun i => some (.ret (.val (.tup [.str k, .int i])) [.val (.str (hline k i))]) := by kernel_rfl
theorem e_head {k : Str} {i : Int} (hk : k ∈ kinds) (h0 : 1 ≤ i) (h : i ≤ 30) : f__head [.val (.str (hline k i))] = some (.ret (.val (.tup [.str k, .int i])) [.val (.str (hline k i))]) := by
  refine map_at (map_at head_tab k hk) i ?_
  show i ∈ ((List.range 31).map Int.ofNat).drop 1
  rw [← List.map_drop]
  refine List.mem_map.mpr ⟨i.toNat, ?_, by show ((i.toNat : Nat) : Int) = i; omega⟩
  rw [List.mem_iff_getElem?]
  exact ⟨i.toNat - 1, by rw [List.getElem?_drop, List.getElem?_range (by omega)]; congr 1; omega⟩
/-- a line that is no part's -/
def BadLn (size : Int) (w : Str) : Prop := ∀ n : Int, (∃ ss, f__words [.val (.str w), .val (.int n)] = some (.exc "BadText" [("line", .int n)] ss)) ∨ ∃ b e ss, f__words [.val (.str w), .val (.int n)] = some (.ret (.val (.tup [.int b, .int e, .bl false])) ss) ∧ ¬ (0 ≤ b ∧ b < e ∧ e ≤ size)
def BadHd (w : Str) : Prop := ∃ ss, f__head [.val (.str w)] = some (.exc "BadText" [("line", .int 1)] ss)
def wmenu : List Str := ["0", "01 2", "0  1", " 0 1", "0 1 ", "00 1", "0 01", "0 1 lost", "0 1 gone ", "0 1  gone", "0 1 gone gone", "a 1", "-0 1", "0 1 2", ""]
theorem wmenu_tab (n : Int) : (wmenu.map fun w => (f__words [.val (.str w), .val (.int n)]).map fun c => match c with
    | .exc E fs _ => some (E, fs)
    | _ => none) = wmenu.map fun w => some (some (("BadText" : Str), [(("line" : Str), D.int n)])) := by kernel_rfl
theorem bad_menu {size : Int} {w : Str} (h : w ∈ wmenu) : BadLn size w := fun n => by
  have t := map_at (wmenu_tab n) w h
  left
  cases q : f__words [.val (.str w), .val (.int n)] with
  | none => rw [q] at t; cases t
  | some c =>
    rw [q] at t
    cases c with
    | exc E fs ss =>
      simp only [Option.map_some, Option.some.injEq, Prod.mk.injEq] at t
      rw [t.1, t.2]
      exact ⟨ss, rfl⟩
    | ret s ss => simp at t
theorem bad_10 {size : Int} (w : Str) (hw : w = "1 0") : BadLn size w := fun n => .inr ⟨1, 0, [.val (.str "1 0"), .val (.int n)], by rw [hw]; kernel_rfl, by omega⟩
theorem bad_00 {size : Int} (w : Str) (hw : w = "0 0") : BadLn size w := fun n => .inr ⟨0, 0, [.val (.str "0 0"), .val (.int n)], by rw [hw]; kernel_rfl, by omega⟩
theorem bad_long {size : Int} (h0 : 0 ≤ size) (h : size ≤ 24) : BadLn size (pline 0 (size + 1) false) := fun n => .inr ⟨0, size + 1, _, e_words (by omega) (by omega) (by omega) (by omega), by omega⟩
theorem pline0 {i : Int} : pline 0 i false = "0 " ++ num i := by
  unfold pline
  rw [if_neg (by decide), str_e, show num 0 = "0" by kernel_rfl, show (("0" : Str) ++ " ") = "0 " by kernel_rfl]
/-- wrong heads -/
def hmenu (k w : Str) : List Str := [k ++ "s " ++ w, k ++ "  " ++ w, k ++ " 0" ++ w, k ++ " 0", k ++ " 31", k, " " ++ k ++ " " ++ w, k ++ " " ++ w ++ " ", k ++ " -" ++ w, "", "joinlap " ++ w, k ++ " " ++ w ++ " gone", k ++ " +" ++ w]
def excB (c : Option CR) : Bool := match c with
  | some (.exc E [(f, .int n)] _) => decide (E = "BadText" ∧ f = "line" ∧ n = 1)
  | _ => false
theorem hmenu_tab : (kinds.all fun k => (ns26.drop 1).all fun i => (hmenu k (num i)).all fun w => excB (f__head [.val (.str w)]) && okS w) = true := by kernel_rfl
theorem bad_head {k w : Str} {i : Int} (hk : k ∈ kinds) (h0 : 1 ≤ i) (h : i ≤ 25) (hw : w ∈ hmenu k (num i)) : BadHd w ∧ OkS w := by
  have hi : i ∈ ns26.drop 1 := by
    show i ∈ ((List.range 26).map Int.ofNat).drop 1
    rw [← List.map_drop]
    refine List.mem_map.mpr ⟨i.toNat, ?_, by show ((i.toNat : Nat) : Int) = i; omega⟩
    rw [List.mem_iff_getElem?]
    exact ⟨i.toNat - 1, by rw [List.getElem?_drop, List.getElem?_range (by omega)]; congr 1; omega⟩
  have t := List.all_eq_true.mp (List.all_eq_true.mp (List.all_eq_true.mp hmenu_tab k hk) i hi) w hw
  rw [Bool.and_eq_true_iff] at t
  refine ⟨?_, t.2⟩
  have t1 := t.1
  unfold excB at t1
  split at t1
  · rename_i E f n ss q
    obtain ⟨rfl, rfl, rfl⟩ := of_decide_eq_true t1
    exact ⟨_, q⟩
  · cases t1
end L2.Fn
set_option maxRecDepth 100000
set_option maxHeartbeats 4000000
/-! LibW2: the text of a market, by the law and by the program. -/
namespace L2.Fn
open PySem PySem.Spec PyProof.Rows L2
theorem gAdd_tx {x y : Str} (h : x.length + y.length ≤ 16777216) : gAdd (.str x) (.str y) = some (.val (.str (x ++ y))) := by
  show (if _ then _ else _) = _
  rw [if_pos (le_size h)]
theorem log_ok {i : Int} (h0 : 0 ≤ i) (h : i ≤ 30) : i.natAbs.log2 < 1920 := by
  have : i.natAbs < 2 ^ 5 := by omega
  by_cases hz : i.natAbs = 0
  · rw [hz]; decide
  · have := (Nat.log2_lt hz).mpr this
    omega
theorem gStr_num {i : Int} (h0 : 0 ≤ i) (h : i ≤ 30) : gStr1 (.int i) = some (.val (.str (num i))) := by
  show (if _ then _ else _) = _
  rw [if_pos (log_ok h0 h)]
  rfl
/-- the parts' lines -/
def lnL (rs : List (Int × Int)) (gone : List Int) : List Str := rs.zipIdx.map fun p => pline p.1.1 p.1.2 (decide ((p.2 : Int) ∈ gone))
/-- the lines of a market's text -/
def lns (k : Str) (size : Int) (rs : List (Int × Int)) (gone : List Int) : List Str := hline k size :: lnL rs gone
@[simp] theorem lnL_len {rs : List (Int × Int)} {gone : List Int} : (lnL rs gone).length = rs.length := by simp [lnL]
theorem lnL_get {rs : List (Int × Int)} {gone : List Int} {i : Nat} {r : Int × Int} (h : rs[i]? = some r) : (lnL rs gone)[i]? = some (pline r.1 r.2 (decide ((i : Int) ∈ gone))) := by
  unfold lnL
  rw [List.getElem?_map, List.getElem?_zipIdx, h]
  simp
theorem len_sp : (" " : Str).length = 1 := by decide +kernel
theorem len_goneS : (" gone" : Str).length = 5 := by decide +kernel
theorem len_es : es.length = 0 := by decide +kernel
theorem len_nl : nl.length = 1 := by decide +kernel
theorem kind_len {k : Str} (hk : k ∈ kinds) : k.length ≤ 4 := by
  have t : (kinds.all fun k => decide (k.length ≤ 4)) = true := by kernel_rfl
  exact of_decide_eq_true (List.all_eq_true.mp t k hk)
section
variable {k K : Str} {size : Int} {rs : List (Int × Int)} {gone : List Int} {C : CR → Prop}
theorem lns_ok (hk : k ∈ kinds) (hs : 1 ≤ size) (hs2 : size ≤ 25) (hin : InRow size rs) : ∀ x ∈ lns k size rs gone, OkS x := by
  intro x hx
  rcases List.mem_cons.mp hx with rfl | hx
  · exact hline_ok hk (by omega) (by omega)
  · obtain ⟨p, hp, rfl⟩ := List.mem_map.mp hx
    have := hin p.1 (by
      have : p.1 ∈ rs.zipIdx.map (·.1) := List.mem_map_of_mem hp
      simpa using this)
    exact pline_ok (by omega) (by omega) (by omega) (by omega)
theorem c_law_lines (hk : k ∈ kinds) (hs : 1 ≤ size) (hs2 : size ≤ 25) (hin : InRow size rs) (hn : rs.length ≤ 1000) : cal f__law_lines [.val (.str k), .val (.int size), .val (.lst (Rs rs)), .val (.lst (Js gone))] C ↔ C (.ret (.lst ((lns k size rs gone).map D.str)) [.val (.str k), .val (.int size), .val (.lst (Rs rs)), .val (.lst (Js gone))]) := by
  refine cal_of (of_cal ?_)
  unfold f__law_lines
  rw [cal_def]
  simp only [m__law_lines]
  have hkl := kind_len hk
  have hsl := (num_ok (i := size) (by omega) (by omega)).2
  refine run_seq_of (P := fun ρ => ρ = [.val (.str k), .val (.int size), .val (.lst (Rs rs)), .val (.lst (Js gone)), .lst ([hline k size].map D.str), .no, .no]) ?_ ?_
  · have a1 : gAdd (.str k) (.str " ") = some (.val (.str (k ++ " "))) := gAdd_tx (by rw [len_sp]; omega)
    have a2 : gAdd (.str (k ++ " ")) (.str (num size)) = some (.val (.str (hline k size))) := gAdd_tx (by rw [str_len, len_sp]; omega)
    simp [a1, a2, gStr_num (show 0 ≤ size by omega) (by omega)]
  rintro ρ rfl
  refine run_seq_of (P := fun ρ => ∃ s5 s6, ρ = [.val (.str k), .val (.int size), .val (.lst (Rs rs)), .val (.lst (Js gone)), .lst ((lns k size rs gone).map D.str), s5, s6]) ?_ ?_
  · rw [run_for]
    simp [gLen, rg_of (show -1000000 ≤ (rs.length : Int) by omega) (by omega)]
    refine run_rg (fun i ρ => ∃ s5 s6, ρ = [.val (.str k), .val (.int size), .val (.lst (Rs rs)), .val (.lst (Js gone)), .lst ((hline k size :: (lnL rs gone).take i).map D.str), s5, s6]) ⟨_, _, rfl⟩ ?_ ?_
    · rintro i ρ hi ⟨s5, s6, rfl⟩
      obtain ⟨r, hr⟩ : ∃ r, rs[i]? = some r := ⟨rs[i], by simp [hi]⟩
      have hm := hin r (List.mem_of_getElem? hr)
      have g1 : gIx (.lst (Rs rs)) (.int (i : Int)) = some (rn r) := atI_nat (by rw [Rs_get, hr]; rfl)
      have g2 : gIx (rn r) (.int 0) = some (.int r.1) := rfl
      have g3 : gIx (rn r) (.int 1) = some (.int r.2) := rfl
      have n1 := (num_ok (i := r.1) (by omega) (by omega)).2
      have n2 := (num_ok (i := r.2) (by omega) (by omega)).2
      have a1 : gAdd (.str (num r.1)) (.str " ") = some (.val (.str (num r.1 ++ " "))) := gAdd_tx (by rw [len_sp]; omega)
      have a2 : gAdd (.str (num r.1 ++ " ")) (.str (num r.2)) = some (.val (.str (num r.1 ++ " " ++ num r.2))) := gAdd_tx (by rw [str_len, len_sp]; omega)
      have a3 : gAdd (.str (num r.1 ++ " " ++ num r.2)) (.str " gone") = some (.val (.str (num r.1 ++ " " ++ num r.2 ++ " gone"))) := gAdd_tx (by rw [str_len, str_len, len_sp, len_goneS]; omega)
      have gi : gIn false (.int (i : Int)) (.lst (Js gone)) = some (.val (.bl (decide ((i : Int) ∈ gone)))) := gIn_parts (.inl rfl)
      have et : (lnL rs gone).take (i + 1) = (lnL rs gone).take i ++ [pline r.1 r.2 (decide ((i : Int) ∈ gone))] := by
        rw [List.take_add_one, lnL_get hr]
        rfl
      have hlt : (lnL rs gone).length = rs.length := lnL_len
      have hl2 : ((hline k size :: (lnL rs gone).take i).map D.str).length < sizeLine := lt_size (by simp; omega)
      have s1 := gStr_num (i := r.1) (by omega) (by omega)
      have s2 := gStr_num (i := r.2) (by omega) (by omega)
      rw [gev_set, Int.zero_add]
      refine ⟨by simp, ?_⟩
      by_cases hg : (i : Int) ∈ gone
      · have ep : pline r.1 r.2 (decide ((i : Int) ∈ gone)) = num r.1 ++ " " ++ num r.2 ++ " gone" := by rw [decide_eq_true hg]; rfl
        rw [ep] at et
        rw [decide_eq_true hg] at gi
        simp [g1, g2, g3, a1, a2, a3, gi, s1, s2, et]
        simpa using hl2
      · have ep : pline r.1 r.2 (decide ((i : Int) ∈ gone)) = num r.1 ++ " " ++ num r.2 := by rw [decide_eq_false hg]; exact str_e _
        rw [ep] at et
        rw [decide_eq_false hg] at gi
        simp [g1, g2, g3, a1, a2, a3, gi, s1, s2, et]
        simpa using hl2
    · rintro ρ ⟨s5, s6, rfl⟩
      have : (lnL rs gone).take rs.length = lnL rs gone := List.take_of_length_le (by simp)
      refine ⟨_, rfl, s5, s6, ?_⟩
      rw [this]
      rfl
  rintro ρ ⟨s5, s6, rfl⟩
  simp
theorem len_sum {ls : List Str} (h : ∀ x ∈ ls, OkS x) : ((ls.map (· ++ nl)).map (·.length)).sum ≤ 41 * ls.length := by
  induction ls with
  | nil => simp
  | cons a ls ih =>
    have h1 := (h a List.mem_cons_self).len
    have h2 := ih fun x hx => h x (List.mem_cons_of_mem _ hx)
    simp only [List.map_cons, List.sum_cons, str_len, len_nl, List.length_cons] at h2 ⊢
    omega
theorem c_joined {ls : List Str} (h : ∀ x ∈ ls, OkS x) (hn : ls.length ≤ 1000) : cal f__law_joined [.val (.lst (ls.map D.str))] C ↔ C (.ret (.val (.str (J (ls ++ [es])))) [.val (.lst (ls.map D.str))]) := by
  refine cal_of (of_cal ?_)
  unfold f__law_joined
  rw [cal_def]
  obtain ⟨ρ', h1, s, rfl⟩ := lc_pure (f := D.str) (xs := ls) (ρ := [.val (.lst (ls.map D.str)), .no]) (j := 1) (c := fun _ => true) (e := fun x => .str (x ++ nl)) (tt := mYes) (te := mCold (mOp gAdd (mVar 1) (ret (.str nl)))) (by simp) (by
    rintro x hx ρ1 ⟨s, rfl⟩ hj
    rfl) (by
    rintro x hx _ ρ1 ⟨s, rfl⟩ hj
    simp at hj
    subst hj
    have a1 : gAdd (.str x) (.str nl) = some (.val (.str (x ++ nl))) := gAdd_tx (by have := (h x hx).len; rw [len_nl]; omega)
    obtain ⟨r, h1, rfl⟩ : ev (mCold (mOp gAdd (mVar 1) (ret (.str nl)))) (([.val (.lst (ls.map D.str)), .no] : Slots).set 1 (.val (.str x))) (fun r => r = .ok (.str (x ++ nl)) (([.val (.lst (ls.map D.str)), .no] : Slots).set 1 (.val (.str x)))) := by
      simp [a1]
    exact h1)
  have el : (ls.filter fun _ => true).map (fun x => D.str (x ++ nl)) = (ls.map (· ++ nl)).map D.str := by
    rw [List.filter_eq_self.mpr (fun _ _ => rfl), List.map_map]
    rfl
  rw [el] at h1
  have hsum := len_sum h
  simp only [m__law_joined, run_ret, ev_warm, ev_join, ev_ret, okx_ok, ev_cold, List.cons_append, List.nil_append, List.replicate]
  refine ev_lc ?_
  simp only [ev_items, ev_var, List.getElem?_cons_zero, okx_ok]
  refine opx_of (a := ls.map D.str) rfl ⟨le_size (by simp; omega), _, _, h1, ?_⟩
  simp only [okx_ok, cold_lst, opx_some]
  refine opx_of (a := ls.map (· ++ nl)) (strsD_map _) ⟨?_, ?_⟩
  · rw [show ("" : Str).length = 0 from len_es]
    omega
  · rw [joined]
    simp
end
end L2.Fn
set_option maxRecDepth 100000
set_option maxHeartbeats 4000000
/-! LibW3: market_text. -/
namespace L2.Fn
open PySem PySem.Spec PyProof.Rows L2
section
variable {k K : Str} {size : Int} {rs : List (Int × Int)} {gone : List Int} {C : CR → Prop}
theorem lnL_snoc {done : List ((Int × Int) × Nat)} {x : (Int × Int) × Nat} : (done ++ [x]).map (fun p => pline p.1.1 p.1.2 (decide ((p.2 : Int) ∈ gone))) = done.map (fun p => pline p.1.1 p.1.2 (decide ((p.2 : Int) ∈ gone))) ++ [pline x.1.1 x.1.2 (decide ((x.2 : Int) ∈ gone))] := by simp
theorem len_le_size {x : Str} (h : x.length ≤ 1000) : x.length ≤ sizeLine := le_size (by omega)
theorem c_market_text (hk : k ∈ kinds) (hs : 1 ≤ size) (hs2 : size ≤ 25) (hin : InRow size rs) (hn : rs.length ≤ 1000) : cal f_market_text [.val (.obj (clsOf k) (mkt (clsOf k) size rs gone))] C ↔ C (.ret (.val (.str (J (lns k size rs gone ++ [es])))) [.val (.obj (clsOf k) (mkt (clsOf k) size rs gone))]) := by
  refine cal_of (of_cal ?_)
  unfold f_market_text
  rw [cal_def]
  simp only [m_market_text]
  have hK := cls_KS hk
  have hkl := kind_len hk
  have hsl := (num_ok (i := size) (by omega) (by omega)).2
  have gk := gCon_mkt (size := size) (rs := rs) (gone := gone) hk
  have gs := gFld_size (size := size) (rs := rs) (gone := gone) hK
  have gr := gFld_runs (size := size) (rs := rs) (gone := gone) hK
  have gg := gFld_gone (size := size) (rs := rs) (gone := gone) hK
  generalize hM : D.obj (clsOf k) (mkt (clsOf k) size rs gone) = M
  rw [hM] at gk gs gr gg
  refine run_seq_of (P := fun ρ => ρ = [.val M, .lst (([hline k size].map (· ++ nl)).map D.str), .no, .no, .no, .no]) ?_ ?_
  · have e : Str.empty ++ k ++ " " ++ num size ++ nl = hline k size ++ nl := by rw [e_str]; rfl
    have l1 : (Str.empty ++ k).length ≤ sizeLine := len_le_size (by rw [e_str]; omega)
    have l2 : (Str.empty ++ k ++ " ").length ≤ sizeLine := len_le_size (by rw [e_str, str_len, len_sp]; omega)
    have l3 : (Str.empty ++ k ++ " " ++ num size).length ≤ sizeLine := len_le_size (by rw [e_str, str_len, str_len, len_sp]; omega)
    have l4 : (Str.empty ++ k ++ " " ++ num size ++ nl).length ≤ sizeLine := len_le_size (by rw [e_str, str_len, str_len, str_len, len_sp, len_nl]; omega)
    have lk : k.length ≤ sizeLine := len_le_size (by omega)
    have lh : (hline k size ++ nl).length ≤ sizeLine := by rw [← e]; exact l4
    have hlg := log_ok (i := size) (by omega) (by omega)
    show run (sAsg (mLst (mCons (mJs [(mFmt (mCon CN_KIND "KIND" (mVar 0))), (ret (.str " ")), (mFmt (mFldN KS "size" 0)), (ret (.str nl))] Str.empty) mNil)) (gSetM 1)) _ _
    simp only [run_asg, ev_lst, ev_consL, ev_nilL, ev_js1, ev_js0, ev_fmt, ev_con, ev_var, ev_ret, ev_fldN, ev_opt, List.cons_append, List.nil_append, List.replicate, List.getElem?_cons_zero, okx_ok, gk, gs, opx_some, l1, l2, l3, lk, hlg, true_and, e, lh]
    simp
  rintro ρ rfl
  refine run_seq_of (P := fun ρ => ∃ s2 s3 s4 s5, ρ = [.val M, .lst (((lns k size rs gone).map (· ++ nl)).map D.str), s2, s3, s4, s5]) ?_ ?_
  · rw [run_for]
    simp only [ev_enum, ev_cold, ev_b1, ev_fldN, List.getElem?_cons_zero, ev_opt, gr, opx_some, okx_ok, show gList (.tup (Rs rs)) = some (.lst (Rs rs)) from rfl, cold_lst, show itemsD (.lst (Rs rs)) = some (Rs rs) from rfl]
    rw [show enumD (Rs rs) = _ from enumD_map rn rs]
    refine run_loop rs.zipIdx (fun done ρ => ∃ s2 s3 s4 s5, ρ = [.val M, .lst (((hline k size :: done.map fun p => pline p.1.1 p.1.2 (decide ((p.2 : Int) ∈ gone))).map (· ++ nl)).map D.str), s2, s3, s4, s5]) ⟨_, _, _, _, rfl⟩ ?_ ?_
    · rintro done x rest ρ e ⟨s2, s3, s4, s5, rfl⟩
      obtain ⟨e1, e2⟩ := zip_split' e
      have hx : x.1 ∈ rs := by rw [e1]; simp
      have hm := hin x.1 hx
      have hlen : done.length < rs.length := by
        have := congrArg List.length e1
        simp at this; omega
      have n1 := (num_ok (i := x.1.1) (by omega) (by omega)).2
      have n2 := (num_ok (i := x.1.2) (by omega) (by omega)).2
      have o1 := log_ok (i := x.1.1) (by omega) (by omega)
      have o2 := log_ok (i := x.1.2) (by omega) (by omega)
      have gi : gIn false (.int (x.2 : Int)) (tp gone) = some (.val (.bl (decide ((x.2 : Int) ∈ gone)))) := gIn_parts (.inr rfl)
      obtain ⟨mk, hmk⟩ : ∃ mk : Str, mk = if decide ((x.2 : Int) ∈ gone) = true then " gone" else "" := ⟨_, rfl⟩
      have hml : mk.length ≤ 5 := by
        rw [hmk]
        split
        · rw [len_goneS]; omega
        · rw [show ("" : Str).length = 0 from len_es]; omega
      have l1 : (Str.empty ++ num x.1.1).length ≤ sizeLine := len_le_size (by rw [e_str]; omega)
      have l2 : (Str.empty ++ num x.1.1 ++ " ").length ≤ sizeLine := len_le_size (by rw [e_str, str_len, len_sp]; omega)
      have l3 : (Str.empty ++ num x.1.1 ++ " " ++ num x.1.2).length ≤ sizeLine := len_le_size (by rw [e_str, str_len, str_len, len_sp]; omega)
      have l4 : (Str.empty ++ num x.1.1 ++ " " ++ num x.1.2 ++ mk).length ≤ sizeLine := len_le_size (by rw [e_str, str_len, str_len, str_len, len_sp]; omega)
      have l5 : (Str.empty ++ num x.1.1 ++ " " ++ num x.1.2 ++ mk ++ nl).length ≤ sizeLine := len_le_size (by rw [e_str, str_len, str_len, str_len, str_len, len_sp, len_nl]; omega)
      have lm : mk.length ≤ sizeLine := len_le_size (by omega)
      have ee : Str.empty ++ num x.1.1 ++ " " ++ num x.1.2 ++ mk ++ nl = pline x.1.1 x.1.2 (decide ((x.2 : Int) ∈ gone)) ++ nl := by rw [e_str, hmk]; rfl
      have lq : (pline x.1.1 x.1.2 (decide ((x.2 : Int) ∈ gone)) ++ nl).length ≤ sizeLine := by rw [← ee]; exact l5
      rw [lnL_snoc]
      refine ⟨[.val M, .lst (((hline k size :: done.map fun p => pline p.1.1 p.1.2 (decide ((p.2 : Int) ∈ gone))).map (· ++ nl)).map D.str), .val (.int (x.2 : Int)), .val (.int x.1.1), .val (.int x.1.2), s5], by simp [rn, gev, gTupM, gConsM, gSetM, gNilM], ?_⟩
      refine run_mono (Q := fun o => o = .nx [.val M, .lst ((((hline k size :: done.map fun p => pline p.1.1 p.1.2 (decide ((p.2 : Int) ∈ gone))) ++ [pline x.1.1 x.1.2 (decide ((x.2 : Int) ∈ gone))]).map (· ++ nl)).map D.str), .val (.int (x.2 : Int)), .val (.int x.1.1), .val (.int x.1.2), .val (.str mk)]) ?_ (by
        rintro o rfl
        exact ⟨_, _, _, _, rfl⟩)
      · refine run_seq_of (P := fun ρ => ρ = [.val M, .lst (((hline k size :: done.map fun p => pline p.1.1 p.1.2 (decide ((p.2 : Int) ∈ gone))).map (· ++ nl)).map D.str), .val (.int (x.2 : Int)), .val (.int x.1.1), .val (.int x.1.2), .val (.str mk)]) ?_ ?_
        · by_cases hg : (x.2 : Int) ∈ gone
          · rw [decide_eq_true hg] at gi hmk
            rw [if_pos rfl] at hmk
            simp [gi, gg, hmk]
          · rw [decide_eq_false hg] at gi hmk
            rw [if_neg (by decide)] at hmk
            simp [gi, gg, hmk]
        rintro ρ rfl
        show run (sDrop (mAppN 1 (mJs [(mFmt (mVar 3)), (ret (.str " ")), (mFmt (mVar 4)), (mFmt (mVar 5)), (ret (.str nl))] Str.empty))) _ _
        simp only [run_drop, ev_appN, ev_js1, ev_js0, ev_fmt, ev_var, ev_ret, List.getElem?_cons_zero, List.getElem?_cons_succ, okx_ok, l1, l2, l3, l4, lm, o1, o2, true_and, ee, lq]
        refine ⟨lt_size (by simp; omega), ?_⟩
        simp
    · rintro ρ ⟨s2, s3, s4, s5, rfl⟩
      exact ⟨_, rfl, s2, s3, s4, s5, rfl⟩
  rintro ρ ⟨s2, s3, s4, s5, rfl⟩
  have hok := lns_ok (gone := gone) hk hs hs2 hin
  have hsum := len_sum hok
  have hl : (lns k size rs gone).length = rs.length + 1 := by simp [lns]
  have hst : (itemsD (.lst (((lns k size rs gone).map (· ++ nl)).map D.str))).bind strsD = some ((lns k size rs gone).map (· ++ nl)) := strsD_map _
  simp only [run_ret, ev_warm, ev_join, ev_ret, ev_var, List.getElem?_cons_zero, List.getElem?_cons_succ, okx_ok, cold_lst]
  refine opx_of hst ⟨?_, ?_⟩
  · rw [show ("" : Str).length = 0 from len_es]
    omega
  · rw [joined]
    simp
end
end L2.Fn
set_option maxRecDepth 100000
set_option maxHeartbeats 4000000
/-! LibW4: market_from. -/
namespace L2.Fn
open PySem PySem.Spec PyProof.Rows L2
theorem eqD_st {a b : Str} (ha : PyData.strOk a = true) (hb : PyData.strOk b = true) : eqD (.str a) (.str b) = some (decide (a = b)) := by
  have s : ∀ k : Str, PyData.strOk k = true → SeqAt.shaped (.str k) = true := fun k h => by simp [SeqAt.shaped, PyData.canLay0, PyData.depth, h]
  unfold eqD
  simp only [D.py, s a ha, s b hb, Bool.and_self, if_true, PyData.eqv, Option.some.injEq]
  by_cases h : a = b <;> simp [h]
theorem gEq_st {a b : Str} (ha : PyData.strOk a = true) (hb : PyData.strOk b = true) : gEq (.str a) (.str b) = some (.val (.bl (decide (a = b)))) := by simp [gEq, eqD_st ha hb]
theorem gNe_st {a b : Str} (ha : PyData.strOk a = true) (hb : PyData.strOk b = true) : gNe (.str a) (.str b) = some (.val (.bl (!decide (a = b)))) := by simp [gNe, eqD_st ha hb]
/-- which of the first parts are gone -/
def gp (gone : List Int) (j : Nat) : List Int := (rgI 0 j).filter fun p => decide (p ∈ gone)
theorem gp_succ (gone : List Int) (i : Nat) : gp gone (i + 1) = gp gone i ++ (if (i : Int) ∈ gone then [(i : Int)] else []) := by
  unfold gp
  rw [rgI_succ, List.filter_append]
  by_cases h : (i : Int) ∈ gone <;> simp [h]
theorem gp_asc (gone : List Int) (j : Nat) : Asc (gp gone j) := (rgI_asc 0 j).filter _
theorem gp_in (gone : List Int) (j : Nat) : ∀ x ∈ gp gone j, 0 ≤ x ∧ x < (j : Int) := fun x hx => by
  have := rgI_mem.mp (List.mem_filter.mp hx).1
  omega
theorem gp_len (gone : List Int) (j : Nat) : (gp gone j).length ≤ j := by
  have := List.length_filter_le (fun p => decide (p ∈ gone)) (rgI 0 j)
  rw [rgI_len] at this
  exact this
theorem asc_eq {a b : List Int} (ha : Asc a) (hb : Asc b) (h : ∀ x, x ∈ a ↔ x ∈ b) : a = b := by
  have h1 := sort_asc ha
  have h2 := sort_asc hb
  have : (a).Perm b := (List.perm_ext_iff_of_nodup ha.nd hb.nd).mpr h
  exact List.Perm.eq_of_pairwise (fun x y _ _ p q => by omega) ha hb this
theorem gp_all {gone : List Int} {n : Nat} (h : Asc gone) (hi : In n gone) : gp gone n = gone := by
  refine asc_eq (gp_asc gone n) h fun x => ?_
  unfold gp
  rw [List.mem_filter, rgI_mem, decide_eq_true_eq]
  exact ⟨fun q => q.2, fun q => ⟨by have := hi x q; omega, q⟩⟩
theorem ixN_last1 {n : Nat} (h : 0 < n) : ixN n (-1) = some (n - 1) := by
  unfold ixN
  rw [if_neg (by omega), if_pos (by omega)]
  congr 1
  omega
theorem last_ix {xs : List Str} {x : Str} {n : Nat} (hn : xs.length = n + 1) (h : xs[n]? = some x) : gIx (.lst (xs.map D.str)) (.int (-1)) = some (.str x) := by
  show atI (xs.map D.str) (-1) = _
  unfold atI
  rw [List.length_map, hn, ixN_last1 (by omega)]
  show (xs.map D.str)[n + 1 - 1]? = _
  rw [show n + 1 - 1 = n by omega, List.getElem?_map, h] <;> rfl
section
variable {k K t : Str} {size : Int} {rs : List (Int × Int)} {gone : List Int} {xs : List Str} {j n : Nat} {C : CR → Prop}
theorem c_head {C : CR → Prop} (hk : k ∈ kinds) (h0 : 1 ≤ size) (h : size ≤ 30) : cal f__head [.val (.str (hline k size))] C ↔ C (.ret (.val (.tup [.str k, .int size])) [.val (.str (hline k size))]) := cal_of (e_head hk h0 h)
theorem len_nl0 : ¬ (("\n" : Str)).length = 0 := by decide +kernel
theorem x_from (hk : k ∈ kinds) (hs : 1 ≤ size) (hs2 : size ≤ 30) (hin : InRow size rs) (hin2 : InRow 25 rs) (hn : rs.length ≤ 1000) (ht : Txt.split t nl = xs) (htl : t.length ≤ 100000) (hxn : xs.length = n + 2) (hxl : n ≤ 1000) (hok : ∀ x ∈ xs, OkS x) (hj : j ≤ rs.length)
    (hx0 : xs[0]? = some (hline k size)) (hxs : ∀ (i : Nat) r, i < j → rs[i]? = some r → xs[i + 1]? = some (pline r.1 r.2 (decide ((i : Int) ∈ gone))))
    (hb : n = j ∨ (j < n ∧ (∃ w, xs[j + 1]? = some w ∧ BadLn size w) ∧ ∀ ss, C (.exc "BadText" [("line", .int (j + 2))] ss)))
    (hl : n = j → xs[j + 1]? ≠ some es → ∀ ss, C (.exc "BadText" [("line", .int (j + 2))] ss))
    (ho : n = j → xs[j + 1]? = some es → ∀ ss, C (.ret (.ins (clsOf k) (mkt (clsOf k) size (rs.take j) (gp gone j))) ss)) : cal f_market_from [.val (.str t)] C := by
  unfold f_market_from
  rw [cal_def]
  simp only [m_market_from]
  have tl2 : t.length + 2 ≤ sizeLine := le_size (by omega)
  have hkl : k.length ≤ 4 := kind_len hk
  refine run_seq_of (P := fun ρ => ρ = [.val (.str t), .no, .no, .no, .no, .no, .no, .no, .no, .no]) (by simp) ?_
  rintro ρ rfl
  refine run_seq_of (P := fun ρ => ρ = [.val (.str t), .lst (xs.map D.str), .no, .no, .no, .no, .no, .no, .no, .no]) ?_ ?_
  · have hs' : Txt.split t "\n" = xs := ht
    simp [tl2, len_nl0, hs']
  rintro ρ rfl
  refine run_seq_of (P := fun ρ => ρ = [.val (.str t), .lst (xs.map D.str), .no, .no, .no, .no, .no, .no, .no, .no]) ?_ ?_
  · have : ¬ (((n + 2 : Nat) : Int) = 1) := by omega
    simp [hxn, this]
    omega
  rintro ρ rfl
  refine run_seq_of (P := fun ρ => ρ = [.val (.str t), .lst (xs.map D.str), .val (.str k), .val (.int size), .no, .no, .no, .no, .no, .no]) ?_ ?_
  · have g0 : gIx (.lst (xs.map D.str)) (.int 0) = some (.str (hline k size)) := atI_nat (i := 0) (by rw [List.getElem?_map, hx0]; rfl)
    simp [g0, c_head hk hs hs2]
  rintro ρ rfl
  refine run_seq_of (P := fun ρ => ρ = [.val (.str t), .lst (xs.map D.str), .val (.str k), .val (.int size), .lst [], .no, .no, .no, .no, .no]) (by simp) ?_
  rintro ρ rfl
  refine run_seq_of (P := fun ρ => ρ = [.val (.str t), .lst (xs.map D.str), .val (.str k), .val (.int size), .lst [], .lst [], .no, .no, .no, .no]) (by simp) ?_
  rintro ρ rfl
  rw [run_seq, run_for]
  have hr1 : rg 1 := rg_of (by omega) (by omega)
  have hr2 : rg (((n + 2 : Nat) : Int) - 1) := rg_of (by omega) (by omega)
  have en : (((n + 2 : Nat) : Int) - 1 - 1).toNat = n := by omega
  simp only [ev_range2, ev_ret, okx_ok, ev_cold, ev_op, ev_lenN, List.getElem?_cons_zero, List.getElem?_cons_succ, List.length_map, hxn, gSub_int, opx_some, cold_val, hr1, hr2, true_and, en]
  refine run_rg (fun i ρ => i ≤ j ∧ ∃ s6 s7 s8 s9, ρ = [.val (.str t), .lst (xs.map D.str), .val (.str k), .val (.int size), .lst (Rs (rs.take i)), .lst (Js (gp gone i)), s6, s7, s8, s9]) ⟨Nat.zero_le _, _, _, _, _, rfl⟩ ?_ ?_
  · rintro i ρ hi ⟨hij, s6, s7, s8, s9, rfl⟩
    rw [gev_set]
    refine ⟨by simp, ?_⟩
    have ei : (1 : Int) + (i : Nat) = ((i + 1 : Nat) : Int) := by omega
    have ei2 : ((i + 1 : Nat) : Int) + 1 = (i : Int) + 2 := by omega
    have ei3 : ((i + 1 : Nat) : Int) - 1 = (i : Int) := by omega
    rw [ei]
    simp only [List.set_cons_succ, List.set_cons_zero]
    by_cases hlt : i < j
    · obtain ⟨r, hr⟩ : ∃ r, rs[i]? = some r := ⟨rs[i], by simp⟩
      have hm := hin r (List.mem_of_getElem? hr)
      have hm2 := hin2 r (List.mem_of_getElem? hr)
      have hx := hxs i r hlt hr
      have g1 : gIx (.lst (xs.map D.str)) (.int ((i + 1 : Nat) : Int)) = some (.str (pline r.1 r.2 (decide ((i : Int) ∈ gone)))) := atI_nat (by rw [List.getElem?_map, hx]; rfl)
      have hw := fun n C => c_words (C := C) (b := r.1) (e := r.2) (n := n) (g := decide ((i : Int) ∈ gone)) (by omega) (by omega) (by omega) (by omega)
      have hp := fun C => c_pair_of (C := C) (size := size) (r := r) hm
      have et : Rs (rs.take (i + 1)) = Rs (rs.take i) ++ [rn r] := by
        rw [List.take_add_one, hr, Rs_append]
        rfl
      have eg := gp_succ gone i
      have l1 : (Rs (rs.take i)).length < sizeLine := lt_size (by simp; omega)
      have l2 : (Js (gp gone i)).length < sizeLine := lt_size (by have := gp_len gone i; simp; omega)
      refine run_mono (Q := fun o => o = .nx [.val (.str t), .lst (xs.map D.str), .val (.str k), .val (.int size), .lst (Rs (rs.take (i + 1))), .lst (Js (gp gone (i + 1))), .val (.int ((i + 1 : Nat) : Int)), .val (.int r.1), .val (.int r.2), .val (.bl (decide ((i : Int) ∈ gone)))]) ?_ (by
        rintro o rfl
        exact ⟨hlt, _, _, _, _, rfl⟩)
      refine run_seq_of (P := fun ρ => ρ = [.val (.str t), .lst (xs.map D.str), .val (.str k), .val (.int size), .lst (Rs (rs.take i)), .lst (Js (gp gone i)), .val (.int ((i + 1 : Nat) : Int)), .val (.int r.1), .val (.int r.2), .val (.bl (decide ((i : Int) ∈ gone)))]) ?_ ?_
      · simp only [run_asg, ev_call, ev_consA, ev_nilA, ev_ixN, ev_var, ev_opt, ev_cold, ev_op, ev_ret, List.getElem?_cons_zero, List.getElem?_cons_succ, okx_ok, g1, opx_some, gAdd_int, cold_val, List.map_cons, List.map_nil, ar_val, io_val, io_nil, true_and, hw, crb_ret, back_val, back_nil, back_no]
        simp [gev, gTupM, gConsM, gSetM, gNilM]
      rintro ρ rfl
      refine run_seq_of (P := fun ρ => ρ = [.val (.str t), .lst (xs.map D.str), .val (.str k), .val (.int size), .lst (Rs (rs.take i)), .lst (Js (gp gone i)), .val (.int ((i + 1 : Nat) : Int)), .val (.int r.1), .val (.int r.2), .val (.bl (decide ((i : Int) ∈ gone)))]) ?_ ?_
      · have hp' : ∀ C, cal f_pair_of [.val (.int size), .val (.tup [.int r.1, .int r.2])] C ↔ C (.ret (.val (rn r)) [.val (.int size), .val (rn r)]) := hp
        have q : gIsN (rn r) .non = some (.val (.bl false)) := rfl
        simp only [run_if, ev_test, ev_call, ev_consA, ev_nilA, ev_consL, ev_nilL, ev_tup, ev_var, ev_opt, ev_cold, ev_op, ev_ret, List.getElem?_cons_zero, List.getElem?_cons_succ, okx_ok, opx_some, cold_val, List.map_cons, List.map_nil, ar_val, io_val, io_nil, true_and, hp', q, crb_ret, back_val, back_nil, back_no, Bool.false_eq_true, if_false, run_nil]
        simp
      rintro ρ rfl
      refine run_seq_of (P := fun ρ => ρ = [.val (.str t), .lst (xs.map D.str), .val (.str k), .val (.int size), .lst (Rs (rs.take i)), .lst (Js (gp gone (i + 1))), .val (.int ((i + 1 : Nat) : Int)), .val (.int r.1), .val (.int r.2), .val (.bl (decide ((i : Int) ∈ gone)))]) ?_ ?_
      · rw [eg]
        by_cases hg : (i : Int) ∈ gone
        · simp only [run_if, run_drop, ev_test, ev_warm, ev_appN, ev_var, ev_cold, ev_op, ev_ret, List.getElem?_cons_zero, List.getElem?_cons_succ, okx_ok, opx_some, cold_val, gSub_int, ei3, l2, true_and, hg, decide_true, if_true, List.set_cons_succ, List.set_cons_zero]
          exact ⟨_, rfl, by simp⟩
        · simp only [run_if, ev_test, ev_warm, ev_var, List.getElem?_cons_zero, List.getElem?_cons_succ, okx_ok, hg, decide_false, Bool.false_eq_true, if_false, run_nil, List.append_nil]
          exact ⟨_, rfl, rfl⟩
      rintro ρ rfl
      rw [et]
      simp only [run_drop, ev_appN, ev_tup, ev_consL, ev_nilL, ev_var, List.getElem?_cons_zero, List.getElem?_cons_succ, okx_ok, l1, true_and, List.set_cons_succ, List.set_cons_zero]
      simp
      rfl
    · have eij : i = j := by omega
      subst eij
      rcases hb with hb | ⟨hb, ⟨w, hw, hbad⟩, hC⟩
      · omega
      have g1 : gIx (.lst (xs.map D.str)) (.int ((i + 1 : Nat) : Int)) = some (.str w) := atI_nat (by rw [List.getElem?_map, hw]; rfl)
      rw [run_seq, run_asg]
      simp only [ev_call, ev_consA, ev_nilA, ev_ixN, ev_var, ev_opt, ev_cold, ev_op, ev_ret, List.getElem?_cons_zero, List.getElem?_cons_succ, okx_ok, g1, opx_some, gAdd_int, cold_val, List.map_cons, List.map_nil, ar_val, io_val, io_nil, true_and, ei2]
      rcases hbad ((i : Int) + 2) with ⟨ss, h1⟩ | ⟨b, e, ss, h1, h2⟩
      · rw [cal_of h1]
        simp only [crb_exc, okx_ex, nxt_ex]
        exact hC _
      · rw [cal_of h1]
        have hp : ∀ C, cal f_pair_of [.val (.int size), .val (.tup [.int b, .int e])] C ↔ C (.ret (.val .non) [.val (.int size), .val (rn (b, e))]) := fun C => c_pair_no (r := (b, e)) h2
        simp only [crb_ret, okx_ok]
        simp [hp, ei2]
        exact hC _
  · rintro ρ ⟨hij, s6, s7, s8, s9, rfl⟩
    have enj : n = j := by
      rcases hb with hb | ⟨hb, _⟩
      · exact hb
      · omega
    obtain ⟨x, hx⟩ : ∃ x, xs[n + 1]? = some x := ⟨xs[n + 1], by simp⟩
    have hxo := hok x (List.mem_of_getElem? hx)
    have g1 := last_ix hxn hx
    have gn : gNe (.str x) (.str "") = some (.val (.bl (!decide (x = es)))) := gNe_st hxo.strOk okS_e.strOk
    rw [nxt_nx]
    by_cases he : x = es
    · subst enj
      have hC := ho rfl (by rw [hx, he])
      refine run_seq_of (P := fun ρ => ρ = [.val (.str t), .lst (xs.map D.str), .val (.str k), .val (.int size), .lst (Rs (rs.take n)), .lst (Js (gp gone n)), s6, s7, s8, s9]) ?_ ?_
      · rw [he] at g1
        rw [he] at gn
        simp [g1, gn]
      rintro ρ rfl
      have hin' : InRow size (rs.take n) := fun r hr => hin r (List.mem_of_mem_take hr)
      have hlen : (rs.take n).length = n := by simp; omega
      have hnd := (gp_asc gone n).nd
      have hir : ∀ x ∈ gp gone n, 0 ≤ x ∧ x < ((rs.take n).length : Int) := by rw [hlen]; exact gp_in gone n
      have hgl := gp_len gone n
      have hst := sort_asc (gp_asc gone n)
      have ej : ∀ C : CR → Prop, cal f_Join___init__ [.ins "Join" [], .val (.int size), .val (.lst (Rs (rs.take n))), .val (.lst (Js (gp gone n)))] C ↔ C (.ret (.val .non) [.ins "Join" (mkt "Join" size (rs.take n) (gp gone n)), .val (.int size), .val (.lst (Rs (rs.take n))), .val (.lst (Js (gp gone n)))]) := fun C => by
        refine c_sup (of_cal ?_)
        rw [c_market (K := "Join") (by decide) hs hs2 hin' (by omega) (.inl rfl) hnd hir (by omega), hst]
      have el : ∀ C : CR → Prop, cal f_Lap___init__ [.ins "Lap" [], .val (.int size), .val (.lst (Rs (rs.take n))), .val (.lst (Js (gp gone n)))] C ↔ C (.ret (.val .non) [.ins "Lap" (mkt "Lap" size (rs.take n) (gp gone n)), .val (.int size), .val (.lst (Rs (rs.take n))), .val (.lst (Js (gp gone n)))]) := fun C => by
        refine c_sup (of_cal ?_)
        rw [c_market (K := "Lap") (by decide) hs hs2 hin' (by omega) (.inl rfl) hnd hir (by omega), hst]
      have e1 : gEq (.str "join") (.str "join") = some (.val (.bl true)) := by kernel_rfl
      have e2 : gEq (.str "lap") (.str "join") = some (.val (.bl false)) := by kernel_rfl
      rcases List.mem_cons.mp hk with rfl | hk
      · rw [show clsOf "join" = "Join" from if_pos rfl] at hC
        simp [e1, ej, made]
        exact hC _
      · rcases List.mem_cons.mp hk with rfl | hk
        · rw [show clsOf "lap" = "Lap" from if_neg (by decide)] at hC
          simp [e2, el, made]
          exact hC _
        · cases hk
    · have hC := hl enj (by rw [← enj, hx]; intro q; exact he (Option.some.inj q))
      have e2 : (((n + 2 : Nat)) : Int) = (j : Int) + 2 := by omega
      rw [run_seq]
      simp [g1, gn, he, hxn]
      have := hC
      rw [← enj] at this
      exact this _
end
end L2.Fn
set_option maxRecDepth 100000
set_option maxHeartbeats 4000000
/-! LibW5: wrong lines drawn; refusals. -/
namespace L2.Fn
open PySem PySem.Spec PyProof.Rows L2
theorem gAdd_strs {a b : List Str} (h : a.length + b.length ≤ 1000) : gAdd (.lst (a.map D.str)) (.lst (b.map D.str)) = some (.lst ((a ++ b).map D.str)) := by
  show (if _ then _ else _) = _
  rw [if_pos (le_size (by simp; omega)), List.map_append]
theorem gIx_strs {a : List Str} {i : Int} (h0 : 0 ≤ i) (h : i < a.length) : ∃ w ∈ a, gIx (.lst (a.map D.str)) (.int i) = some (.str w) := by
  obtain ⟨n, rfl⟩ := Int.eq_ofNat_of_zero_le h0
  have hn : n < a.length := by omega
  refine ⟨a[n], List.getElem_mem hn, atI_nat (by simp [hn])⟩
theorem lit0 : ("s " : Str).length = 2 := by decide +kernel
theorem lit1 : ("  " : Str).length = 2 := by decide +kernel
theorem lit2 : (" 0" : Str).length = 2 := by decide +kernel
theorem lit3 : (" 31" : Str).length = 3 := by decide +kernel
theorem lit4 : (" " : Str).length = 1 := by decide +kernel
theorem lit5 : (" -" : Str).length = 2 := by decide +kernel
theorem lit6 : ("joinlap " : Str).length = 8 := by decide +kernel
theorem lit7 : (" gone" : Str).length = 5 := by decide +kernel
theorem lit8 : (" +" : Str).length = 2 := by decide +kernel
theorem lit9 : ("0 " : Str).length = 2 := by decide +kernel
section
variable {k : Str} {size : Int} {rs : List (Int × Int)} {gone ds : List Int} {C : CR → Prop}
theorem x_wrong_head (hk : k ∈ kinds) (hs : 1 ≤ size) (hs2 : size ≤ 24) (h : ∀ w ds', BadHd w → OkS w → C (.ret (.val (.str w)) [.lst (Js ds'), .val (.str k), .val (.int size)])) : cal f__law_wrong_head [.lst (Js ds), .val (.str k), .val (.int size)] C := by
  unfold f__law_wrong_head
  rw [cal_def]
  simp only [m__law_wrong_head]
  have hkl := kind_len hk
  have hsl := (num_ok (i := size) (by omega) (by omega)).2
  have a0 : gAdd (.str (k)) (.str "s ") = some (.val (.str (k ++ "s "))) := gAdd_tx (by simp only [str_len, lit0, lit1, lit2, lit3, lit4, lit5, lit6, lit7, lit8, lit9]; omega)
  have a1 : gAdd (.str (k ++ "s ")) (.str (num size)) = some (.val (.str (k ++ "s " ++ num size))) := gAdd_tx (by simp only [str_len, lit0, lit1, lit2, lit3, lit4, lit5, lit6, lit7, lit8, lit9]; omega)
  have a2 : gAdd (.str (k)) (.str "  ") = some (.val (.str (k ++ "  "))) := gAdd_tx (by simp only [str_len, lit0, lit1, lit2, lit3, lit4, lit5, lit6, lit7, lit8, lit9]; omega)
  have a3 : gAdd (.str (k ++ "  ")) (.str (num size)) = some (.val (.str (k ++ "  " ++ num size))) := gAdd_tx (by simp only [str_len, lit0, lit1, lit2, lit3, lit4, lit5, lit6, lit7, lit8, lit9]; omega)
  have a4 : gAdd (.str (k)) (.str " 0") = some (.val (.str (k ++ " 0"))) := gAdd_tx (by simp only [str_len, lit0, lit1, lit2, lit3, lit4, lit5, lit6, lit7, lit8, lit9]; omega)
  have a5 : gAdd (.str (k ++ " 0")) (.str (num size)) = some (.val (.str (k ++ " 0" ++ num size))) := gAdd_tx (by simp only [str_len, lit0, lit1, lit2, lit3, lit4, lit5, lit6, lit7, lit8, lit9]; omega)
  have a6 : gAdd (.str (k)) (.str " 31") = some (.val (.str (k ++ " 31"))) := gAdd_tx (by simp only [str_len, lit0, lit1, lit2, lit3, lit4, lit5, lit6, lit7, lit8, lit9]; omega)
  have a7 : gAdd (.str (" ")) (.str k) = some (.val (.str (" " ++ k))) := gAdd_tx (by simp only [str_len, lit0, lit1, lit2, lit3, lit4, lit5, lit6, lit7, lit8, lit9]; omega)
  have a8 : gAdd (.str (" " ++ k)) (.str " ") = some (.val (.str (" " ++ k ++ " "))) := gAdd_tx (by simp only [str_len, lit0, lit1, lit2, lit3, lit4, lit5, lit6, lit7, lit8, lit9]; omega)
  have a9 : gAdd (.str (" " ++ k ++ " ")) (.str (num size)) = some (.val (.str (" " ++ k ++ " " ++ num size))) := gAdd_tx (by simp only [str_len, lit0, lit1, lit2, lit3, lit4, lit5, lit6, lit7, lit8, lit9]; omega)
  have a10 : gAdd (.str (k)) (.str " ") = some (.val (.str (k ++ " "))) := gAdd_tx (by simp only [str_len, lit0, lit1, lit2, lit3, lit4, lit5, lit6, lit7, lit8, lit9]; omega)
  have a11 : gAdd (.str (k ++ " ")) (.str (num size)) = some (.val (.str (k ++ " " ++ num size))) := gAdd_tx (by simp only [str_len, lit0, lit1, lit2, lit3, lit4, lit5, lit6, lit7, lit8, lit9]; omega)
  have a12 : gAdd (.str (k ++ " " ++ num size)) (.str " ") = some (.val (.str (k ++ " " ++ num size ++ " "))) := gAdd_tx (by simp only [str_len, lit0, lit1, lit2, lit3, lit4, lit5, lit6, lit7, lit8, lit9]; omega)
  have a13 : gAdd (.str (k)) (.str " -") = some (.val (.str (k ++ " -"))) := gAdd_tx (by simp only [str_len, lit0, lit1, lit2, lit3, lit4, lit5, lit6, lit7, lit8, lit9]; omega)
  have a14 : gAdd (.str (k ++ " -")) (.str (num size)) = some (.val (.str (k ++ " -" ++ num size))) := gAdd_tx (by simp only [str_len, lit0, lit1, lit2, lit3, lit4, lit5, lit6, lit7, lit8, lit9]; omega)
  have a15 : gAdd (.str ("joinlap ")) (.str (num size)) = some (.val (.str ("joinlap " ++ num size))) := gAdd_tx (by simp only [str_len, lit0, lit1, lit2, lit3, lit4, lit5, lit6, lit7, lit8, lit9]; omega)
  have a16 : gAdd (.str (k ++ " " ++ num size)) (.str " gone") = some (.val (.str (k ++ " " ++ num size ++ " gone"))) := gAdd_tx (by simp only [str_len, lit0, lit1, lit2, lit3, lit4, lit5, lit6, lit7, lit8, lit9]; omega)
  have a17 : gAdd (.str (k)) (.str " +") = some (.val (.str (k ++ " +"))) := gAdd_tx (by simp only [str_len, lit0, lit1, lit2, lit3, lit4, lit5, lit6, lit7, lit8, lit9]; omega)
  have a18 : gAdd (.str (k ++ " +")) (.str (num size)) = some (.val (.str (k ++ " +" ++ num size))) := gAdd_tx (by simp only [str_len, lit0, lit1, lit2, lit3, lit4, lit5, lit6, lit7, lit8, lit9]; omega)
  refine run_seq_of (P := fun ρ => ρ = [.lst (Js ds), .val (.str k), .val (.int size), .val (.str (num size)), .no]) (by simp [gStr_num (show 0 ≤ size by omega) (by omega)]) ?_
  rintro ρ rfl
  refine run_seq_of (P := fun ρ => ρ = [.lst (Js ds), .val (.str k), .val (.int size), .val (.str (num size)), .lst (([k ++ "s " ++ num size, k ++ "  " ++ num size, k ++ " 0" ++ num size, k ++ " 0", k ++ " 31"] : List Str).map D.str)]) (by
    simp (config := { maxSteps := 4000000 }) only [run_asg, ev_lst, ev_consL, ev_nilL, ev_cold, ev_op, ev_var, ev_ret, List.getElem?_cons_zero, List.getElem?_cons_succ, List.set_cons_succ, List.set_cons_zero, okx_ok, opx_some, cold_val, cold_lst, List.length_cons, List.length_nil, gev_set, a0, a1, a2, a3, a4, a5, a6, a7, a8, a9, a10, a11, a12, a13, a14, a15, a16, a17, a18]
    exact ⟨le_size (by decide), by decide, _, rfl, rfl⟩) ?_
  rintro ρ rfl
  have g1 := gAdd_strs (a := ([k ++ "s " ++ num size, k ++ "  " ++ num size, k ++ " 0" ++ num size, k ++ " 0", k ++ " 31"] : List Str)) (b := ([k, " " ++ k ++ " " ++ num size, k ++ " " ++ num size ++ " ", k ++ " -" ++ num size, ""] : List Str)) (by simp)
  refine run_seq_of (P := fun ρ => ρ = [.lst (Js ds), .val (.str k), .val (.int size), .val (.str (num size)), .lst ((([k ++ "s " ++ num size, k ++ "  " ++ num size, k ++ " 0" ++ num size, k ++ " 0", k ++ " 31"] : List Str) ++ ([k, " " ++ k ++ " " ++ num size, k ++ " " ++ num size ++ " ", k ++ " -" ++ num size, ""] : List Str)).map D.str)]) ?_ ?_
  · simp only [List.map_cons, List.map_nil] at g1
    simp only [run_asg, ev_lst, ev_consL, ev_nilL, ev_cold, ev_op, ev_var, ev_ret, List.getElem?_cons_zero, List.getElem?_cons_succ, List.set_cons_succ, List.set_cons_zero, okx_ok, opx_some, cold_val, cold_lst, List.length_cons, List.length_nil, gev_set, S.cold, List.map_cons, List.map_nil, a0, a1, a2, a3, a4, a5, a6, a7, a8, a9, a10, a11, a12, a13, a14, a15, a16, a17, a18]
    refine ⟨le_size (by decide), ?_⟩
    rw [g1]
    simp only [opx_some, gev_set, List.set_cons_succ, List.set_cons_zero, List.length_cons, List.length_nil, okx_ok]
    exact ⟨by decide, _, rfl, rfl⟩
  rintro ρ rfl
  have g2 := gAdd_strs (a := ([k ++ "s " ++ num size, k ++ "  " ++ num size, k ++ " 0" ++ num size, k ++ " 0", k ++ " 31"] : List Str) ++ ([k, " " ++ k ++ " " ++ num size, k ++ " " ++ num size ++ " ", k ++ " -" ++ num size, ""] : List Str)) (b := (["joinlap " ++ num size, k ++ " " ++ num size ++ " gone", k ++ " +" ++ num size] : List Str)) (by simp)
  refine run_seq_of (P := fun ρ => ρ = [.lst (Js ds), .val (.str k), .val (.int size), .val (.str (num size)), .lst ((hmenu k (num size)).map D.str)]) ?_ ?_
  · simp only [List.map_cons, List.map_nil, List.cons_append, List.nil_append] at g2
    simp only [run_asg, ev_lst, ev_consL, ev_nilL, ev_cold, ev_op, ev_var, ev_ret, List.getElem?_cons_zero, List.getElem?_cons_succ, List.set_cons_succ, List.set_cons_zero, okx_ok, opx_some, cold_val, cold_lst, List.length_cons, List.length_nil, gev_set, S.cold, List.map_cons, List.map_nil, List.cons_append, List.nil_append, a0, a1, a2, a3, a4, a5, a6, a7, a8, a9, a10, a11, a12, a13, a14, a15, a16, a17, a18]
    refine ⟨le_size (by decide), ?_⟩
    rw [g2]
    simp only [opx_some, gev_set, List.set_cons_succ, List.set_cons_zero, List.length_cons, List.length_nil, okx_ok]
    exact ⟨by decide, _, rfl, rfl⟩
  rintro ρ rfl
  have hd := dr_range (ds := ds) (show (0 : Int) < 13 by omega)
  obtain ⟨w, hw, gw⟩ := gIx_strs (a := hmenu k (num size)) hd.1 (by simp [hmenu]; omega)
  obtain ⟨b1, b2⟩ := bad_head hk hs (by omega) hw
  generalize hM : (hmenu k (num size)).map D.str = M
  rw [hM] at gw
  simp [c_take (show (0 : Int) < 13 by omega), gw]
  exact h w _ b1 b2
def pmenu (size : Int) : List Str := ["0 " ++ num (size + 1), "1 0", "0 0", "0", "01 2", "0  1", " 0 1", "0 1 ", "00 1", "0 01", "0 1 lost", "0 1 gone ", "0 1  gone", "0 1 gone gone", "a 1", "-0 1", "0 1 2"]
theorem pm_tab : ((pmenu 0).drop 1).all (fun w => okS w && decide (w ≠ es)) = true := by kernel_rfl
theorem bad_part {w : Str} (hs : 1 ≤ size) (hs2 : size ≤ 24) (hw : w ∈ pmenu size) : BadLn size w ∧ OkS w ∧ w ≠ es := by
  rcases List.mem_cons.mp hw with rfl | hw
  · rw [← pline0]
    have h1 := pline_ok (b := 0) (e := size + 1) (g := false) (by omega) (by omega) (by omega) (by omega)
    refine ⟨bad_long (by omega) hs2, h1, fun e => ?_⟩
    have := congrArg Str.length e
    rw [pline0, str_len, lit9, len_es] at this
    omega
  · have t := List.all_eq_true.mp pm_tab w hw
    rw [Bool.and_eq_true_iff, decide_eq_true_eq] at t
    refine ⟨?_, t.1, t.2⟩
    rcases List.mem_cons.mp hw with rfl | hw
    · exact bad_10 _ rfl
    · rcases List.mem_cons.mp hw with rfl | hw
      · exact bad_00 _ rfl
      · refine bad_menu ?_
        have : wmenu = (["0", "01 2", "0  1", " 0 1", "0 1 ", "00 1", "0 01", "0 1 lost", "0 1 gone ", "0 1  gone", "0 1 gone gone", "a 1", "-0 1", "0 1 2"] : List Str) ++ [es] := rfl
        rw [this]
        exact List.mem_append_left _ hw
theorem x_wrong_part (hs : 1 ≤ size) (hs2 : size ≤ 24) (h : ∀ w ds', BadLn size w → OkS w → w ≠ es → C (.ret (.val (.str w)) [.lst (Js ds'), .val (.int size)])) : cal f__law_wrong_part [.lst (Js ds), .val (.int size)] C := by
  unfold f__law_wrong_part
  rw [cal_def]
  simp only [m__law_wrong_part]
  have hsl := (num_ok (i := size + 1) (by omega) (by omega)).2
  have a1 : gAdd (.str "0 ") (.str (num (size + 1))) = some (.val (.str ("0 " ++ num (size + 1)))) := gAdd_tx (by rw [lit9]; omega)
  refine run_seq_of (P := fun ρ => ρ = [.lst (Js ds), .val (.int size), .lst (([("0 " : Str) ++ num (size + 1), "1 0", "0 0", "0", "01 2", "0  1", " 0 1", "0 1 ", "00 1", "0 01"] : List Str).map D.str)]) (by simp [a1, gStr_num (show 0 ≤ size + 1 by omega) (by omega), le_size]) ?_
  rintro ρ rfl
  have g1 := gAdd_strs (a := [("0 " : Str) ++ num (size + 1), "1 0", "0 0", "0", "01 2", "0  1", " 0 1", "0 1 ", "00 1", "0 01"]) (b := ["0 1 lost", "0 1 gone ", "0 1  gone", "0 1 gone gone", "a 1", "-0 1", "0 1 2"]) (by simp)
  refine run_seq_of (P := fun ρ => ρ = [.lst (Js ds), .val (.int size), .lst ((pmenu size).map D.str)]) ?_ ?_
  · simp only [List.map_cons, List.map_nil, List.cons_append, List.nil_append] at g1
    simp [g1, le_size, pmenu]
  rintro ρ rfl
  have hd := dr_range (ds := ds) (show (0 : Int) < 17 by omega)
  obtain ⟨w, hw, gw⟩ := gIx_strs (a := pmenu size) hd.1 (by simp [pmenu]; omega)
  obtain ⟨b1, b2, b3⟩ := bad_part hs hs2 hw
  generalize hM : (pmenu size).map D.str = M
  rw [hM] at gw
  simp [c_take (show (0 : Int) < 17 by omega), gw]
  exact h w _ b1 b2 b3
theorem x_refT {d : D} {n : Int} (h1 : cal f_market_from [.val d] fun c => ∃ ss, c = .exc "BadText" [("line", .int n)] ss) (h : ∀ ss, C (.ret (.lst [.int n, .bl true, .bl false]) ss)) : cal f__law_refused_v6 [.val d] C := by
  unfold f__law_refused_v6
  rw [cal_def]
  simp only [m__law_refused_v6]
  refine run_seq_of (P := fun ρ => ρ = [.val d, .lst [.int (-7), .bl false, .bl false], .no]) (by simp) ?_
  rintro ρ rfl
  refine run_seq_of (P := fun ρ => ρ = [.val d, .lst [.int n, .bl true, .bl false], .no]) ?_ ?_
  · obtain ⟨r, k1, ss, rfl⟩ := h1
    have h2 : run (sDrop (mCall f_market_from [] (aCons (mVar 0) aNil))) [.val d, .lst [.int (-7), .bl false, .bl false], .no] (fun o => o = .ex "BadText" [("line", .int n)] [.val d, .lst [.int (-7), .bl false, .bl false], .no]) := by
      simp
      rw [cal_of k1]
      simp
    have h3 : run (sAsg (mLst (mCons (mErr 2 "BadText" "line") (mCons (mCold (mIsErr 2 "BadText" true)) (mCons (mCold (mIsErr 2 "BadText" false)) mNil)))) (gSetM 1)) [.val d, .lst [.int (-7), .bl false, .bl false], .err "BadText" [("line", .int n)]] (fun o => o = .nx [.val d, .lst [.int n, .bl true, .bl false], .err "BadText" [("line", .int n)]]) := by
      simp
    obtain ⟨_, h2, rfl⟩ := h2
    obtain ⟨_, h3, rfl⟩ := h3
    exact run_tryL_ex h2 (by simp [notErr]) (hand_yes (by decide) (by simp) h3 (by simp [notErr])) ⟨_, rfl, rfl⟩
  rintro ρ rfl
  simp
  exact h _
end
end L2.Fn
set_option maxRecDepth 100000
set_option maxHeartbeats 4000000
/-! LibW6: spoilt texts. -/
namespace L2.Fn
open PySem PySem.Spec PyProof.Rows L2
/-- refused with that line's number -/
def Due (d : D) (n : Int) : Prop := cal f_market_from [.val d] fun c => ∃ ss, c = .exc "BadText" [("line", .int n)] ss
section
variable {k : Str} {size : Int} {rs : List (Int × Int)} {gone : List Int} {xs rest ls : List Str} {w t : Str} {j : Nat} {C : CR → Prop}
theorem J_len (hne : xs ≠ []) (h : ∀ x ∈ xs, OkS x) (hl : xs.length ≤ 1000) : (J xs).length ≤ 100000 := by
  have := (J_ok hne h).2
  omega
theorem due_one (hl : xs.length = 1) (h : ∀ x ∈ xs, OkS x) : Due (.str (J xs)) 1 := by
  have hne : xs ≠ [] := fun e => by rw [e] at hl; cases hl
  have ht := split_Jo hne h
  have htl := J_len hne h (by omega)
  generalize J xs = t at ht htl
  unfold Due
  unfold f_market_from
  rw [cal_def]
  simp only [m_market_from]
  have tl2 : t.length + 2 ≤ sizeLine := le_size (by omega)
  have hs' : Txt.split t "\n" = xs := ht
  rw [run_seq]
  simp [tl2, len_nl0, hs', hl]
theorem due_head (hl : 2 ≤ xs.length) (hl2 : xs.length ≤ 1000) (h : ∀ x ∈ xs, OkS x) (hw : xs[0]? = some w) (hb : BadHd w) : Due (.str (J xs)) 1 := by
  have hne : xs ≠ [] := fun e => by rw [e] at hl; simp at hl
  have ht := split_Jo hne h
  have htl := J_len hne h hl2
  generalize J xs = t at ht htl
  unfold Due
  unfold f_market_from
  rw [cal_def]
  simp only [m_market_from]
  have tl2 : t.length + 2 ≤ sizeLine := le_size (by omega)
  have hs' : Txt.split t "\n" = xs := ht
  have g0 : gIx (.lst (xs.map D.str)) (.int 0) = some (.str w) := atI_nat (i := 0) (by rw [List.getElem?_map, hw]; rfl)
  obtain ⟨ss, hb⟩ := hb
  have hb' := fun C => cal_of (C := C) hb
  have hx : ¬ ((xs.length : Nat) : Int) = 1 := by omega
  have hx2 : ¬ xs.length = 1 := by omega
  refine run_seq_of (P := fun ρ => ρ = [.val (.str t), .no, .no, .no, .no, .no, .no, .no, .no, .no]) (by simp) ?_
  rintro ρ rfl
  refine run_seq_of (P := fun ρ => ρ = [.val (.str t), .lst (xs.map D.str), .no, .no, .no, .no, .no, .no, .no, .no]) ?_ ?_
  · simp [tl2, len_nl0, hs']
  rintro ρ rfl
  refine run_seq_of (P := fun ρ => ρ = [.val (.str t), .lst (xs.map D.str), .no, .no, .no, .no, .no, .no, .no, .no]) ?_ ?_
  · simp [hx2]
    omega
  rintro ρ rfl
  rw [run_seq]
  simp [g0, hb']
/-- good lines, then a wrong one -/
theorem due_at (hk : k ∈ kinds) (hs : 1 ≤ size) (hs2 : size ≤ 25) (hin : InRow size rs) (hn : rs.length ≤ 900) (hj : j ≤ rs.length) (hr : rest.length ≤ 50) (hw : OkS w) (hro : ∀ x ∈ rest, OkS x)
    (hb : rest ≠ [] → BadLn size w) (hl : rest = [] → w ≠ es) (e : xs = (lns k size rs gone).take (j + 1) ++ w :: rest) : Due (.str (J xs)) ((j : Int) + 2) := by
  have hlo := lns_ok (gone := gone) hk hs hs2 hin
  have hll : (lns k size rs gone).length = rs.length + 1 := by simp [lns]
  have htl : ((lns k size rs gone).take (j + 1)).length = j + 1 := by rw [List.length_take, hll]; omega
  have hok : ∀ x ∈ xs, OkS x := by
    intro x hx
    rw [e] at hx
    rcases List.mem_append.mp hx with hx | hx
    · exact hlo x (List.mem_of_mem_take hx)
    · rcases List.mem_cons.mp hx with rfl | hx
      · exact hw
      · exact hro x hx
  have hxl : xs.length = (j + rest.length) + 2 := by rw [e, List.length_append, htl, List.length_cons]; omega
  have hne : xs ≠ [] := fun e => by rw [e] at hxl; cases hxl
  have hxj : xs[j + 1]? = some w := by
    rw [e, List.getElem?_append_right (by omega), htl]
    simp
  refine x_from (k := k) (size := size) (rs := rs) (gone := gone) (xs := xs) (j := j) (n := j + rest.length) hk hs (by omega) hin (fun r hr => by have := hin r hr; omega) (by omega) (split_Jo hne hok) (J_len hne hok (by omega)) hxl (by omega) hok hj ?_ ?_ ?_ ?_ ?_
  · rw [e, List.getElem?_append_left (by omega)]
    rfl
  · intro i r hi hri
    rw [e, List.getElem?_append_left (by omega), List.getElem?_take, if_pos (by omega)]
    exact lnL_get hri
  · cases rest with
    | nil => exact .inl rfl
    | cons a r => exact .inr ⟨by simp, ⟨w, hxj, hb (by simp)⟩, fun ss => ⟨ss, rfl⟩⟩
  · intro h1 h2 ss
    exact ⟨ss, rfl⟩
  · intro h1 h2
    rw [hxj] at h2
    have hre : rest = [] := List.length_eq_zero_iff.mp (by omega)
    exact absurd (Option.some.inj h2) (hl hre)
/-- one line spoilt, or one more -/
theorem due_sp {a : Nat} {tl : List Str} (hk : k ∈ kinds) (hs : 1 ≤ size) (hs2 : size ≤ 24) (hin : InRow size rs) (hn : rs.length ≤ 20) (ha : a ≤ rs.length + 1) (hw : OkS w) (h0 : a = 0 → BadHd w) (h1 : a ≠ 0 → BadLn size w ∧ w ≠ es) (htl : tl.length ≤ 10) (hto : ∀ x ∈ tl, OkS x) :
    Due (.str (J ((lns k size rs gone).take a ++ w :: ((lns k size rs gone).drop (a + 1) ++ tl)))) ((a : Int) + 1) := by
  have hlo := lns_ok (gone := gone) hk hs (by omega) hin
  have hll : (lns k size rs gone).length = rs.length + 1 := by simp [lns]
  have hro : ∀ x ∈ (lns k size rs gone).drop (a + 1) ++ tl, OkS x := by
    intro x hx
    rcases List.mem_append.mp hx with hx | hx
    · exact hlo x (List.mem_of_mem_drop hx)
    · exact hto x hx
  have hrl : ((lns k size rs gone).drop (a + 1) ++ tl).length ≤ 50 := by rw [List.length_append, List.length_drop, hll]; omega
  generalize (lns k size rs gone).drop (a + 1) ++ tl = rest at hro hrl
  cases a with
  | zero =>
    rw [List.take_zero, List.nil_append]
    have hok : ∀ x ∈ w :: rest, OkS x := fun x hx => by
      rcases List.mem_cons.mp hx with rfl | hx
      · exact hw
      · exact hro x hx
    show Due _ (((0 : Nat) : Int) + 1)
    cases rest with
    | nil => exact due_one rfl hok
    | cons b r => exact due_head (by simp) (by simp at hrl ⊢; omega) hok rfl (h0 rfl)
  | succ j =>
    have h := due_at (k := k) (size := size) (rs := rs) (gone := gone) (w := w) (rest := rest) (j := j) hk hs (by omega) hin (by omega) (by omega) hrl hw hro (fun _ => (h1 (by omega)).1) (fun _ => (h1 (by omega)).2) rfl
    have e : ((j + 1 : Nat) : Int) + 1 = (j : Int) + 2 := by omega
    rw [e]
    exact h
theorem pline_ne {b e : Int} {g : Bool} (b0 : 0 ≤ b) (b1 : b ≤ 30) (e0 : 0 ≤ e) (e1 : e ≤ 30) : pline b e g ≠ es := fun h => by
  have := congrArg Str.length h
  unfold pline at this
  rw [str_len, str_len, str_len, len_sp, len_es] at this
  omega
/-- the last end of line away -/
theorem due_cut (hk : k ∈ kinds) (hs : 1 ≤ size) (hs2 : size ≤ 24) (hin : InRow size rs) (hn : rs.length ≤ 20) : Due (.str (J (lns k size rs gone))) ((rs.length : Int) + 1) := by
  have hlo := lns_ok (gone := gone) hk hs (by omega) hin
  cases hr : rs.length with
  | zero => exact due_one (by simp [lns, hr]) hlo
  | succ j =>
    obtain ⟨r, hrj⟩ : ∃ r, rs[j]? = some r := ⟨rs[j], by simp⟩
    have hm := hin r (List.mem_of_getElem? hrj)
    have hll : (lns k size rs gone).length = j + 2 := by simp [lns, hr]
    have e : lns k size rs gone = (lns k size rs gone).take (j + 1) ++ pline r.1 r.2 (decide ((j : Int) ∈ gone)) :: [] := by
      have h1 : (lns k size rs gone)[j + 1]? = some (pline r.1 r.2 (decide ((j : Int) ∈ gone))) := lnL_get hrj
      conv => lhs; rw [← List.take_append_drop (j + 1) (lns k size rs gone)]
      congr 1
      obtain ⟨hlt, h2⟩ := List.getElem?_eq_some_iff.mp h1
      rw [List.drop_eq_getElem_cons hlt, h2, List.drop_of_length_le (by omega)]
    have h := due_at (k := k) (size := size) (rs := rs) (gone := gone) (w := pline r.1 r.2 (decide ((j : Int) ∈ gone))) (rest := []) (j := j) hk hs (by omega) hin (by omega) (by omega) (by simp) (pline_ok (by omega) (by omega) (by omega) (by omega)) (fun x hx => by cases hx) (fun h => absurd rfl h) (fun _ => pline_ne (by omega) (by omega) (by omega) (by omega)) e
    have e2 : ((j + 1 : Nat) : Int) + 1 = (j : Int) + 2 := by omega
    rw [e2]
    exact h
theorem ok_01 : OkS "0 1" := by
  show okS "0 1" = true
  kernel_rfl
theorem ne_01 : ("0 1" : Str) ≠ es := by decide +kernel
theorem due_nl (hk : k ∈ kinds) (hs : 1 ≤ size) (hs2 : size ≤ 24) (hin : InRow size rs) (hn : rs.length ≤ 20) : Due (.str (J (lns k size rs gone ++ [es, es]))) ((rs.length : Int) + 2) := by
  have hll : (lns k size rs gone).length = rs.length + 1 := by simp [lns]
  exact due_at (k := k) (size := size) (rs := rs) (gone := gone) (w := es) (rest := [es]) (j := rs.length) hk hs (by omega) hin (by omega) (by omega) (by simp) okS_e (fun x hx => by simp at hx; subst hx; exact okS_e) (fun _ => bad_menu (by simp [wmenu])) (fun h => by cases h) (by rw [List.take_of_length_le (by omega)])
theorem due_01 (hk : k ∈ kinds) (hs : 1 ≤ size) (hs2 : size ≤ 24) (hin : InRow size rs) (hn : rs.length ≤ 20) : Due (.str (J (lns k size rs gone ++ [("0 1" : Str)]))) ((rs.length : Int) + 2) := by
  have hll : (lns k size rs gone).length = rs.length + 1 := by simp [lns]
  exact due_at (k := k) (size := size) (rs := rs) (gone := gone) (w := "0 1") (rest := []) (j := rs.length) hk hs (by omega) hin (by omega) (by omega) (by simp) ok_01 (fun x hx => by cases hx) (fun h => absurd rfl h) (fun _ => ne_01) (by rw [List.take_of_length_le (by omega)])
theorem due_e : Due (.str es) 1 := by
  have := due_one (xs := [es]) rfl (fun x hx => by simp at hx; subst hx; exact okS_e)
  exact this
theorem due_no {d : D} (h : d = .non ∨ d = .int 7 ∨ ∃ x, d = .lst [.str x]) : Due d 0 := by
  unfold Due
  unfold f_market_from
  rw [cal_def]
  simp only [m_market_from]
  rw [run_seq]
  rcases h with rfl | rfl | ⟨x, rfl⟩ <;> simp
end
end L2.Fn
set_option maxRecDepth 100000
set_option maxHeartbeats 4000000
/-! LibW7: the spoilt texts are refused. -/
namespace L2.Fn
open PySem PySem.Spec PyProof.Rows L2
theorem cut_str (xs : List Str) (lo hi : Option Int) : cutD (xs.map D.str) lo hi = (cutL xs lo hi).map D.str := by
  unfold cutD cutL
  simp [List.map_drop, List.map_take]
def tol (n : Int) : D := .lst [.int n, .bl true, .bl false]
theorem sh_tol {n : Int} : Sh 60 (tol n) := sh_lst (k := 59) (xs := [.int n, .bl true, .bl false]) (by
  intro x hx
  rcases List.mem_cons.mp hx with rfl | hx
  · exact sh_int
  · rcases List.mem_cons.mp hx with rfl | hx
    · exact sh_bl
    · rcases List.mem_cons.mp hx with rfl | hx
      · exact sh_bl
      · cases hx)
theorem gNe_tol {n : Int} : gNe (tol n) (tol n) = some (.val (.bl false)) := gNe_self sh_tol
theorem gEq_tol {n : Int} : gEq (tol n) (tol n) = some (.val (.bl true)) := by
  have h := gNe_tol (n := n)
  unfold gNe at h
  unfold gEq
  cases e : eqD (tol n) (tol n) with
  | none => rw [e] at h; cases h
  | some b => rw [e] at h; cases b <;> simp at h ⊢
section
variable {k : Str} {size : Int} {rs : List (Int × Int)} {gone ds : List Int} {C : CR → Prop} {a : Nat} {w : Str}
theorem e_refT {d : D} {n : Int} (h : Due d n) : ∃ ss, f__law_refused_v6 [.val d] = some (.ret (.lst [.int n, .bl true, .bl false]) ss) := by
  obtain ⟨r, h1, ss, rfl⟩ : cal f__law_refused_v6 [.val d] fun c => ∃ ss, c = .ret (.lst [.int n, .bl true, .bl false]) ss := x_refT h fun ss => ⟨ss, rfl⟩
  exact ⟨ss, h1⟩
theorem x_texts_refused (hk : k ∈ kinds) (hs : 1 ≤ size) (hs2 : size ≤ 24) (hin : InRow size rs) (hn : rs.length ≤ 20) (h : ∀ ss, C (.ret (.val (.bl true)) ss)) : cal f__law_texts_refused [.lst (Js ds), .val (.lst ((lns k size rs gone).map D.str)), .val (.str k), .val (.int size)] C := by
  unfold f__law_texts_refused
  rw [cal_def]
  simp only [m__law_texts_refused]
  have hlo := lns_ok (gone := gone) hk hs (by omega) hin
  have hll : (lns k size rs gone).length = rs.length + 1 := by simp [lns]
  have d4 := due_cut (gone := gone) hk hs hs2 hin hn
  have d5 := due_nl (gone := gone) hk hs hs2 hin hn
  have d6 := due_01 (gone := gone) hk hs hs2 hin hn
  have hsp := fun (a : Nat) (w : Str) (tl : List Str) => due_sp (k := k) (size := size) (rs := rs) (gone := gone) (w := w) (a := a) (tl := tl) hk hs hs2 hin hn
  have hne : lns k size rs gone ≠ [] := by simp [lns]
  generalize hls : lns k size rs gone = ls at *
  have hglen : gLen (.lst (ls.map D.str)) = some (rs.length + 1) := by simp [gLen, hll]
  have hJo := J_ok (xs := ls ++ [es]) (by simp) (fun x hx => by
    rcases List.mem_append.mp hx with hx | hx
    · exact hlo x hx
    · simp at hx; subst hx; exact okS_e)
  have hJl : (J (ls ++ [es])).length ≤ 5000 := by have := hJo.2; simp [hll] at this; omega
  refine run_seq_of (P := fun ρ => ρ = [.lst (Js ds), .val (.lst (ls.map D.str)), .val (.str k), .val (.int size), .val (.str (J (ls ++ [es]))), .no, .no, .no, .no, .no]) ?_ ?_
  · have hc := fun C => c_joined (C := C) hlo (by omega)
    simp only [List.cons_append, List.nil_append, List.replicate, run_if, run_asg, run_ret, ev_test, ev_op, ev_cold, ev_call, ev_consA, ev_nilA, ev_var, ev_ret, ev_b1, ev_warm, ev_not, ev_and, ev_or, ev_lst, ev_consL, ev_nilL, ev_lenN, ev_opt, ev_sl, ev_slS, ev_part, ev_noPart, ev_un, gNeg_int, List.getElem?_cons_zero, List.getElem?_cons_succ, List.set_cons_zero, List.set_cons_succ, okx_ok, List.map_cons, List.map_nil, ar_val, io_val, io_nil, true_and, cold_val, cold_lst, cold_ins, opx_some, crb_ret, back_val, back_nil, back_no, gev_set, List.length_cons, List.length_nil, S.cold, gAdd_int, gEq_int, gLt_int, Option.pure_def, Option.bind_eq_bind, Option.bind_some, hc]
    exact ⟨by simp, _, rfl, rfl⟩
  rintro ρ rfl
  refine run_seq_of (P := fun ρ => ∃ (ds : List Int) (a : Nat), ρ = [.lst (Js ds), .val (.lst (ls.map D.str)), .val (.str k), .val (.int size), .val (.str (J (ls ++ [es]))), .val (.int (a : Nat)), .no, .no, .no, .no] ∧ a ≤ rs.length + 1) ?_ ?_
  · have hp : (0 : Int) < ((rs.length + 1 : Nat) : Int) + 1 := by omega
    have hd := dr_range (ds := ds) hp
    simp [hglen, c_take hp]
    have hp2 : (0 : Int) < (rs.length : Int) + 1 + 1 := by omega
    simp [c_take hp2]
    have hd2 := dr_range (ds := ds) hp2
    exact ⟨_, (dr ds ((rs.length : Int) + 1 + 1)).toNat, ⟨rfl, by omega⟩, by omega⟩
  rintro ρ ⟨ds, a, rfl, ha⟩
  refine run_seq_of (P := fun ρ => ∃ (ds : List Int) (w : Str), ρ = [.lst (Js ds), .val (.lst (ls.map D.str)), .val (.str k), .val (.int size), .val (.str (J (ls ++ [es]))), .val (.int (a : Nat)), .val (.str w), .no, .no, .no] ∧ (OkS w ∧ BadLn size w ∧ w ≠ es)) ?_ ?_
  · simp
    refine x_wrong_part hs hs2 fun w ds' b1 b2 b3 => ?_
    simp
    exact ⟨_, w, ⟨rfl, rfl⟩, b2, b1, b3⟩
  rintro ρ ⟨ds, w0, rfl, hw0⟩
  refine run_seq_of (P := fun ρ => ∃ (ds : List Int) (w : Str), ρ = [.lst (Js ds), .val (.lst (ls.map D.str)), .val (.str k), .val (.int size), .val (.str (J (ls ++ [es]))), .val (.int (a : Nat)), .val (.str w), .no, .no, .no] ∧ (OkS w ∧ (a = 0 → BadHd w) ∧ (a ≠ 0 → BadLn size w ∧ w ≠ es))) ?_ ?_
  · by_cases hz : a = 0
    · subst hz
      simp
      refine x_wrong_head hk hs hs2 fun w ds' b1 b2 => ?_
      simp
      exact ⟨_, w, ⟨rfl, rfl⟩, b2, b1⟩
    · have hz2 : ¬ ((a : Nat) : Int) = 0 := by omega
      simp [hz]
      exact ⟨_, w0, ⟨rfl, rfl⟩, hw0.1, hw0.2.1, hw0.2.2⟩
  rintro ρ ⟨ds, w, rfl, hw, hw1, hw2⟩
  have hsp1 := fun (tl : List Str) => hsp a w tl ha hw hw1 hw2
  obtain ⟨sp, hspe⟩ : ∃ sp, sp = ls.take a ++ w :: ls.drop (a + 1) := ⟨_, rfl⟩
  have hspl : sp.length ≤ rs.length + 2 := by rw [hspe]; simp; omega
  have hspo : ∀ x ∈ sp, OkS x := by
    intro x hx
    rw [hspe] at hx
    rcases List.mem_append.mp hx with hx | hx
    · exact hlo x (List.mem_of_mem_take hx)
    · rcases List.mem_cons.mp hx with rfl | hx
      · exact hw
      · exact hlo x (List.mem_of_mem_drop hx)
  have hspn : sp ≠ [] := by rw [hspe]; simp
  have esp : ∀ tl, ls.take a ++ w :: (ls.drop (a + 1) ++ tl) = sp ++ tl := fun tl => by rw [hspe]; simp
  refine run_seq_of (P := fun ρ => ∃ s1 s7 : S, ρ = [.lst (Js ds), s1, .val (.str k), .val (.int size), .val (.str (J (ls ++ [es]))), .val (.int (a : Nat)), .val (.str w), s7, .no, .no] ∧ (s1 = .val (.lst (ls.map D.str))) ∧ s7 = .lst (sp.map D.str)) ?_ ?_
  · have hwl : ([D.str w] : List D).length ≤ sizeLine := le_size (by simp)
    by_cases hal : a < rs.length + 1
    · have hal2 : ((a : Nat) : Int) < ((rs.length + 1 : Nat) : Int) := by omega
      have e1 := cut_take (xs := ls) (t := a) (by omega)
      have e2 := cut_drop (xs := ls) (t := a + 1) (by omega)
      have e3 : ((a : Nat) : Int) + 1 = ((a + 1 : Nat) : Int) := by omega
      have g1 : gAdd (.lst ((ls.take a).map D.str)) (.lst [.str w]) = some (.lst ((ls.take a ++ [w]).map D.str)) := gAdd_strs (b := [w]) (by simp; omega)
      have g2 : gAdd (.lst ((ls.take a ++ [w]).map D.str)) (.lst ((ls.drop (a + 1)).map D.str)) = some (.lst ((ls.take a ++ [w] ++ ls.drop (a + 1)).map D.str)) := gAdd_strs (by simp; omega)
      have e4 : ls.take a ++ [w] ++ ls.drop (a + 1) = sp := by rw [hspe]; simp
      rw [e4] at g2
      simp only [run_if, run_asg, run_ret, ev_test, ev_op, ev_cold, ev_call, ev_consA, ev_nilA, ev_var, ev_ret, ev_b1, ev_warm, ev_not, ev_and, ev_or, ev_lst, ev_consL, ev_nilL, ev_lenN, ev_opt, ev_sl, ev_slS, ev_part, ev_noPart, ev_un, gNeg_int, List.getElem?_cons_zero, List.getElem?_cons_succ, List.set_cons_zero, List.set_cons_succ, okx_ok, List.map_cons, List.map_nil, ar_val, io_val, io_nil, true_and, cold_val, cold_lst, cold_ins, opx_some, crb_ret, back_val, back_nil, back_no, gev_set, List.length_cons, List.length_nil, S.cold, gAdd_int, gEq_int, gLt_int, Option.pure_def, Option.bind_eq_bind, Option.bind_some, hglen, hal2, decide_true, if_true, Option.map_some, cut_str, e1, e3, e2, g1, g2, le_size]
      simp only [show 0 + 1 ≤ sizeLine from le_size (by decide), true_and]
      exact ⟨by decide, _, rfl, _, _, rfl, rfl, rfl⟩
    · have hal2 : ¬ ((a : Nat) : Int) < ((rs.length + 1 : Nat) : Int) := by omega
      have g1 : gAdd (.lst (ls.map D.str)) (.lst [.str w]) = some (.lst ((ls ++ [w]).map D.str)) := gAdd_strs (b := [w]) (by simp; omega)
      have e4 : ls ++ [w] = sp := by rw [hspe, List.take_of_length_le (by omega), List.drop_of_length_le (by omega)]
      rw [e4] at g1
      simp only [run_if, run_asg, run_ret, ev_test, ev_op, ev_cold, ev_call, ev_consA, ev_nilA, ev_var, ev_ret, ev_b1, ev_warm, ev_not, ev_and, ev_or, ev_lst, ev_consL, ev_nilL, ev_lenN, ev_opt, ev_sl, ev_slS, ev_part, ev_noPart, ev_un, gNeg_int, List.getElem?_cons_zero, List.getElem?_cons_succ, List.set_cons_zero, List.set_cons_succ, okx_ok, List.map_cons, List.map_nil, ar_val, io_val, io_nil, true_and, cold_val, cold_lst, cold_ins, opx_some, crb_ret, back_val, back_nil, back_no, gev_set, List.length_cons, List.length_nil, S.cold, gAdd_int, gEq_int, gLt_int, Option.pure_def, Option.bind_eq_bind, Option.bind_some, hglen, hal2, decide_false, Bool.false_eq_true, if_false, Option.map_some, g1]
      simp only [show 0 + 1 ≤ sizeLine from le_size (by decide), true_and]
      exact ⟨by decide, _, rfl, _, _, rfl, rfl, rfl⟩
  rintro ρ ⟨s1, s7, rfl, rfl, rfl⟩
  refine run_seq_of (P := fun ρ => ρ = [.lst (Js ds), .val (.lst (ls.map D.str)), .val (.str k), .val (.int size), .val (.str (J (ls ++ [es]))), .val (.int (a : Nat)), .val (.str w), .lst (sp.map D.str), .lst [.int ((a : Nat) + 1), .bl true, .bl false], .no]) ?_ ?_
  · simp
  rintro ρ rfl
  have q := gNe_tol (n := ((a : Nat) : Int) + 1)
  have et : ∀ n : Int, D.lst [.int n, .bl true, .bl false] = tol n := fun n => rfl
  have o1 : ∀ x ∈ ([es] : List Str), OkS x := fun x hx => by simp at hx; subst hx; exact okS_e
  refine run_seq_of (P := fun ρ => ρ = [.lst (Js ds), .val (.lst (ls.map D.str)), .val (.str k), .val (.int size), .val (.str (J (ls ++ [es]))), .val (.int (a : Nat)), .val (.str w), .val (.lst (sp.map D.str)), .val (tol ((a : Nat) + 1)), .no]) ?_ ?_
  · obtain ⟨ss, hr⟩ := e_refT (hsp1 [es] (by simp) o1)
    rw [esp] at hr
    have hr' := fun C => cal_of (C := C) hr
    have hc := fun C => c_joined (C := C) hspo (by omega)
    simp only [run_if, run_asg, run_ret, ev_test, ev_op, ev_cold, ev_call, ev_consA, ev_nilA, ev_var, ev_ret, ev_b1, ev_warm, ev_not, ev_and, ev_or, ev_lst, ev_consL, ev_nilL, ev_lenN, ev_opt, ev_sl, ev_slS, ev_part, ev_noPart, ev_un, gNeg_int, List.getElem?_cons_zero, List.getElem?_cons_succ, List.set_cons_zero, List.set_cons_succ, okx_ok, List.map_cons, List.map_nil, ar_val, io_val, io_nil, true_and, cold_val, cold_lst, cold_ins, opx_some, crb_ret, back_val, back_nil, back_no, gev_set, List.length_cons, List.length_nil, S.cold, gAdd_int, gEq_int, gLt_int, Option.pure_def, Option.bind_eq_bind, Option.bind_some, hc, hr', et, q, Bool.false_eq_true, if_false, run_nil]
    exact ⟨_, rfl, rfl⟩
  rintro ρ rfl
  refine run_seq_of (P := fun ρ => ∃ ds : List Int, ρ = [.lst (Js ds), .val (.lst (ls.map D.str)), .val (.str k), .val (.int size), .val (.str (J (ls ++ [es]))), .val (.int (a : Nat)), .val (.str w), .val (.lst (sp.map D.str)), .val (tol ((a : Nat) + 1)), .no]) ?_ ?_
  · simp only [run_if, ev_test, ev_op, ev_cold, ev_call, ev_consA, ev_lst, ev_consL, ev_var, List.getElem?_cons_zero, List.getElem?_cons_succ, okx_ok, cold_val]
    simp
    refine x_wrong_part hs hs2 fun w2 ds' b1 b2 b3 => ?_
    have o2 : ∀ x ∈ ([w2, es] : List Str), OkS x := fun x hx => by
      rcases List.mem_cons.mp hx with rfl | hx
      · exact b2
      · exact o1 x hx
    obtain ⟨ss, hr⟩ := e_refT (hsp1 [w2, es] (by simp) o2)
    rw [esp] at hr
    have ew : sp ++ [w2, es] = (sp ++ [w2]) ++ [es] := by simp
    rw [ew] at hr
    have hr' := fun C => cal_of (C := C) hr
    have hc := fun C => c_joined (C := C) (ls := sp ++ [w2]) (fun x hx => by
      rcases List.mem_append.mp hx with hx | hx
      · exact hspo x hx
      · simp at hx; subst hx; exact b2) (by simp; omega)
    have g1 : gAdd (.lst (sp.map D.str)) (.lst [.str w2]) = some (.lst ((sp ++ [w2]).map D.str)) := gAdd_strs (b := [w2]) (by simp; omega)
    simp only [run_if, run_asg, run_ret, ev_test, ev_op, ev_cold, ev_call, ev_consA, ev_nilA, ev_var, ev_ret, ev_b1, ev_warm, ev_not, ev_and, ev_or, ev_lst, ev_consL, ev_nilL, ev_lenN, ev_opt, ev_sl, ev_slS, ev_part, ev_noPart, ev_un, gNeg_int, List.getElem?_cons_zero, List.getElem?_cons_succ, List.set_cons_zero, List.set_cons_succ, okx_ok, List.map_cons, List.map_nil, ar_val, io_val, io_nil, true_and, cold_val, cold_lst, cold_ins, opx_some, crb_ret, back_val, back_nil, back_no, gev_set, List.length_cons, List.length_nil, S.cold, gAdd_int, gEq_int, gLt_int, Option.pure_def, Option.bind_eq_bind, Option.bind_some, g1, hc, hr', et, q, back_io, Bool.false_eq_true, if_false, run_nil]
    exact ⟨_, rfl⟩
  rintro ρ ⟨ds, rfl⟩
  refine run_seq_of (P := fun ρ => ρ = [.lst (Js ds), .val (.lst (ls.map D.str)), .val (.str k), .val (.int size), .val (.str (J (ls ++ [es]))), .val (.int (a : Nat)), .val (.str w), .val (.lst (sp.map D.str)), .val (tol ((a : Nat) + 1)), .no]) ?_ ?_
  · obtain ⟨ss, hr⟩ := e_refT (hsp1 [] (by simp) (fun x hx => by cases hx))
    rw [esp, List.append_nil] at hr
    have hr' := fun C => cal_of (C := C) hr
    have hc := fun C => c_joined (C := C) hspo (by omega)
    have hl : (J (sp ++ [es])).length ≤ sizeLine := by
      have := (J_ok (xs := sp ++ [es]) (by simp) (fun x hx => by
        rcases List.mem_append.mp hx with hx | hx
        · exact hspo x hx
        · exact o1 x hx)).2
      refine le_size ?_
      simp at this
      omega
    simp only [run_if, run_asg, run_ret, ev_test, ev_op, ev_cold, ev_call, ev_consA, ev_nilA, ev_var, ev_ret, ev_b1, ev_warm, ev_not, ev_and, ev_or, ev_lst, ev_consL, ev_nilL, ev_lenN, ev_opt, ev_sl, ev_slS, ev_part, ev_noPart, ev_un, gNeg_int, List.getElem?_cons_zero, List.getElem?_cons_succ, List.set_cons_zero, List.set_cons_succ, okx_ok, List.map_cons, List.map_nil, ar_val, io_val, io_nil, true_and, cold_val, cold_lst, cold_ins, opx_some, crb_ret, back_val, back_nil, back_no, gev_set, List.length_cons, List.length_nil, S.cold, gAdd_int, gEq_int, gLt_int, Option.pure_def, Option.bind_eq_bind, Option.bind_some, hc, hl, J_cut hspn, hr', et, q, Bool.false_eq_true, if_false, run_nil]
    exact ⟨_, rfl, rfl⟩
  rintro ρ rfl
  refine run_seq_of (P := fun ρ => ρ = [.lst (Js ds), .val (.lst (ls.map D.str)), .val (.str k), .val (.int size), .val (.str (J (ls ++ [es]))), .val (.int (a : Nat)), .val (.str w), .val (.lst (sp.map D.str)), .val (tol ((a : Nat) + 1)), .no]) ?_ ?_
  · obtain ⟨ss, hr⟩ := e_refT d4
    have hr' := fun C => cal_of (C := C) hr
    have hl : (J (ls ++ [es])).length ≤ sizeLine := le_size (by omega)
    have q2 := gNe_tol (n := (rs.length : Int) + 1)
    have e1 : ((rs.length + 1 : Nat) : Int) = (rs.length : Int) + 1 := by omega
    simp only [run_if, run_asg, run_ret, ev_test, ev_op, ev_cold, ev_call, ev_consA, ev_nilA, ev_var, ev_ret, ev_b1, ev_warm, ev_not, ev_and, ev_or, ev_lst, ev_consL, ev_nilL, ev_lenN, ev_opt, ev_sl, ev_slS, ev_part, ev_noPart, ev_un, gNeg_int, List.getElem?_cons_zero, List.getElem?_cons_succ, List.set_cons_zero, List.set_cons_succ, okx_ok, List.map_cons, List.map_nil, ar_val, io_val, io_nil, true_and, cold_val, cold_lst, cold_ins, opx_some, crb_ret, back_val, back_nil, back_no, gev_set, List.length_cons, List.length_nil, S.cold, gAdd_int, gEq_int, gLt_int, Option.pure_def, Option.bind_eq_bind, Option.bind_some, hl, J_cut hne, hr', hglen, Option.map_some, e1, et, q2, Bool.false_eq_true, if_false, run_nil]
    exact ⟨le_size (by decide), _, rfl, rfl⟩
  rintro ρ rfl
  refine run_seq_of (P := fun ρ => ρ = [.lst (Js ds), .val (.lst (ls.map D.str)), .val (.str k), .val (.int size), .val (.str (J (ls ++ [es]))), .val (.int (a : Nat)), .val (.str w), .val (.lst (sp.map D.str)), .val (tol ((a : Nat) + 1)), .no]) ?_ ?_
  · obtain ⟨ss, hr⟩ := e_refT d5
    have hr' := fun C => cal_of (C := C) hr
    have g1 : gAdd (.str (J (ls ++ [es]))) (.str nl) = some (.val (.str (J (ls ++ [es]) ++ nl))) := gAdd_tx (by rw [show (nl : Str).length = 1 by decide +kernel]; omega)
    rw [J_nl ls] at g1
    have q2 := gNe_tol (n := (rs.length : Int) + 2)
    have e1 : ((rs.length + 1 : Nat) : Int) + 1 = (rs.length : Int) + 2 := by omega
    have g1' : gAdd (.str (J (ls ++ [es]))) (.str "\n") = _ := g1
    simp only [run_if, run_asg, run_ret, ev_test, ev_op, ev_cold, ev_call, ev_consA, ev_nilA, ev_var, ev_ret, ev_b1, ev_warm, ev_not, ev_and, ev_or, ev_lst, ev_consL, ev_nilL, ev_lenN, ev_opt, ev_sl, ev_slS, ev_part, ev_noPart, ev_un, gNeg_int, List.getElem?_cons_zero, List.getElem?_cons_succ, List.set_cons_zero, List.set_cons_succ, okx_ok, List.map_cons, List.map_nil, ar_val, io_val, io_nil, true_and, cold_val, cold_lst, cold_ins, opx_some, crb_ret, back_val, back_nil, back_no, gev_set, List.length_cons, List.length_nil, S.cold, gAdd_int, gEq_int, gLt_int, Option.pure_def, Option.bind_eq_bind, Option.bind_some, g1', hr', hglen, Option.map_some, e1, et, q2, Bool.false_eq_true, if_false, run_nil]
    exact ⟨le_size (by decide), _, rfl, rfl⟩
  rintro ρ rfl
  refine run_seq_of (P := fun ρ => ρ = [.lst (Js ds), .val (.lst (ls.map D.str)), .val (.str k), .val (.int size), .val (.str (J (ls ++ [es]))), .val (.int (a : Nat)), .val (.str w), .val (.lst (sp.map D.str)), .val (tol ((a : Nat) + 1)), .no]) ?_ ?_
  · obtain ⟨ss, hr⟩ := e_refT d6
    have hr' := fun C => cal_of (C := C) hr
    have g1 : gAdd (.str (J (ls ++ [es]))) (.str "0 1") = some (.val (.str (J (ls ++ [es]) ++ "0 1"))) := gAdd_tx (by rw [show ("0 1" : Str).length = 3 by decide +kernel]; omega)
    rw [J_add ls "0 1"] at g1
    have q2 := gNe_tol (n := (rs.length : Int) + 2)
    have e1 : ((rs.length + 1 : Nat) : Int) + 1 = (rs.length : Int) + 2 := by omega
    have g1' : gAdd (.str (J (ls ++ [es]))) (.str "0 1") = _ := g1
    simp only [run_if, run_asg, run_ret, ev_test, ev_op, ev_cold, ev_call, ev_consA, ev_nilA, ev_var, ev_ret, ev_b1, ev_warm, ev_not, ev_and, ev_or, ev_lst, ev_consL, ev_nilL, ev_lenN, ev_opt, ev_sl, ev_slS, ev_part, ev_noPart, ev_un, gNeg_int, List.getElem?_cons_zero, List.getElem?_cons_succ, List.set_cons_zero, List.set_cons_succ, okx_ok, List.map_cons, List.map_nil, ar_val, io_val, io_nil, true_and, cold_val, cold_lst, cold_ins, opx_some, crb_ret, back_val, back_nil, back_no, gev_set, List.length_cons, List.length_nil, S.cold, gAdd_int, gEq_int, gLt_int, Option.pure_def, Option.bind_eq_bind, Option.bind_some, g1', hr', hglen, Option.map_some, e1, et, q2, Bool.false_eq_true, if_false, run_nil]
    exact ⟨le_size (by decide), _, rfl, rfl⟩
  rintro ρ rfl
  refine run_seq_of (P := fun ρ => ∃ (ds : List Int) (v : D), ρ = [.lst (Js ds), .val (.lst (ls.map D.str)), .val (.str k), .val (.int size), .val (.str (J (ls ++ [es]))), .val (.int (a : Nat)), .val (.str w), .val (.lst (sp.map D.str)), .val (tol ((a : Nat) + 1)), .val v] ∧ (v = .non ∨ v = .int 7 ∨ ∃ x, v = .lst [.str x])) ?_ ?_
  · have hd := dr_range (ds := ds) (show (0 : Int) < 3 by omega)
    have h3 : dr ds 3 = 0 ∨ dr ds 3 = 1 ∨ dr ds 3 = 2 := by omega
    generalize hx : J (ls ++ [es]) = x
    have i0 : gIx (.lst [.non, .int 7, .lst [.str x]]) (.int 0) = some .non := rfl
    have i1 : gIx (.lst [.non, .int 7, .lst [.str x]]) (.int 1) = some (.int 7) := rfl
    have i2 : gIx (.lst [.non, .int 7, .lst [.str x]]) (.int 2) = some (.lst [.str x]) := rfl
    rcases h3 with h3 | h3 | h3
    · simp [c_take (show (0 : Int) < 3 by omega), h3, i0, S.cold]
      exact ⟨_, .non, ⟨rfl, rfl⟩, .inl rfl⟩
    · simp [c_take (show (0 : Int) < 3 by omega), h3, i1, S.cold]
      exact ⟨_, .int 7, ⟨rfl, rfl⟩, .inr (.inl rfl)⟩
    · simp [c_take (show (0 : Int) < 3 by omega), h3, i2, S.cold]
      exact ⟨_, .lst [.str x], ⟨rfl, rfl⟩, .inr (.inr ⟨x, rfl⟩)⟩
  rintro ρ ⟨ds, v, rfl, hv⟩
  obtain ⟨ss1, hr1⟩ := e_refT due_e
  obtain ⟨ss2, hr2⟩ := e_refT (due_no hv)
  have hr1' := fun C => cal_of (C := C) hr1
  have hr2' := fun C => cal_of (C := C) hr2
  have q1 := gEq_tol (n := 1)
  have q0 := gEq_tol (n := 0)
  have hle : 0 + 1 + 1 + 1 ≤ sizeLine := le_size (by decide)
  simp only [run_if, run_asg, run_ret, ev_test, ev_op, ev_cold, ev_call, ev_consA, ev_nilA, ev_var, ev_ret, ev_b1, ev_warm, ev_not, ev_and, ev_or, ev_lst, ev_consL, ev_nilL, ev_lenN, ev_opt, ev_sl, ev_slS, ev_part, ev_noPart, ev_un, gNeg_int, List.getElem?_cons_zero, List.getElem?_cons_succ, List.set_cons_zero, List.set_cons_succ, okx_ok, List.map_cons, List.map_nil, ar_val, io_val, io_nil, true_and, cold_val, cold_lst, cold_ins, opx_some, crb_ret, back_val, back_nil, back_no, gev_set, List.length_cons, List.length_nil, S.cold, gAdd_int, gEq_int, gLt_int, Option.pure_def, Option.bind_eq_bind, Option.bind_some, ev_andV, hr1', hr2', hle, et, q1, q0, if_true]
  exact h _
end
end L2.Fn
set_option maxRecDepth 100000
set_option maxHeartbeats 4000000
/-! LibW8: markets compared. -/
namespace L2.Fn
open PySem PySem.Spec PyProof.Rows L2
theorem pys_Js : ∀ l : List Int, D.pys (Js l) = some (l.map PyData.int)
  | [] => rfl
  | a :: l => by simp [D.pys, D.py, pys_Js l]
def pr (r : Int × Int) : PyData := .tuple [.int r.1, .int r.2]
theorem pys_Rs : ∀ l : List (Int × Int), D.pys (Rs l) = some (l.map pr)
  | [] => rfl
  | a :: l => by
    have ih := pys_Rs l
    show D.pys (rn a :: Rs l) = _
    simp [D.pys, D.py, ih, rn, pr]
theorem eqvAll_int : ∀ a b : List Int, PyData.eqvAll (a.map PyData.int) (b.map PyData.int) = decide (a = b)
  | [], [] => by simp [PyData.eqvAll]
  | [], b :: bs => by simp [PyData.eqvAll]
  | a :: as, [] => by simp [PyData.eqvAll]
  | a :: as, b :: bs => by
    simp only [List.map_cons, PyData.eqvAll, PyData.eqv, eqvAll_int as bs]
    by_cases h1 : a = b <;> by_cases h2 : as = bs <;> simp [h1, h2]
theorem eqvAll_run : ∀ a b : List (Int × Int), PyData.eqvAll (a.map pr) (b.map pr) = decide (a = b)
  | [], [] => by simp [PyData.eqvAll]
  | [], b :: bs => by simp [PyData.eqvAll]
  | a :: as, [] => by simp [PyData.eqvAll]
  | a :: as, b :: bs => by
    simp only [List.map_cons, PyData.eqvAll, PyData.eqv, pr, eqvAll_run as bs]
    obtain ⟨a1, a2⟩ := a
    obtain ⟨b1, b2⟩ := b
    by_cases h1 : a1 = b1 <;> by_cases h2 : a2 = b2 <;> by_cases h3 : as = bs <;> simp [h1, h2, h3]
/-- what a market's == looks at -/
def mtD (k : Str) (size : Int) (rs : List (Int × Int)) (gone : List Int) : D := .tup [.str k, .int size, .tup (Rs rs), tp gone]
def mtP (k : Str) (size : Int) (rs : List (Int × Int)) (gone : List Int) : PyData := .tuple [.str k, .int size, .tuple (rs.map pr), .tuple (gone.map .int)]
theorem mtD_py {k : Str} {size : Int} {rs : List (Int × Int)} {gone : List Int} : (mtD k size rs gone).py = some (mtP k size rs gone) := by
  unfold mtD mtP tp
  simp [D.py, D.pys, pys_Js, pys_Rs]
theorem kind_ok {k : Str} (hk : k ∈ kinds) : PyData.strOk k = true := by
  have t : (kinds.all fun k => PyData.strOk k) = true := by kernel_rfl
  exact List.all_eq_true.mp t k hk
theorem sh_rn {n : Nat} {r : Int × Int} : Sh (n + 1) (rn r) := sh_tup (sh_two sh_int sh_int)
theorem sh_Rs {n : Nat} {rs : List (Int × Int)} : Sh (n + 2) (.tup (Rs rs)) := sh_tup fun x hx => by
  obtain ⟨r, _, rfl⟩ := List.mem_map.mp hx
  exact sh_rn
theorem mtD_sh {k : Str} {size : Int} {rs : List (Int × Int)} {gone : List Int} (hk : k ∈ kinds) : Sh 60 (mtD k size rs gone) := sh_tup (k := 59) (xs := [.str k, .int size, .tup (Rs rs), tp gone]) (by
  intro x hx
  rcases List.mem_cons.mp hx with rfl | hx
  · exact sh_str (kind_ok hk)
  · rcases List.mem_cons.mp hx with rfl | hx
    · exact sh_int
    · rcases List.mem_cons.mp hx with rfl | hx
      · exact sh_Rs
      · rcases List.mem_cons.mp hx with rfl | hx
        · exact sh_tp
        · cases hx)
theorem Sh.shaped {d : D} {p : PyData} (h : Sh 60 d) (e : d.py = some p) : SeqAt.shaped p = true := by
  obtain ⟨p', e1, e2, e3⟩ := h
  rw [e] at e1
  cases e1
  unfold SeqAt.shaped
  rw [e2, Bool.true_and, decide_eq_true_eq]
  omega
section
variable {k k2 : Str} {size size2 : Int} {rs rs2 : List (Int × Int)} {gone gone2 : List Int} {C : CR → Prop}
theorem eqD_mt (hk : k ∈ kinds) (hk2 : k2 ∈ kinds) : eqD (mtD k size rs gone) (mtD k2 size2 rs2 gone2) = some (decide (k = k2 ∧ size = size2 ∧ rs = rs2 ∧ gone = gone2)) := by
  have s1 := (mtD_sh (size := size) (rs := rs) (gone := gone) hk).shaped mtD_py
  have s2 := (mtD_sh (size := size2) (rs := rs2) (gone := gone2) hk2).shaped mtD_py
  unfold eqD
  rw [mtD_py, mtD_py]
  simp only [s1, s2, Bool.and_self, if_true]
  unfold mtP
  simp only [PyData.eqv, PyData.eqvAll, eqvAll_int, eqvAll_run, Option.some.injEq]
  by_cases h1 : k = k2 <;> by_cases h2 : size = size2 <;> by_cases h3 : rs = rs2 <;> by_cases h4 : gone = gone2 <;> simp [h1, h2, h3, h4]
theorem c_eq (hk : k ∈ kinds) (hk2 : k2 ∈ kinds) : cal f_Market___eq__ [.val (.obj (clsOf k) (mkt (clsOf k) size rs gone)), .val (.obj (clsOf k2) (mkt (clsOf k2) size2 rs2 gone2))] C ↔ C (.ret (.val (.bl (decide (k = k2 ∧ size = size2 ∧ rs = rs2 ∧ gone = gone2)))) [.val (.obj (clsOf k) (mkt (clsOf k) size rs gone)), .val (.obj (clsOf k2) (mkt (clsOf k2) size2 rs2 gone2))]) := by
  refine cal_of (of_cal ?_)
  unfold f_Market___eq__
  rw [cal_def]
  simp only [m_Market___eq__]
  have gk := gCon_mkt (size := size) (rs := rs) (gone := gone) hk
  have gs := gFld_size (size := size) (rs := rs) (gone := gone) (cls_KS hk)
  have gr := gFld_runs (size := size) (rs := rs) (gone := gone) (cls_KS hk)
  have gg := gFld_gone (size := size) (rs := rs) (gone := gone) (cls_KS hk)
  have gk2 := gCon_mkt (size := size2) (rs := rs2) (gone := gone2) hk2
  have gs2 := gFld_size (size := size2) (rs := rs2) (gone := gone2) (cls_KS hk2)
  have gr2 := gFld_runs (size := size2) (rs := rs2) (gone := gone2) (cls_KS hk2)
  have gg2 := gFld_gone (size := size2) (rs := rs2) (gone := gone2) (cls_KS hk2)
  have gi : gIsO (["Join", "Lap"] : List Str) (.obj (clsOf k2) (mkt (clsOf k2) size2 rs2 gone2)) = some (.val (.bl true)) := by
    have : clsOf k2 ∈ (["Join", "Lap"] : List Str) := by
      unfold clsOf
      split <;> simp
    show (if _ then _ else _) = _
    rw [if_pos this]
  have he : gEq (mtD k size rs gone) (mtD k2 size2 rs2 gone2) = some (.val (.bl (decide (k = k2 ∧ size = size2 ∧ rs = rs2 ∧ gone = gone2)))) := by
    unfold gEq
    rw [eqD_mt hk hk2]
    rfl
  generalize D.obj (clsOf k) (mkt (clsOf k) size rs gone) = M at *
  generalize D.obj (clsOf k2) (mkt (clsOf k2) size2 rs2 gone2) = M2 at *
  refine run_seq_of (P := fun ρ => ρ = [.val M, .val M2, .no]) (by simp [gi]) ?_
  rintro ρ rfl
  refine run_seq_of (P := fun ρ => ρ = [.val M, .val M2, .val (mtD k size rs gone)]) ?_ ?_
  · simp [gk, gs, gr, gg]
    rfl
  rintro ρ rfl
  have he' : gEq (mtD k size rs gone) (.tup [.str k2, .int size2, .tup (Rs rs2), tp gone2]) = _ := he
  simp [gk2, gs2, gr2, gg2, he']
abbrev eqT : List (Str × Fun') := [("Join", f_Market___eq__), ("Lap", f_Market___eq__)]
theorem lk_eqT (hk : k ∈ kinds) : eqT.lookup (clsOf k) = some f_Market___eq__ := by
  rcases List.mem_cons.mp hk with rfl | hk
  · kernel_rfl
  · rcases List.mem_cons.mp hk with rfl | hk
    · kernel_rfl
    · cases hk
theorem gEqO_mkt (hk : k ∈ kinds) (hk2 : k2 ∈ kinds) : gEqO eqT (.obj (clsOf k) (mkt (clsOf k) size rs gone)) (.obj (clsOf k2) (mkt (clsOf k2) size2 rs2 gone2)) = some (.val (.bl (decide (k = k2 ∧ size = size2 ∧ rs = rs2 ∧ gone = gone2)))) := by
  have h := of_cal ((c_eq (size := size) (rs := rs) (gone := gone) (size2 := size2) (rs2 := rs2) (gone2 := gone2) hk hk2).mpr rfl)
  unfold gEqO
  simp only [lk_eqT hk, lk_eqT hk2, h]
abbrev lenT : List (Str × Fun') := [("Join", f_Market___len__), ("Lap", f_Market___len__)]
theorem gLenO_mkt (hk : k ∈ kinds) (hn : rs.length ≤ 1000) : gLenO lenT (.obj (clsOf k) (mkt (clsOf k) size rs gone)) = some (.val (.int (rs.length : Nat))) := by
  have gr := gFld_runs (size := size) (rs := rs) (gone := gone) (cls_KS hk)
  have hl : lenT.lookup (clsOf k) = some f_Market___len__ := by
    rcases List.mem_cons.mp hk with rfl | hk
    · kernel_rfl
    · rcases List.mem_cons.mp hk with rfl | hk
      · kernel_rfl
      · cases hk
  have h : f_Market___len__ [.val (.obj (clsOf k) (mkt (clsOf k) size rs gone))] = some (.ret (.val (.int (rs.length : Nat))) [.val (.obj (clsOf k) (mkt (clsOf k) size rs gone))]) := of_cal (by
    unfold f_Market___len__
    rw [cal_def]
    simp [m_Market___len__, gr, gLen])
  unfold gLenO
  simp only [hl, h]
  rw [if_pos ⟨by omega, by omega⟩]
end
end L2.Fn
set_option maxRecDepth 100000
set_option maxHeartbeats 4000000
/-! K01p: the law k01, told. -/
namespace L2.Fn
open PySem PySem.Spec PyProof.Rows L2
section
variable {k : Str} {size : Int} {rs : List (Int × Int)} {gone : List Int}
theorem e_from (hk : k ∈ kinds) (hs : 1 ≤ size) (hs2 : size ≤ 25) (hin : InRow size rs) (hn : rs.length ≤ 20) (hg : Asc gone) (hi : In rs.length gone) : ∃ ss, f_market_from [.val (.str (J (lns k size rs gone ++ [es])))] = some (.ret (.ins (clsOf k) (mkt (clsOf k) size rs gone)) ss) := by
  have hlo := lns_ok (gone := gone) hk hs hs2 hin
  have hll : (lns k size rs gone).length = rs.length + 1 := by simp [lns]
  have hok : ∀ x ∈ lns k size rs gone ++ [es], OkS x := fun x hx => by
    rcases List.mem_append.mp hx with hx | hx
    · exact hlo x hx
    · simp at hx; subst hx; exact okS_e
  have hxl : (lns k size rs gone ++ [es]).length = rs.length + 2 := by simp [hll]
  have hne : lns k size rs gone ++ [es] ≠ [] := by simp
  have hje : (lns k size rs gone ++ [es])[rs.length + 1]? = some es := by
    rw [List.getElem?_append_right (by omega), hll]
    simp
  obtain ⟨r, h1, ss, rfl⟩ : cal f_market_from [.val (.str (J (lns k size rs gone ++ [es])))] fun c => ∃ ss, c = .ret (.ins (clsOf k) (mkt (clsOf k) size rs gone)) ss := by
    refine x_from (k := k) (size := size) (rs := rs) (gone := gone) (xs := lns k size rs gone ++ [es]) (j := rs.length) (n := rs.length) hk hs (by omega) hin (fun r hr => by have := hin r hr; omega) (by omega) (split_Jo hne hok) (J_len hne hok (by omega)) hxl (by omega) hok (Nat.le_refl _) ?_ ?_ (.inl rfl) ?_ ?_
    · rfl
    · intro i r hi hri
      rw [List.getElem?_append_left (by omega)]
      exact lnL_get hri
    · intro _ h2
      exact absurd hje h2
    · intro _ _ ss
      rw [List.take_of_length_le (Nat.le_refl _), gp_all hg hi]
      exact ⟨ss, rfl⟩
  exact ⟨ss, h1⟩
theorem e_widest (hk : k ∈ kinds) : ∃ ss, f_market_from [.val (.str (J [hline k 30, es]))] = some (.ret (.ins (clsOf k) (mkt (clsOf k) 30 [] [])) ss) := by
  have hok : ∀ x ∈ [hline k 30, es], OkS x := fun x hx => by
    rcases List.mem_cons.mp hx with rfl | hx
    · exact hline_ok hk (by omega) (by omega)
    · simp at hx; subst hx; exact okS_e
  have hne : [hline k 30, es] ≠ [] := by simp
  obtain ⟨r, h1, ss, rfl⟩ : cal f_market_from [.val (.str (J [hline k 30, es]))] fun c => ∃ ss, c = .ret (.ins (clsOf k) (mkt (clsOf k) 30 [] [])) ss := by
    refine x_from (k := k) (size := 30) (rs := []) (gone := []) (xs := [hline k 30, es]) (j := 0) (n := 0) hk (by omega) (by omega) (fun r hr => by cases hr) (fun r hr => by cases hr) (by simp) (split_Jo hne hok) (J_len hne hok (by simp)) rfl (by omega) hok (Nat.zero_le _) rfl (fun i r hi => by omega) (.inl rfl) ?_ ?_
    · intro _ h2
      exact absurd rfl h2
    · intro _ _ ss
      exact ⟨ss, rfl⟩
  exact ⟨ss, h1⟩
theorem widest_text (hk : k ∈ kinds) : gAdd (.str k) (.str " 30\n") = some (.val (.str (J [hline k 30, es]))) := by
  have h := J_add [hline k 30] es
  have e : k ++ " 30\n" = J [hline k 30, es] := by
    refine TL.ext_tl ?_
    have := tl_J [hline k 30] es
    rw [show [hline k 30] ++ [es] = [hline k 30, es] from rfl] at this
    rw [this, flL_one, tl_e, List.append_nil]
    unfold hline
    rw [TL.tl_append, TL.tl_append, TL.tl_append]
    have h1 : TL.tl (" 30\n" : Str) = TL.tl (" " : Str) ++ TL.tl (num 30) ++ [10] := by kernel_rfl
    rw [h1]
    simp only [List.append_assoc]
  rw [gAdd_tx (by have := kind_len hk; rw [show (" 30\n" : Str).length = 4 by decide +kernel]; omega), e]
theorem hline_inj {k2 : Str} {size2 : Int} (hk : k ∈ kinds) (hk2 : k2 ∈ kinds) (hs : 1 ≤ size) (hs2 : size ≤ 30) (h1 : 1 ≤ size2) (h2 : size2 ≤ 30) (h : hline k size = hline k2 size2) : k = k2 := by
  have e1 := e_head hk hs hs2
  have e2 := e_head hk2 h1 h2
  rw [h, e2] at e1
  simp only [Option.some.injEq, CR.ret.injEq, S.val.injEq, D.tup.injEq, List.cons.injEq, D.str.injEq] at e1
  exact e1.1.1.symm
theorem text_ne {k2 : Str} {rs2 : List (Int × Int)} {gone2 : List Int} (hk : k ∈ kinds) (hk2 : k2 ∈ kinds) (hkk : k2 ≠ k) (hs : 1 ≤ size) (hs2 : size ≤ 25) (hin : InRow size rs) (hin2 : InRow size rs2) : J (lns k2 size rs2 gone2 ++ [es]) ≠ J (lns k size rs gone ++ [es]) := fun h => by
  have f : ∀ {k : Str} {rs : List (Int × Int)} {gone : List Int}, k ∈ kinds → InRow size rs → Txt.split (J (lns k size rs gone ++ [es])) nl = lns k size rs gone ++ [es] := fun {k rs gone} hk hin => split_Jo (by simp) fun x hx => by
    rcases List.mem_append.mp hx with hx | hx
    · exact lns_ok hk hs hs2 hin x hx
    · simp at hx; subst hx; exact okS_e
  have h1 := f (gone := gone) hk hin
  have h2 := f (gone := gone2) hk2 hin2
  rw [h, h1] at h2
  have := congrArg (fun l => l[0]?) h2
  simp [lns] at this
  exact hkk (hline_inj hk hk2 hs (by omega) hs (by omega) this).symm
/-- the runs, each taken so many times as long -/
def tms (t : Int) (rs : List (Int × Int)) : List (Int × Int) := rs.map fun r => (r.1 * t, r.2 * t)
theorem tms_in {t : Int} (ht : t = 1 ∨ t = 3) (h : InRow size rs) : InRow (size * t) (tms t rs) := by
  intro r hr
  obtain ⟨q, hq, rfl⟩ := List.mem_map.mp hr
  have := h q hq
  rcases ht with rfl | rfl
  · simp; omega
  · simp; omega
end
theorem lst_Rs (l : List (Int × Int)) : gList (.lst (Rs l)) = some (.lst (Rs l)) := rfl
theorem lst_Js (l : List Int) : gList (.lst (Js l)) = some (.lst (Js l)) := rfl
theorem gNe_tupRs {l : List (Int × Int)} : gNe (.tup (Rs l)) (.tup (Rs l)) = some (.val (.bl false)) := gNe_self sh_Rs
theorem gNe_tpp {l : List Int} : gNe (tp l) (tp l) = some (.val (.bl false)) := gNe_self sh_tp
theorem other_kind {k : Str} (hk : k ∈ kinds) : ∃ k2 ∈ kinds, k2 ≠ k ∧ ∃ b : Bool, gEq (.str k) (.str "lap") = some (.val (.bl b)) ∧ gIx (.lst [.str "lap", .str "join"]) (.int (if b = true then 1 else 0)) = some (.str k2) := by
  rcases List.mem_cons.mp hk with rfl | hk
  · exact ⟨"lap", by simp [kinds], by decide, false, by kernel_rfl, rfl⟩
  · rcases List.mem_cons.mp hk with rfl | hk
    · exact ⟨"join", by simp [kinds], by decide, true, by kernel_rfl, rfl⟩
    · cases hk
theorem x_law7 (ns : List Int) (hns : ns.length ≤ 63) (C : CR → Prop) (h : ∀ ss, C (.ret (.val (.bl true)) ss)) : cal f_law_v7 [.val (.scr (Js ns))] C := by
  unfold f_law_v7
  rw [cal_def]
  simp only [m_law_v7]
  have em : f__law_market_v2 = f__law_market := rfl
  refine run_seq_of (P := fun ρ => ∃ ds : List Int, ρ = [.val (.scr (Js ns)), .lst (Js ds), .no, .no, .no, .no, .no, .no, .no, .no, .no, .no, .no, .no, .no, .no, .no, .no]) ?_ ?_
  · simp
    refine s_draws ns hns _ fun ds ss _ => ?_
    simp
    exact ⟨ds, rfl⟩
  rintro ρ ⟨ds, rfl⟩
  generalize hs0 : S.val (D.scr (Js ns)) = s0
  refine run_seq_of (P := fun ρ => ∃ (ds : List Int) (k : Str), ρ = [s0, .lst (Js ds), .val (.str k), .no, .no, .no, .no, .no, .no, .no, .no, .no, .no, .no, .no, .no, .no, .no] ∧ k ∈ kinds) ?_ ?_
  · simp
    refine x_kind fun k ds' hk => ?_
    simp
    exact ⟨_, _, ⟨rfl, rfl⟩, hk⟩
  rintro ρ ⟨ds, k, rfl, hk⟩
  have hK := cls_KS hk
  refine run_seq_of (P := fun ρ => ∃ (ds : List Int) (size0 : Int) (rs0 : List (Int × Int)) (gone0 : List Int), ρ = [s0, .lst (Js ds), .val (.str k), .lst [.int size0, .lst (Rs rs0), .lst (Js gone0)], .no, .no, .no, .no, .no, .no, .no, .no, .no, .no, .no, .no, .no, .no] ∧ 1 ≤ size0 ∧ size0 ≤ 8 ∧ InRow size0 rs0 ∧ rs0.length ≤ 9) ?_ ?_
  · simp only [em]
    simp
    refine x_market (most := 9) (by omega) fun size rs gone ds' a1 a2 a3 a4 a5 a6 a7 => ?_
    simp
    exact ⟨_, size, rs, ⟨rfl, rfl, rfl, gone, rfl⟩, a1, a2, a3, a4⟩
  rintro ρ ⟨ds, size0, rs0, gone0, rfl, a1, a2, a3, a4⟩
  refine run_seq_of (P := fun ρ => ∃ (ds : List Int) (t : Int), ρ = [s0, .lst (Js ds), .val (.str k), .lst [.int size0, .lst (Rs rs0), .lst (Js gone0)], .val (.int t), .no, .no, .no, .no, .no, .no, .no, .no, .no, .no, .no, .no, .no] ∧ (t = 1 ∨ t = 3)) ?_ ?_
  · have hd := dr_range (ds := ds) (show (0 : Int) < 2 by omega)
    have h2 : dr ds 2 = 0 ∨ dr ds 2 = 1 := by omega
    have i0 : gIx (.lst [.int 1, .int 3]) (.int 0) = some (.int 1) := rfl
    have i1 : gIx (.lst [.int 1, .int 3]) (.int 1) = some (.int 3) := rfl
    rcases h2 with h2 | h2
    · simp [c_take (show (0 : Int) < 2 by omega), h2, i0]
      exact ⟨_, 1, ⟨rfl, rfl⟩, .inl rfl⟩
    · simp [c_take (show (0 : Int) < 2 by omega), h2, i1]
      exact ⟨_, 3, ⟨rfl, rfl⟩, .inr rfl⟩
  rintro ρ ⟨ds, t, rfl, ht⟩
  have g30 : gIx (.lst [.int size0, .lst (Rs rs0), .lst (Js gone0)]) (.int 0) = some (.int size0) := rfl
  have g31 : gIx (.lst [.int size0, .lst (Rs rs0), .lst (Js gone0)]) (.int 1) = some (.lst (Rs rs0)) := rfl
  refine run_seq_of (P := fun ρ => ρ = [s0, .lst (Js ds), .val (.str k), .lst [.int size0, .lst (Rs rs0), .lst (Js gone0)], .val (.int t), .val (.int (size0 * t)), .no, .no, .no, .no, .no, .no, .no, .no, .no, .no, .no, .no]) ?_ ?_
  · have gm : gMul (.int size0) (.int t) = some (.val (.int (size0 * t))) := gMul_of (by omega) (by omega)
    simp only [run_if, run_asg, run_ret, ev_test, ev_op, ev_cold, ev_call, ev_consA, ev_nilA, ev_var, ev_ret, ev_b1, ev_warm, ev_not, ev_and, ev_or, ev_lst, ev_consL, ev_nilL, ev_tup, ev_lenN, ev_opt, ev_sl, ev_part, ev_noPart, ev_isT, ev_con, ev_fldN, ev_ix, ev_ixN, List.getElem?_cons_zero, List.getElem?_cons_succ, List.set_cons_zero, List.set_cons_succ, okx_ok, List.map_cons, List.map_nil, ar_val, io_val, io_nil, true_and, cold_val, cold_lst, cold_ins, opx_some, crb_ret, back_val, back_nil, back_no, gev_set, List.length_cons, List.length_nil, S.cold, gAdd_int, gNe_int, Option.map_some, Bool.not_true, Bool.not_false, decide_true, Bool.false_eq_true, if_false, if_true, run_nil, g30, gm]
    exact ⟨by decide, _, rfl, rfl⟩
  rintro ρ rfl
  refine run_seq_of (P := fun ρ => ∃ s7 : S, ρ = [s0, .lst (Js ds), .val (.str k), .lst [.int size0, .lst (Rs rs0), .lst (Js gone0)], .val (.int t), .val (.int (size0 * t)), .lst (Rs (tms t rs0)), s7, .no, .no, .no, .no, .no, .no, .no, .no, .no, .no]) ?_ ?_
  · have hsz : ([.int size0, .lst (Rs rs0), .lst (Js gone0)] : List D).length = 3 := rfl
    obtain ⟨ρ', h1, s, rfl⟩ := lc_pure (f := rn) (xs := rs0) (ρ := [s0, .lst (Js ds), .val (.str k), .lst [.int size0, .lst (Rs rs0), .lst (Js gone0)], .val (.int t), .val (.int (size0 * t)), .no, .no, .no, .no, .no, .no, .no, .no, .no, .no, .no, .no]) (j := 7) (c := fun _ => true) (e := fun r => rn (r.1 * t, r.2 * t)) (tt := mYes) (te := mTup (mCons (mCold (mOp gMul (mIxN 7 (ret (.int 0))) (mVar 4))) (mCons (mCold (mOp gMul (mIxN 7 (ret (.int 1))) (mVar 4))) mNil))) (by simp) (by
      rintro x hx ρ1 ⟨s, rfl⟩ hj
      rfl) (by
      rintro x hx _ ρ1 ⟨s, rfl⟩ hj
      simp at hj
      subst hj
      have hx' := a3 x hx
      have m1 : gMul (.int x.1) (.int t) = some (.val (.int (x.1 * t))) := gMul_of (by omega) (by omega)
      have m2 : gMul (.int x.2) (.int t) = some (.val (.int (x.2 * t))) := gMul_of (by omega) (by omega)
      have r1 : gIx (rn x) (.int 0) = some (.int x.1) := rfl
      have r2 : gIx (rn x) (.int 1) = some (.int x.2) := rfl
      obtain ⟨r, h1, rfl⟩ : ev (mTup (mCons (mCold (mOp gMul (mIxN 7 (ret (.int 0))) (mVar 4))) (mCons (mCold (mOp gMul (mIxN 7 (ret (.int 1))) (mVar 4))) mNil))) (([s0, .lst (Js ds), .val (.str k), .lst [.int size0, .lst (Rs rs0), .lst (Js gone0)], .val (.int t), .val (.int (size0 * t)), .no, .no, .no, .no, .no, .no, .no, .no, .no, .no, .no, .no] : Slots).set 7 (.val (rn x))) (fun r => r = .ok (rn (x.1 * t, x.2 * t)) (([s0, .lst (Js ds), .val (.str k), .lst [.int size0, .lst (Rs rs0), .lst (Js gone0)], .val (.int t), .val (.int (size0 * t)), .no, .no, .no, .no, .no, .no, .no, .no, .no, .no, .no, .no] : Slots).set 7 (.val (rn x)))) := by
        simp only [run_if, run_asg, run_ret, ev_test, ev_op, ev_cold, ev_call, ev_consA, ev_nilA, ev_var, ev_ret, ev_b1, ev_warm, ev_not, ev_and, ev_or, ev_lst, ev_consL, ev_nilL, ev_tup, ev_lenN, ev_opt, ev_sl, ev_part, ev_noPart, ev_isT, ev_con, ev_fldN, ev_ix, ev_ixN, List.getElem?_cons_zero, List.getElem?_cons_succ, List.set_cons_zero, List.set_cons_succ, okx_ok, List.map_cons, List.map_nil, ar_val, io_val, io_nil, true_and, cold_val, cold_lst, cold_ins, opx_some, crb_ret, back_val, back_nil, back_no, gev_set, List.length_cons, List.length_nil, S.cold, gAdd_int, gNe_int, Option.map_some, Bool.not_true, Bool.not_false, decide_true, Bool.false_eq_true, if_false, if_true, run_nil, r1, r2, m1, m2]
        exact ⟨le_size (by decide), rfl⟩
      exact h1)
    have el : (rs0.filter fun _ => true).map (fun r => rn (r.1 * t, r.2 * t)) = Rs (tms t rs0) := by
      rw [List.filter_eq_self.mpr (fun _ _ => rfl)]
      simp [Rs, tms]
    rw [el] at h1
    rw [run_asg]
    refine ev_lc ?_
    simp only [ev_items, run_if, run_asg, run_ret, ev_test, ev_op, ev_cold, ev_call, ev_consA, ev_nilA, ev_var, ev_ret, ev_b1, ev_warm, ev_not, ev_and, ev_or, ev_lst, ev_consL, ev_nilL, ev_tup, ev_lenN, ev_opt, ev_sl, ev_part, ev_noPart, ev_isT, ev_con, ev_fldN, ev_ix, ev_ixN, List.getElem?_cons_zero, List.getElem?_cons_succ, List.set_cons_zero, List.set_cons_succ, okx_ok, List.map_cons, List.map_nil, ar_val, io_val, io_nil, true_and, cold_val, cold_lst, cold_ins, opx_some, crb_ret, back_val, back_nil, back_no, gev_set, List.length_cons, List.length_nil, S.cold, gAdd_int, gNe_int, Option.map_some, Bool.not_true, Bool.not_false, decide_true, Bool.false_eq_true, if_false, if_true, run_nil, g31]
    refine opx_of (a := Rs rs0) rfl ⟨le_size (by rw [Rs_length]; omega), _, _, h1, ?_⟩
    simp only [okx_ok, gev_set, List.set_cons_zero, List.set_cons_succ]
    exact ⟨by simp, _, rfl, s, rfl⟩
  rintro ρ ⟨s7, rfl⟩
  have hin := tms_in ht a3
  have b1 : 1 ≤ size0 * t := by rcases ht with rfl | rfl <;> omega
  have b2 : size0 * t ≤ 24 := by rcases ht with rfl | rfl <;> omega
  have hn : (tms t rs0).length ≤ 9 := by simp [tms]; exact a4
  generalize size0 * t = size at *
  generalize tms t rs0 = rs at *
  generalize S.lst [.int size0, .lst (Rs rs0), .lst (Js gone0)] = s3
  generalize S.val (D.int t) = s4
  refine run_seq_of (P := fun ρ => ∃ (ds gone : List Int) (s9 : S), ρ = [s0, .lst (Js ds), .val (.str k), s3, s4, .val (.int size), .lst (Rs rs), s7, .lst (Js gone), s9, .no, .no, .no, .no, .no, .no, .no, .no] ∧ Asc gone ∧ In rs.length gone) ?_ ?_
  · rw [run_asg]
    refine ev_lc ?_
    simp only [ev_range1, ev_lenN, List.getElem?_cons_zero, List.getElem?_cons_succ, okx_ok, Rs_length]
    refine ⟨rg_of (by omega) (by omega), le_size (by simp [rangeD]; omega), ?_⟩
    obtain ⟨acc, ρ'', h1, l, ds', s9, h2, h3, h4, h5⟩ := ev_lcI (f := fun i : Nat => D.int (0 + (i : Nat))) (g := gSetM 9) (tt := mTest (mOp gEq (mCold (mCall f__law_take [] (mIo 1 (aCons (ret (.int 4)) aNil)))) (ret (.int 3)))) (te := mVar 9) (vs := [9]) (ρ := [s0, .lst (Js ds), .val (.str k), s3, s4, .val (.int size), .lst (Rs rs), s7, .no, .no, .no, .no, .no, .no, .no, .no, .no, .no]) (List.range rs.length)
      (fun done acc ρ => ∃ l ds2 s9, acc = Js l ∧ ρ = [s0, .lst (Js ds2), .val (.str k), s3, s4, .val (.int size), .lst (Rs rs), s7, .no, s9, .no, .no, .no, .no, .no, .no, .no, .no] ∧ l.Pairwise (· < ·) ∧ (∀ x ∈ l, 0 ≤ x ∧ x < (done.length : Int))) ⟨[], ds, .no, rfl, rfl, .nil, by simp⟩ (by
      rintro done x rest acc ρ e ⟨l, ds2, s9, rfl, rfl, hp, hl⟩
      have hx : x = done.length := by
        have := congrArg (fun l => l[done.length]?) e
        simp at this
        obtain ⟨_, h⟩ := List.getElem?_eq_some_iff.mp this
        simpa using h.symm
      simp [wipeE, c_take (show (0 : Int) < 4 by omega)]
      split
      · refine ⟨l ++ [(x : Int)], by simp, ⟨_, rfl⟩, ?_, ?_⟩
        · rw [List.pairwise_append]
          refine ⟨hp, .cons (by simp) .nil, fun a ha b hb => ?_⟩
          have := hl a ha
          simp at hb; omega
        · intro y hy
          rcases List.mem_append.mp hy with hy | hy
          · have := hl y hy; omega
          · simp at hy; omega
      · refine ⟨l, rfl, ⟨_, rfl⟩, hp, fun y hy => ?_⟩
        have := hl y hy; omega)
    subst h2 h3
    refine ⟨_, _, h1, ?_⟩
    simp only [okx_ok, gev_set, List.set_cons_zero, List.set_cons_succ]
    exact ⟨by simp, _, rfl, ds', l, s9, rfl, h4, fun x hx => by have := h5 x hx; simp at this; omega⟩
  rintro ρ ⟨ds, gone, s9, rfl, hg, hig⟩
  have hnd := hg.nd
  have hsg := sort_asc hg
  have hgl : gone.length ≤ 20 := Nat.le_trans (range_len hnd hig) (by omega)
  have hb := fun (C : CR → Prop) => c_built (C := C) (dg := .lst (Js gone)) hk b1 (by omega) hin (by omega) (.inl rfl) hnd hig (by omega)
  simp only [hsg] at hb
  have hlo := lns_ok (gone := gone) hk b1 (by omega) hin
  have hll : (lns k size rs gone).length = rs.length + 1 := by simp [lns]
  have hJo := J_ok (xs := lns k size rs gone ++ [es]) (by simp) (fun x hx => by
    rcases List.mem_append.mp hx with hx | hx
    · exact hlo x hx
    · simp at hx; subst hx; exact okS_e)
  refine run_seq_of (P := fun ρ => ρ = [s0, .lst (Js ds), .val (.str k), s3, s4, .val (.int size), .val (.lst (Rs rs)), s7, .val (.lst (Js gone)), s9, .ins (clsOf k) (mkt (clsOf k) size rs gone), .no, .no, .no, .no, .no, .no, .no]) ?_ ?_
  · simp only [run_if, run_asg, run_ret, ev_test, ev_op, ev_cold, ev_call, ev_consA, ev_nilA, ev_var, ev_ret, ev_b1, ev_warm, ev_not, ev_and, ev_or, ev_lst, ev_consL, ev_nilL, ev_tup, ev_lenN, ev_opt, ev_sl, ev_part, ev_noPart, ev_isT, ev_con, ev_fldN, ev_ix, ev_ixN, List.getElem?_cons_zero, List.getElem?_cons_succ, List.set_cons_zero, List.set_cons_succ, okx_ok, List.map_cons, List.map_nil, ar_val, io_val, io_nil, true_and, cold_val, cold_lst, cold_ins, opx_some, crb_ret, back_val, back_nil, back_no, gev_set, List.length_cons, List.length_nil, S.cold, gAdd_int, gNe_int, Option.map_some, Bool.not_true, Bool.not_false, decide_true, Bool.false_eq_true, if_false, if_true, run_nil, lst_Rs, lst_Js, hb]
    exact ⟨by decide, _, rfl, rfl⟩
  rintro ρ rfl
  refine run_seq_of (P := fun ρ => ρ = [s0, .lst (Js ds), .val (.str k), s3, s4, .val (.int size), .val (.lst (Rs rs)), s7, .val (.lst (Js gone)), s9, .ins (clsOf k) (mkt (clsOf k) size rs gone), .lst ((lns k size rs gone).map D.str), .no, .no, .no, .no, .no, .no]) ?_ ?_
  · have hc := fun (C : CR → Prop) => c_law_lines (C := C) (gone := gone) hk b1 (by omega) hin (by omega)
    simp only [run_if, run_asg, run_ret, ev_test, ev_op, ev_cold, ev_call, ev_consA, ev_nilA, ev_var, ev_ret, ev_b1, ev_warm, ev_not, ev_and, ev_or, ev_lst, ev_consL, ev_nilL, ev_tup, ev_lenN, ev_opt, ev_sl, ev_part, ev_noPart, ev_isT, ev_con, ev_fldN, ev_ix, ev_ixN, List.getElem?_cons_zero, List.getElem?_cons_succ, List.set_cons_zero, List.set_cons_succ, okx_ok, List.map_cons, List.map_nil, ar_val, io_val, io_nil, true_and, cold_val, cold_lst, cold_ins, opx_some, crb_ret, back_val, back_nil, back_no, gev_set, List.length_cons, List.length_nil, S.cold, gAdd_int, gNe_int, Option.map_some, Bool.not_true, Bool.not_false, decide_true, Bool.false_eq_true, if_false, if_true, run_nil, hc]
    exact ⟨by decide, _, rfl, rfl⟩
  rintro ρ rfl
  refine run_seq_of (P := fun ρ => ρ = [s0, .lst (Js ds), .val (.str k), s3, s4, .val (.int size), .val (.lst (Rs rs)), s7, .val (.lst (Js gone)), s9, .ins (clsOf k) (mkt (clsOf k) size rs gone), .val (.lst ((lns k size rs gone).map D.str)), .val (.str (J (lns k size rs gone ++ [es]))), .no, .no, .no, .no, .no]) ?_ ?_
  · have hc := fun (C : CR → Prop) => c_joined (C := C) hlo (by omega)
    simp only [run_if, run_asg, run_ret, ev_test, ev_op, ev_cold, ev_call, ev_consA, ev_nilA, ev_var, ev_ret, ev_b1, ev_warm, ev_not, ev_and, ev_or, ev_lst, ev_consL, ev_nilL, ev_tup, ev_lenN, ev_opt, ev_sl, ev_part, ev_noPart, ev_isT, ev_con, ev_fldN, ev_ix, ev_ixN, List.getElem?_cons_zero, List.getElem?_cons_succ, List.set_cons_zero, List.set_cons_succ, okx_ok, List.map_cons, List.map_nil, ar_val, io_val, io_nil, true_and, cold_val, cold_lst, cold_ins, opx_some, crb_ret, back_val, back_nil, back_no, gev_set, List.length_cons, List.length_nil, S.cold, gAdd_int, gNe_int, Option.map_some, Bool.not_true, Bool.not_false, decide_true, Bool.false_eq_true, if_false, if_true, run_nil, hc]
    exact ⟨by decide, _, rfl, rfl⟩
  rintro ρ rfl
  refine run_seq_of (P := fun ρ => ρ = [s0, .lst (Js ds), .val (.str k), s3, s4, .val (.int size), .val (.lst (Rs rs)), s7, .val (.lst (Js gone)), s9, .val (.obj (clsOf k) (mkt (clsOf k) size rs gone)), .val (.lst ((lns k size rs gone).map D.str)), .val (.str (J (lns k size rs gone ++ [es]))), .val (.str (J (lns k size rs gone ++ [es]))), .no, .no, .no, .no]) ?_ ?_
  · have hc := fun (C : CR → Prop) => c_market_text (C := C) (gone := gone) hk b1 (by omega) hin (by omega)
    simp only [run_if, run_asg, run_ret, ev_test, ev_op, ev_cold, ev_call, ev_consA, ev_nilA, ev_var, ev_ret, ev_b1, ev_warm, ev_not, ev_and, ev_or, ev_lst, ev_consL, ev_nilL, ev_tup, ev_lenN, ev_opt, ev_sl, ev_part, ev_noPart, ev_isT, ev_con, ev_fldN, ev_ix, ev_ixN, List.getElem?_cons_zero, List.getElem?_cons_succ, List.set_cons_zero, List.set_cons_succ, okx_ok, List.map_cons, List.map_nil, ar_val, io_val, io_nil, true_and, cold_val, cold_lst, cold_ins, opx_some, crb_ret, back_val, back_nil, back_no, gev_set, List.length_cons, List.length_nil, S.cold, gAdd_int, gNe_int, Option.map_some, Bool.not_true, Bool.not_false, decide_true, Bool.false_eq_true, if_false, if_true, run_nil, hc]
    exact ⟨by decide, _, rfl, rfl⟩
  rintro ρ rfl
  have hne := gNe_st hJo.1 hJo.1
  refine run_seq_of (P := fun ρ => ρ = [s0, .lst (Js ds), .val (.str k), s3, s4, .val (.int size), .val (.lst (Rs rs)), s7, .val (.lst (Js gone)), s9, .val (.obj (clsOf k) (mkt (clsOf k) size rs gone)), .val (.lst ((lns k size rs gone).map D.str)), .val (.str (J (lns k size rs gone ++ [es]))), .val (.str (J (lns k size rs gone ++ [es]))), .no, .no, .no, .no]) ?_ ?_
  · simp only [run_if, run_asg, run_ret, ev_test, ev_op, ev_cold, ev_call, ev_consA, ev_nilA, ev_var, ev_ret, ev_b1, ev_warm, ev_not, ev_and, ev_or, ev_lst, ev_consL, ev_nilL, ev_tup, ev_lenN, ev_opt, ev_sl, ev_part, ev_noPart, ev_isT, ev_con, ev_fldN, ev_ix, ev_ixN, List.getElem?_cons_zero, List.getElem?_cons_succ, List.set_cons_zero, List.set_cons_succ, okx_ok, List.map_cons, List.map_nil, ar_val, io_val, io_nil, true_and, cold_val, cold_lst, cold_ins, opx_some, crb_ret, back_val, back_nil, back_no, gev_set, List.length_cons, List.length_nil, S.cold, gAdd_int, gNe_int, Option.map_some, Bool.not_true, Bool.not_false, decide_true, Bool.false_eq_true, if_false, if_true, run_nil, isT_s, hne, decide_true, Bool.not_true, show (("str" : String) == "str") = true from rfl]
    exact ⟨_, rfl, rfl⟩
  rintro ρ rfl
  refine run_seq_of (P := fun ρ => ρ = [s0, .lst (Js ds), .val (.str k), s3, s4, .val (.int size), .val (.lst (Rs rs)), s7, .val (.lst (Js gone)), s9, .val (.obj (clsOf k) (mkt (clsOf k) size rs gone)), .val (.lst ((lns k size rs gone).map D.str)), .val (.str (J (lns k size rs gone ++ [es]))), .val (.str (J (lns k size rs gone ++ [es]))), .ins (clsOf k) (mkt (clsOf k) size rs gone), .no, .no, .no]) ?_ ?_
  · obtain ⟨ss, hr⟩ := e_from hk b1 (by omega) hin (by omega) hg hig
    have hr' := fun C => cal_of (C := C) hr
    simp only [run_if, run_asg, run_ret, ev_test, ev_op, ev_cold, ev_call, ev_consA, ev_nilA, ev_var, ev_ret, ev_b1, ev_warm, ev_not, ev_and, ev_or, ev_lst, ev_consL, ev_nilL, ev_tup, ev_lenN, ev_opt, ev_sl, ev_part, ev_noPart, ev_isT, ev_con, ev_fldN, ev_ix, ev_ixN, List.getElem?_cons_zero, List.getElem?_cons_succ, List.set_cons_zero, List.set_cons_succ, okx_ok, List.map_cons, List.map_nil, ar_val, io_val, io_nil, true_and, cold_val, cold_lst, cold_ins, opx_some, crb_ret, back_val, back_nil, back_no, gev_set, List.length_cons, List.length_nil, S.cold, gAdd_int, gNe_int, Option.map_some, Bool.not_true, Bool.not_false, decide_true, Bool.false_eq_true, if_false, if_true, run_nil, hr']
    exact ⟨by decide, _, rfl, rfl⟩
  rintro ρ rfl
  have gk := gCon_mkt (size := size) (rs := rs) (gone := gone) hk
  have gs := gFld_size (size := size) (rs := rs) (gone := gone) hK
  have gr := gFld_runs (size := size) (rs := rs) (gone := gone) hK
  have gg := gFld_gone (size := size) (rs := rs) (gone := gone) hK
  have nk := gNe_st (kind_ok hk) (kind_ok hk)
  refine run_seq_of (P := fun ρ => ρ = [s0, .lst (Js ds), .val (.str k), s3, s4, .val (.int size), .val (.lst (Rs rs)), s7, .val (.lst (Js gone)), s9, .val (.obj (clsOf k) (mkt (clsOf k) size rs gone)), .val (.lst ((lns k size rs gone).map D.str)), .val (.str (J (lns k size rs gone ++ [es]))), .val (.str (J (lns k size rs gone ++ [es]))), .val (.obj (clsOf k) (mkt (clsOf k) size rs gone)), .no, .no, .no]) ?_ ?_
  · simp only [run_if, run_asg, run_ret, ev_test, ev_op, ev_cold, ev_call, ev_consA, ev_nilA, ev_var, ev_ret, ev_b1, ev_warm, ev_not, ev_and, ev_or, ev_lst, ev_consL, ev_nilL, ev_tup, ev_lenN, ev_opt, ev_sl, ev_part, ev_noPart, ev_isT, ev_con, ev_fldN, ev_ix, ev_ixN, List.getElem?_cons_zero, List.getElem?_cons_succ, List.set_cons_zero, List.set_cons_succ, okx_ok, List.map_cons, List.map_nil, ar_val, io_val, io_nil, true_and, cold_val, cold_lst, cold_ins, opx_some, crb_ret, back_val, back_nil, back_no, gev_set, List.length_cons, List.length_nil, S.cold, gAdd_int, gNe_int, Option.map_some, Bool.not_true, Bool.not_false, decide_true, Bool.false_eq_true, if_false, if_true, run_nil, gk, gs, gr, gg, nk, show ∀ l, gTuple (.lst (Rs l)) = some (.val (.tup (Rs l))) from fun l => rfl, show ∀ l, gTuple (.lst (Js l)) = some (.val (tp l)) from fun l => rfl, gNe_tupRs, gNe_tpp]
    exact ⟨_, rfl, rfl⟩
  rintro ρ rfl
  refine run_seq_of (P := fun ρ => ρ = [s0, .lst (Js ds), .val (.str k), s3, s4, .val (.int size), .val (.lst (Rs rs)), s7, .val (.lst (Js gone)), s9, .val (.obj (clsOf k) (mkt (clsOf k) size rs gone)), .val (.lst ((lns k size rs gone).map D.str)), .val (.str (J (lns k size rs gone ++ [es]))), .val (.str (J (lns k size rs gone ++ [es]))), .val (.obj (clsOf k) (mkt (clsOf k) size rs gone)), .no, .no, .no]) ?_ ?_
  · have hq := gEqO_mkt (size := size) (rs := rs) (gone := gone) (size2 := size) (rs2 := rs) (gone2 := gone) hk hk
    have hc := fun (C : CR → Prop) => c_market_text (C := C) (gone := gone) hk b1 (by omega) hin (by omega)
    simp only [run_if, run_asg, run_ret, ev_test, ev_op, ev_cold, ev_call, ev_consA, ev_nilA, ev_var, ev_ret, ev_b1, ev_warm, ev_not, ev_and, ev_or, ev_lst, ev_consL, ev_nilL, ev_tup, ev_lenN, ev_opt, ev_sl, ev_part, ev_noPart, ev_isT, ev_con, ev_fldN, ev_ix, ev_ixN, List.getElem?_cons_zero, List.getElem?_cons_succ, List.set_cons_zero, List.set_cons_succ, okx_ok, List.map_cons, List.map_nil, ar_val, io_val, io_nil, true_and, cold_val, cold_lst, cold_ins, opx_some, crb_ret, back_val, back_nil, back_no, gev_set, List.length_cons, List.length_nil, S.cold, gAdd_int, gNe_int, Option.map_some, Bool.not_true, Bool.not_false, decide_true, Bool.false_eq_true, if_false, if_true, run_nil, hq, hc, hne, and_self]
    exact ⟨_, rfl, rfl⟩
  rintro ρ rfl
  obtain ⟨k2, hk2, hkk, bb, hb1, hb2⟩ := other_kind hk
  refine run_seq_of (P := fun ρ => ρ = [s0, .lst (Js ds), .val (.str k), s3, s4, .val (.int size), .val (.lst (Rs rs)), s7, .val (.lst (Js gone)), s9, .val (.obj (clsOf k) (mkt (clsOf k) size rs gone)), .val (.lst ((lns k size rs gone).map D.str)), .val (.str (J (lns k size rs gone ++ [es]))), .val (.str (J (lns k size rs gone ++ [es]))), .val (.obj (clsOf k) (mkt (clsOf k) size rs gone)), .ins (clsOf k2) (mkt (clsOf k2) size rs gone), .no, .no]) ?_ ?_
  · have hb' := fun (C : CR → Prop) => c_built (C := C) (dg := .lst (Js gone)) hk2 b1 (by omega) hin (by omega) (.inl rfl) hnd hig (by omega)
    simp only [hsg] at hb'
    simp only [run_if, run_asg, run_ret, ev_test, ev_op, ev_cold, ev_call, ev_consA, ev_nilA, ev_var, ev_ret, ev_b1, ev_warm, ev_not, ev_and, ev_or, ev_lst, ev_consL, ev_nilL, ev_tup, ev_lenN, ev_opt, ev_sl, ev_part, ev_noPart, ev_isT, ev_con, ev_fldN, ev_ix, ev_ixN, List.getElem?_cons_zero, List.getElem?_cons_succ, List.set_cons_zero, List.set_cons_succ, okx_ok, List.map_cons, List.map_nil, ar_val, io_val, io_nil, true_and, cold_val, cold_lst, cold_ins, opx_some, crb_ret, back_val, back_nil, back_no, gev_set, List.length_cons, List.length_nil, S.cold, gAdd_int, gNe_int, Option.map_some, Bool.not_true, Bool.not_false, decide_true, Bool.false_eq_true, if_false, if_true, run_nil, gInt1_bl, hb1, hb2, lst_Rs, lst_Js, hb']
    exact ⟨le_size (by decide), by decide, _, rfl, rfl⟩
  rintro ρ rfl
  refine run_seq_of (P := fun ρ => ρ = [s0, .lst (Js ds), .val (.str k), s3, s4, .val (.int size), .val (.lst (Rs rs)), s7, .val (.lst (Js gone)), s9, .val (.obj (clsOf k) (mkt (clsOf k) size rs gone)), .val (.lst ((lns k size rs gone).map D.str)), .val (.str (J (lns k size rs gone ++ [es]))), .val (.str (J (lns k size rs gone ++ [es]))), .val (.obj (clsOf k) (mkt (clsOf k) size rs gone)), .val (.obj (clsOf k2) (mkt (clsOf k2) size rs gone)), .no, .no]) ?_ ?_
  · have hq := gEqO_mkt (size := size) (rs := rs) (gone := gone) (size2 := size) (rs2 := rs) (gone2 := gone) hk hk2
    have hc := fun (C : CR → Prop) => c_market_text (C := C) (gone := gone) hk2 b1 (by omega) hin (by omega)
    have hlo2 := lns_ok (gone := gone) hk2 b1 (by omega) hin
    have hJo2 := J_ok (xs := lns k2 size rs gone ++ [es]) (by simp) (fun x hx => by
      rcases List.mem_append.mp hx with hx | hx
      · exact hlo2 x hx
      · simp at hx; subst hx; exact okS_e)
    have hd : ¬ (k = k2 ∧ size = size ∧ rs = rs ∧ gone = gone) := fun e => hkk e.1.symm
    have he := gEq_st hJo2.1 hJo.1
    rw [decide_eq_false (text_ne hk hk2 hkk b1 (by omega) hin hin)] at he
    rw [decide_eq_false hd] at hq
    simp only [run_if, run_asg, run_ret, ev_test, ev_op, ev_cold, ev_call, ev_consA, ev_nilA, ev_var, ev_ret, ev_b1, ev_warm, ev_not, ev_and, ev_or, ev_lst, ev_consL, ev_nilL, ev_tup, ev_lenN, ev_opt, ev_sl, ev_part, ev_noPart, ev_isT, ev_con, ev_fldN, ev_ix, ev_ixN, List.getElem?_cons_zero, List.getElem?_cons_succ, List.set_cons_zero, List.set_cons_succ, okx_ok, List.map_cons, List.map_nil, ar_val, io_val, io_nil, true_and, cold_val, cold_lst, cold_ins, opx_some, crb_ret, back_val, back_nil, back_no, gev_set, List.length_cons, List.length_nil, S.cold, gAdd_int, gNe_int, Option.map_some, Bool.not_true, Bool.not_false, decide_true, Bool.false_eq_true, if_false, if_true, run_nil, hq, hc, he]
    exact ⟨_, rfl, rfl⟩
  rintro ρ rfl
  have hin2 : InRow size (rs ++ [(0, size)]) := hin.append fun r hr => by simp at hr; subst hr; exact ⟨by simp, by simp; omega, by simp⟩
  have hn2 : (rs ++ [(0, size)]).length = rs.length + 1 := by simp
  have hig2 : In (rs ++ [(0, size)]).length gone := fun x hx => by have := hig x hx; rw [hn2]; omega
  refine run_seq_of (P := fun ρ => ρ = [s0, .lst (Js ds), .val (.str k), s3, s4, .val (.int size), .val (.lst (Rs rs)), s7, .val (.lst (Js gone)), s9, .val (.obj (clsOf k) (mkt (clsOf k) size rs gone)), .val (.lst ((lns k size rs gone).map D.str)), .val (.str (J (lns k size rs gone ++ [es]))), .val (.str (J (lns k size rs gone ++ [es]))), .val (.obj (clsOf k) (mkt (clsOf k) size rs gone)), .val (.obj (clsOf k2) (mkt (clsOf k2) size rs gone)), .ins (clsOf k) (mkt (clsOf k) size (rs ++ [(0, size)]) gone), .no]) ?_ ?_
  · have hb' := fun (C : CR → Prop) => c_built (C := C) (dg := .lst (Js gone)) hk b1 (by omega) hin2 (by omega) (.inl rfl) hnd hig2 (by omega)
    simp only [hsg] at hb'
    have ga : gAdd (.lst (Rs rs)) (.lst [.tup [.int 0, .int size]]) = some (.lst (Rs (rs ++ [(0, size)]))) := by
      show (if _ then _ else _) = _
      rw [if_pos (le_size (by simp; omega)), Rs_append]
      rfl
    simp only [run_if, run_asg, run_ret, ev_test, ev_op, ev_cold, ev_call, ev_consA, ev_nilA, ev_var, ev_ret, ev_b1, ev_warm, ev_not, ev_and, ev_or, ev_lst, ev_consL, ev_nilL, ev_tup, ev_lenN, ev_opt, ev_sl, ev_part, ev_noPart, ev_isT, ev_con, ev_fldN, ev_ix, ev_ixN, List.getElem?_cons_zero, List.getElem?_cons_succ, List.set_cons_zero, List.set_cons_succ, okx_ok, List.map_cons, List.map_nil, ar_val, io_val, io_nil, true_and, cold_val, cold_lst, cold_ins, opx_some, crb_ret, back_val, back_nil, back_no, gev_set, List.length_cons, List.length_nil, S.cold, gAdd_int, gNe_int, Option.map_some, Bool.not_true, Bool.not_false, decide_true, Bool.false_eq_true, if_false, if_true, run_nil, lst_Rs, lst_Js, ga, hb']
    exact ⟨le_size (by decide), le_size (by decide), by decide, _, rfl, rfl⟩
  rintro ρ rfl
  refine run_seq_of (P := fun ρ => ρ = [s0, .lst (Js ds), .val (.str k), s3, s4, .val (.int size), .val (.lst (Rs rs)), s7, .val (.lst (Js gone)), s9, .val (.obj (clsOf k) (mkt (clsOf k) size rs gone)), .val (.lst ((lns k size rs gone).map D.str)), .val (.str (J (lns k size rs gone ++ [es]))), .val (.str (J (lns k size rs gone ++ [es]))), .val (.obj (clsOf k) (mkt (clsOf k) size rs gone)), .val (.obj (clsOf k2) (mkt (clsOf k2) size rs gone)), .val (.obj (clsOf k) (mkt (clsOf k) size (rs ++ [(0, size)]) gone)), .no]) ?_ ?_
  · have hq := gEqO_mkt (size := size) (rs := rs) (gone := gone) (size2 := size) (rs2 := rs ++ [(0, size)]) (gone2 := gone) hk hk
    have hq2 := gEqO_mkt (size := size) (rs := rs ++ [(0, size)]) (gone := gone) (size2 := size) (rs2 := rs) (gone2 := gone) hk hk
    have hne1 : rs ≠ rs ++ [(0, size)] := fun e => by have := congrArg List.length e; simp at this
    rw [decide_eq_false (fun e => hne1 e.2.2.1)] at hq
    rw [decide_eq_false (fun e => hne1 e.2.2.1.symm)] at hq2
    have hc := fun (C : CR → Prop) => c_market_text (C := C) (gone := gone) hk b1 (by omega) hin2 (by omega)
    obtain ⟨ss, hr⟩ := e_from (gone := gone) hk b1 (by omega) hin2 (by omega) hg hig2
    have hr' := fun C => cal_of (C := C) hr
    have hL := gLenO_mkt (size := size) (rs := rs ++ [(0, size)]) (gone := gone) hk (by omega)
    have e1 : (((rs ++ [(0, size)]).length : Nat) : Int) = (rs.length : Int) + 1 := by rw [hn2]; omega
    rw [e1] at hL
    have hgl2 : gLen (.lst (Rs rs)) = some rs.length := by simp [gLen]
    simp only [run_if, run_asg, run_ret, ev_test, ev_op, ev_cold, ev_call, ev_consA, ev_nilA, ev_var, ev_ret, ev_b1, ev_warm, ev_not, ev_and, ev_or, ev_lst, ev_consL, ev_nilL, ev_tup, ev_lenN, ev_opt, ev_sl, ev_part, ev_noPart, ev_isT, ev_con, ev_fldN, ev_ix, ev_ixN, List.getElem?_cons_zero, List.getElem?_cons_succ, List.set_cons_zero, List.set_cons_succ, okx_ok, List.map_cons, List.map_nil, ar_val, io_val, io_nil, true_and, cold_val, cold_lst, cold_ins, opx_some, crb_ret, back_val, back_nil, back_no, gev_set, List.length_cons, List.length_nil, S.cold, gAdd_int, gNe_int, Option.map_some, Bool.not_true, Bool.not_false, decide_true, Bool.false_eq_true, if_false, if_true, run_nil, hq, hq2, hc, hr', hL, hgl2]
    try simp
    try exact ⟨_, rfl, rfl⟩
  rintro ρ rfl
  refine run_seq_of (P := fun ρ => ρ = [s0, .lst (Js ds), .val (.str k), s3, s4, .val (.int size), .val (.lst (Rs rs)), s7, .val (.lst (Js gone)), s9, .val (.obj (clsOf k) (mkt (clsOf k) size rs gone)), .val (.lst ((lns k size rs gone).map D.str)), .val (.str (J (lns k size rs gone ++ [es]))), .val (.str (J (lns k size rs gone ++ [es]))), .val (.obj (clsOf k) (mkt (clsOf k) size rs gone)), .val (.obj (clsOf k2) (mkt (clsOf k2) size rs gone)), .val (.obj (clsOf k) (mkt (clsOf k) size (rs ++ [(0, size)]) gone)), .ins (clsOf k) (mkt (clsOf k) 30 [] [])]) ?_ ?_
  · obtain ⟨ss, hr⟩ := e_widest hk
    have hr' := fun C => cal_of (C := C) hr
    simp only [run_if, run_asg, run_ret, ev_test, ev_op, ev_cold, ev_call, ev_consA, ev_nilA, ev_var, ev_ret, ev_b1, ev_warm, ev_not, ev_and, ev_or, ev_lst, ev_consL, ev_nilL, ev_tup, ev_lenN, ev_opt, ev_sl, ev_part, ev_noPart, ev_isT, ev_con, ev_fldN, ev_ix, ev_ixN, List.getElem?_cons_zero, List.getElem?_cons_succ, List.set_cons_zero, List.set_cons_succ, okx_ok, List.map_cons, List.map_nil, ar_val, io_val, io_nil, true_and, cold_val, cold_lst, cold_ins, opx_some, crb_ret, back_val, back_nil, back_no, gev_set, List.length_cons, List.length_nil, S.cold, gAdd_int, gNe_int, Option.map_some, Bool.not_true, Bool.not_false, decide_true, Bool.false_eq_true, if_false, if_true, run_nil, widest_text hk, hr']
    exact ⟨by decide, _, rfl, rfl⟩
  rintro ρ rfl
  refine run_seq_of (P := fun ρ => ∃ s17, ρ = [s0, .lst (Js ds), .val (.str k), s3, s4, .val (.int size), .val (.lst (Rs rs)), s7, .val (.lst (Js gone)), s9, .val (.obj (clsOf k) (mkt (clsOf k) size rs gone)), .val (.lst ((lns k size rs gone).map D.str)), .val (.str (J (lns k size rs gone ++ [es]))), .val (.str (J (lns k size rs gone ++ [es]))), .val (.obj (clsOf k) (mkt (clsOf k) size rs gone)), .val (.obj (clsOf k2) (mkt (clsOf k2) size rs gone)), .val (.obj (clsOf k) (mkt (clsOf k) size (rs ++ [(0, size)]) gone)), s17]) ?_ ?_
  · have gk2 := gCon_mkt (size := 30) (rs := []) (gone := []) hk
    have gs2 := gFld_size (size := 30) (rs := []) (gone := []) hK
    have gr2 := gFld_runs (size := 30) (rs := []) (gone := []) hK
    have gs3 := lk_size (K := clsOf k) (size := 30) (rs := []) (gone := [])
    have gr3 := lk_runs (K := clsOf k) (size := 30) (rs := []) (gone := [])
    have hq := gEqO_mkt (size := size) (rs := rs) (gone := gone) (size2 := 30) (rs2 := []) (gone2 := []) hk hk
    rw [decide_eq_false (fun e => by omega)] at hq
    have he : gNe (.tup (Rs [])) (.tup []) = some (.val (.bl false)) := gNe_tupRs (l := [])
    have hz : 0 ≤ sizeLine := Nat.zero_le _
    simp only [run_if, run_asg, run_ret, ev_test, ev_op, ev_cold, ev_call, ev_consA, ev_nilA, ev_var, ev_ret, ev_b1, ev_warm, ev_not, ev_and, ev_or, ev_lst, ev_consL, ev_nilL, ev_tup, ev_lenN, ev_opt, ev_sl, ev_part, ev_noPart, ev_isT, ev_con, ev_fldN, ev_ix, ev_ixN, List.getElem?_cons_zero, List.getElem?_cons_succ, List.set_cons_zero, List.set_cons_succ, okx_ok, List.map_cons, List.map_nil, ar_val, io_val, io_nil, true_and, cold_val, cold_lst, cold_ins, opx_some, crb_ret, back_val, back_nil, back_no, gev_set, List.length_cons, List.length_nil, S.cold, gAdd_int, gNe_int, Option.map_some, Bool.not_true, Bool.not_false, decide_true, Bool.false_eq_true, if_false, if_true, run_nil, hK, gk2, gs2, gr2, gs3, gr3, nk, hq, he, hz]
    try simp
    try exact ⟨_, rfl, _, rfl⟩
  rintro ρ ⟨s17, rfl⟩
  refine run_seq_of (P := fun ρ => ρ = [s0, .lst (Js ds), .val (.str k), s3, s4, .val (.int size), .val (.lst (Rs rs)), s7, .val (.lst (Js gone)), s9, .val (.obj (clsOf k) (mkt (clsOf k) size rs gone)), .val (.lst ((lns k size rs gone).map D.str)), .val (.str (J (lns k size rs gone ++ [es]))), .val (.str (J (lns k size rs gone ++ [es]))), .val (.obj (clsOf k) (mkt (clsOf k) size rs gone)), .val (.obj (clsOf k2) (mkt (clsOf k2) size rs gone)), .val (.obj (clsOf k) (mkt (clsOf k) size (rs ++ [(0, size)]) gone)), s17]) ?_ ?_
  · have hb' := fun (C : CR → Prop) => c_built (C := C) (size := size + 1) (dg := .lst (Js gone)) hk (by omega) (by omega) (fun r hr => by have := hin r hr; omega) (by omega) (.inl rfl) hnd hig (by omega)
    simp only [hsg] at hb'
    have hq := gEqO_mkt (size := size) (rs := rs) (gone := gone) (size2 := size + 1) (rs2 := rs) (gone2 := gone) hk hk
    rw [decide_eq_false (fun e => by omega)] at hq
    simp only [run_if, run_asg, run_ret, ev_test, ev_op, ev_cold, ev_call, ev_consA, ev_nilA, ev_var, ev_ret, ev_b1, ev_warm, ev_not, ev_and, ev_or, ev_lst, ev_consL, ev_nilL, ev_tup, ev_lenN, ev_opt, ev_sl, ev_part, ev_noPart, ev_isT, ev_con, ev_fldN, ev_ix, ev_ixN, List.getElem?_cons_zero, List.getElem?_cons_succ, List.set_cons_zero, List.set_cons_succ, okx_ok, List.map_cons, List.map_nil, ar_val, io_val, io_nil, true_and, cold_val, cold_lst, cold_ins, opx_some, crb_ret, back_val, back_nil, back_no, gev_set, List.length_cons, List.length_nil, S.cold, gAdd_int, gNe_int, Option.map_some, Bool.not_true, Bool.not_false, decide_true, Bool.false_eq_true, if_false, if_true, run_nil, lst_Rs, lst_Js, hb', hq]
    exact ⟨_, rfl, rfl⟩
  rintro ρ rfl
  refine run_seq_of (P := fun ρ => ρ = [s0, .lst (Js ds), .val (.str k), s3, s4, .val (.int size), .val (.lst (Rs rs)), s7, .val (.lst (Js gone)), s9, .val (.obj (clsOf k) (mkt (clsOf k) size rs gone)), .val (.lst ((lns k size rs gone).map D.str)), .val (.str (J (lns k size rs gone ++ [es]))), .val (.str (J (lns k size rs gone ++ [es]))), .val (.obj (clsOf k) (mkt (clsOf k) size rs gone)), .val (.obj (clsOf k2) (mkt (clsOf k2) size rs gone)), .val (.obj (clsOf k) (mkt (clsOf k) size (rs ++ [(0, size)]) gone)), s17]) ?_ ?_
  · have hgl2 : gLen (.lst (Js gone)) = some gone.length := by simp [gLen]
    by_cases hz : (0 : Int) < (gone.length : Int)
    · have ec : cutD (Js gone) (some 1) none = Js (gone.drop 1) := by
        have := cut_Js gone (some ((1 : Nat) : Int)) none
        rw [cut_from (by omega)] at this
        exact this
      have hg1 : Asc (gone.drop 1) := List.Pairwise.sublist (List.drop_sublist 1 gone) hg
      have hb' := fun (C : CR → Prop) => c_built (C := C) (dg := .lst (Js (gone.drop 1))) hk b1 (by omega) hin (by omega) (.inl rfl) hg1.nd (fun x hx => hig x (List.mem_of_mem_drop hx)) (by simp; omega)
      simp only [sort_asc hg1] at hb'
      have hq := gEqO_mkt (size := size) (rs := rs) (gone := gone) (size2 := size) (rs2 := rs) (gone2 := gone.drop 1) hk hk
      rw [decide_eq_false (fun e => by have := congrArg List.length e.2.2.2; simp at this; omega)] at hq
      simp only [run_if, run_asg, run_ret, ev_test, ev_op, ev_cold, ev_call, ev_consA, ev_nilA, ev_var, ev_ret, ev_b1, ev_warm, ev_not, ev_and, ev_or, ev_lst, ev_consL, ev_nilL, ev_tup, ev_lenN, ev_opt, ev_sl, ev_part, ev_noPart, ev_isT, ev_con, ev_fldN, ev_ix, ev_ixN, List.getElem?_cons_zero, List.getElem?_cons_succ, List.set_cons_zero, List.set_cons_succ, okx_ok, List.map_cons, List.map_nil, ar_val, io_val, io_nil, true_and, cold_val, cold_lst, cold_ins, opx_some, crb_ret, back_val, back_nil, back_no, gev_set, List.length_cons, List.length_nil, S.cold, gAdd_int, gNe_int, Option.map_some, Bool.not_true, Bool.not_false, decide_true, Bool.false_eq_true, if_false, if_true, run_nil, Option.pure_def, Option.bind_eq_bind, Option.bind_some, hgl2, gGt_int, hz, lst_Rs, ec, hb', hq]
      exact ⟨_, rfl, rfl⟩
    · simp only [run_if, run_asg, run_ret, ev_test, ev_op, ev_cold, ev_call, ev_consA, ev_nilA, ev_var, ev_ret, ev_b1, ev_warm, ev_not, ev_and, ev_or, ev_lst, ev_consL, ev_nilL, ev_tup, ev_lenN, ev_opt, ev_sl, ev_part, ev_noPart, ev_isT, ev_con, ev_fldN, ev_ix, ev_ixN, List.getElem?_cons_zero, List.getElem?_cons_succ, List.set_cons_zero, List.set_cons_succ, okx_ok, List.map_cons, List.map_nil, ar_val, io_val, io_nil, true_and, cold_val, cold_lst, cold_ins, opx_some, crb_ret, back_val, back_nil, back_no, gev_set, List.length_cons, List.length_nil, S.cold, gAdd_int, gNe_int, Option.map_some, Bool.not_true, Bool.not_false, decide_true, Bool.false_eq_true, if_false, if_true, run_nil, Option.pure_def, Option.bind_eq_bind, Option.bind_some, hgl2, gGt_int, hz, decide_false]
      exact ⟨_, rfl, rfl⟩
  rintro ρ rfl
  rw [run_ret]
  simp
  refine x_texts_refused hk b1 b2 hin (by omega) fun ss => ?_
  cases ss with
  | nil =>
    simp
    exact h _
  | cons s1 ss =>
    simp
    exact h _
theorem k01_plain : ∀ ns : List Int, ns.length ≤ 63 → ∃ ss, f_law_v7 [.val (.scr (ns.map D.int))] = some (.ret (.val (.bl true)) ss) := fun ns hns => by
  obtain ⟨r, h1, ss, rfl⟩ := x_law7 ns hns (fun c => ∃ ss, c = .ret (.val (.bl true)) ss) fun ss => ⟨ss, rfl⟩
  exact ⟨ss, h1⟩
end L2.Fn
set_option maxRecDepth 100000
set_option maxHeartbeats 0
open PySem PySem.W PySem.Calls PyProof.Rows L2.Fn
theorem k01_join (hlaw : ∀ ns : List Int, ns.length ≤ 63 → ∃ ss, L2.Fn.f_law_v7 [.val (.scr (ns.map D.int))] = some (.ret (.val (.bl true)) ss)) : PySem.Challenge.rw_keptparts_k01_texts_and_back.Holds := by
  w_on; o_law
  refine HandSHeadRun.head_any (r := OpenLaw.row PySem.Challenge.rw_keptparts_k01_texts_and_back) (q := view (OpenLaw.row PySem.Challenge.rw_keptparts_k01_texts_and_back).prog [50]) (H := K01.hk) (ob := K01.ob) (M := 20000) (loose := K01.names) (d := HandSHeadRun.topDef (OpenLaw.row PySem.Challenge.rw_keptparts_k01_texts_and_back).prog 50) (kwd := []) K01.ob_eq
    (by kernel_rfl) (fun s => by kernel_rfl) K01.run (by kernel_rfl) (by kernel_rfl) (by kernel_rfl) (by rfl) (by first | assumption | decide +kernel) (by decide +kernel) ⟨rfl, rfl, rfl, rfl, rfl, by decide +kernel⟩ ?hw ?hc
  case hw => w_witness2
  case hc =>
    refine L2.walk_ofE (l := PySem.Challenge.rw_keptparts_k01_texts_and_back) (n := 63) (k := 11) (x := "_law_script") (CX := L2.CX0) rfl (by decide) (by kernel_rfl) ⟨rfl, by decide, by decide⟩ ?F (fun _ _ _ _ z => z)
    intro w mg fa h Y G hmg0
    obtain ⟨K, KX, c⟩ := Y
    have hmg : mg ("law" : PySem.Str) = some (.ref fa) := by
      have e : (HandSHeadRun.topDef (OpenLaw.row PySem.Challenge.rw_keptparts_k01_texts_and_back).prog 50).name = ("law" : PySem.Str) := by kernel_rfl
      rw [← e]
      exact hmg0
    have e := hmg.symm.trans (He.glo_ok KX G (c.d.fact 23 (f := .glo "law") rfl))
    cases e
    obtain ⟨fd, hb, hF⟩ := K01.asm (w := w) KX G c
    refine ⟨K, fd, spNo (spOf K (cmOf K) 1 f_law_v7), KX, hb, fun H a ns hl _ hS => ?_, fun base hK hN => fn_cx0 (hF base hK hN)⟩
    obtain ⟨ss, hs⟩ := hlaw ns hl
    exact law_sp hS hs

set_option maxRecDepth 100000 in
set_option maxHeartbeats 0 in
theorem PySem.Challenge.cw_keptparts_k01_texts_and_back_holds : PySem.Challenge.rw_keptparts_k01_texts_and_back.Holds := by
  exact k01_join L2.Fn.k01_plain
